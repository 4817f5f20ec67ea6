import PyProof.Rows.All
import PyProof.Rules
import PyProof.Raises
import PyProof.Rules2
import PyProof.AssignAttr
import PyProof.FactsSeq
import PyProof.FactsAll.list_3
import PyProof.FactsAll.dict_3
import PyProof.TupleIter
import PyProof.AutoSeq1
import PyProof.Rules3
import PyProof.SliceSyntax
import PyProof.ForAny
import PyProof.CallRoads
import PyProof.CallType
import PyProof.CallStr
import PyProof.Cells
import PyProof.ConsumeWalk
import PyProof.StrLoop
import PyProof.StrWalks
import PyProof.CollectIter
import PyProof.CompFree
import PyProof.Conv_int
import PyProof.Conv_int_bool
import PyProof.MeetsSeq
import PyProof.DictKinds
import PyProof.MeetsDict
import PyProof.MeetsDictList
import PyProof.DictRoads
import PyProof.DictTruth
import PyProof.DictStraight
import PyProof.DictCopy
import PyProof.DictIter
import PyProof.EnumStmt
import PyProof.EqAt
import PyProof.P3Eq
import PyProof.NeData
import PyProof.ExcClass3
import PyProof.RaisesMany
import PyProof.FactsAll.set_1
import PyProof.StrLawsIn
import PyProof.SliceStr2
import PyProof.StrOps
import PyProof.StrBlock
import PyProof.StrLawsChain
import PyProof.WalksMore
import PyProof.RangeFor
import PyProof.InstStore
import PyProof.InstLoad
import PyProof.InstStoreFacts
import PyProof.IsiHeapPairs
import PyProof.IsiNone
import PyProof.IsiPairs
import PyProof.IsiSeqPairs
import PyProof.IsiTupleAll
import PyProof.ListCopy
import PyProof.ListIndexNeg
import PyProof.WalkInts
import PyProof.RulesAs
import PyProof.NsDelKeeps
import PyProof.ObjNew
import PyProof.Rows.TupAssign
import PyProof.Rows.TupSub
import PyProof.Rows.TupIn
import PyProof.Rows.StrMeet
import PyProof.WalksPairs
import PyProof.StrCalls2
import PyProof.Rows.StrJoin2
import PyProof.Rows.StrSplitAre
import PyProof.Rows.Many
import PyProof.Rows.Exc
import PyProof.Rows.StrBin
import PyProof.Rows.AttrNode
import PyProof.Rows.RuleU_int
import PyProof.Rows.RuleB_mul
import PyProof.Rows.RuleB_sub
import PyProof.Rows.RuleB_pow
import PyProof.Rows.FactsT1
import PyProof.WalksEnum
import PyProof.Rows.RuleB_floordiv
import PyProof.Rows.RuleB_mod
import PyProof.StrCalls3
import PyProof.Rows.Method
import PyProof.Rows.StrTemp
import PyProof.Rows.RuleB_small
import PyProof.Rows.RuleC_int
import PyProof.TupleOps
import PyProof.SeqI3
import PyProof.Rows.TupMore
import PyProof.SliceMore
import PyProof.StrLawsTight
import PyProof.RulesDelMore
import PyProof.Rows.SeqMore
import PyProof.Rows.TupAdd
import PyProof.TupleOfSeq
import PyProof.Rows.ReprOcc
import PyProof.Rows.SortWalk
import PyProof.Rows.TmSorted
import PyProof.Rows.PlainObj
import PyProof.Rows.SortStr
import PyProof.SetRoads
import PyProof.Rows.SetFrom
import Wide.Well
import Wide.Loose
import Open.Row
import Open.Line
import Open.Boot
import Open.Tree
import KE.IntTextText
import KE.KDictOf
import PySem.Challenge.RW_uf010009_12
set_option Elab.async false
set_option genSizeOf false
set_option genInjectivity false
set_option bootstrap.genMatcherCode false
set_option autoImplicit true
set_option linter.unusedVariables false
set_option tactic.hygienic false
set_option backward.match.sparseCases false
open PyProof.Rows.F renaming plain_set_update_loop→Mn
open PySem.Builtin.Str renaming strSliceIndices→LB,partsBetween→Nu,occurrences→ML
open List renaming getElem?_append_right→K7,exists_cons_of_ne_nil→Nc,getElem?_eq_some_iff→iN,getElem?_append_left→Ld,drop_eq_getElem_cons→Le,getElem?_eq_none_iff→Lr,getElem?_zip_eq_some→Nl,getElem?_eq_getElem→KC,pairwise_singleton→MP,filter_cons_of_neg→NI,take_of_length_le→M0,getElem?_set_self→NK,drop_eq_nil_of_le→NN,mem_append_right→AT,length_singleton→Kx,contains_iff_mem→KL,take_append_drop→K0,getElem?_eq_none→Li,getElem?_toArray→Lj,dropLast_eq_take→NT,set_getElem_self→NW,mem_of_getElem?→rW,mem_append_left→tO,mem_cons_of_mem→IN,mem_of_mem_take→LW,pairwise_append→MD,getElem?_set_ne→Na,mem_of_mem_drop→Ng,length_take_le'→N7,drop_eq_nil_iff→N8,flatMap_append→Mo,length_pos_iff→MI,length_append→eQ,mem_singleton→iD,mem_cons_self→IS,prefix_append→Lb,pairwise_cons→Mg,getElem?_map→ID,append_assoc→Ks,size_toArray→Ky,nodup_append→K1,ext_getElem?→Oz,take_sublist→OE,prefix_refl→Kw,take_length→KD,length_cons→KQ,length_take→KS,cons_ne_nil→KX,all_eq_true→K2,lookup_cons→K9,getElem_mem→La,length_drop→Lf,any_eq_true→Ls,not_mem_nil→LD,mem_flatMap→Mh,isEmpty_iff→Ms,getElem_inj→OJ,length_map→iF,mem_append→nO,append_nil→Kr,map_append→KB,nodup_cons→Mm,length_nil→NC,forIn_cons→Oc,mem_filter→Od,length_set→OZ,of_mem_zip→O5,nil_append→O7,take_zero→LC,nodup_nil→MT,drop_left→MW,replicate→M8,lt_irrefl→Nf,drop_drop→NS,mem_cons→IF,map_cons→Nx,any_cons→N0,map_drop→N4,map_take→N5,take_nil→Pd,drop_nil→Pe,lt_trans→Pg,mem_map→KW,map_map→OW,set_set→Pq,length→Nh,not_lt→O8,map_id→Py,range→LH,cons→L7,Perm→Pw
open PySem.Calls renaming Name_function_global→LZ,loadGlobal_global→MJ,evalArgs_plain→My,spliced_cons→ND,spliced_nil→OA
open Int renaming le_add_of_nonneg_right→M7,eq_ofNat_of_zero_le→K3,toNat_of_nonneg→Nn,natCast_nonneg→KZ,lt_of_lt_of_le→LQ,emod_lt_of_pos→Mc,toNat_natCast→Ox,max_eq_right→OL,emod_nonneg→LM,le_max_left→Oe,min_eq_left→O3,add_assoc→N3,ofNat_le→Ly,ofNat_lt→LN,le_trans→Mp,le_of_lt→Mx,ne_of_gt→MY,add_zero→Ni,toNat_lt→Og,toNat_le→Oh,lt_trans→Po,add_comm→Pr,one_pos→Pb,not_lt→MX,not_le→NY
open Classical renaming byContradiction→Kz
open Option renaming isNone_iff_eq_none→Mb,isSome_iff_exists→K6,bind_eq_some_iff→KV,map_eq_some_iff→EQ,none→Px,some→J,none→bY
open PySem.Builtin.Slice renaming slicePlaces→Mt,sliceAdjust→Nj
open Array renaming getElem?_eq_getElem→Nk,getElem?_eq_none→M3,getElem?_toList→M5,length_toList→Lv,mk→PA
open PySem.Builtin.Tuple renaming tupleExact→MF
open PySem.F renaming args_tuple_add_2→Nr,args_str_split_2→Nv,plainAttrs_list→MM,entry_tuple_add→NF,entry_str_split→NG,plainAttrs_dict→NH,slot_str_split→M2,slot_tuple_add→NL,plainAttrs_str→NO,called_set→LR
open PySem.Builtin.List renaming listTooLong→Nw
open PyProof.Rows renaming assign_Name→Ny,Call_Name→LG,slot_tuple_getitem→MZ,tail_any→Oj
open PySem renaming wpAny_callSpecial?_slot→Mk,builtinLookup_eq_fast→Lx,wpAny_setEntries_of→MH,wpAny_newObj_type→Lz,wpAny_truthy_bool→LJ,wpAny_setState_of→MA,fits_of_scanBound→NP,wpAny_pyIter_list→Ov,wpAny_loadPart_at→OB,wpAny_call_entry→Mf,wpAny_askSetting→MR,noFill_tuple_add→OK,wpAny_items_cons→OM,typeLookup_type→Ml,codeAny_builtin→M4,codeAny_of_tree→O4,wpAny_execs_nil→O6,wpAny_setField→NQ,wpAny_ite_true→On,wpAny_fieldsOf→Oq,isSubtype_type→O9,wpAny_holding→K4,strKind→Lc,wpAny_standAt→Mr,plainId_quiet→OF,wpAny_attempt→OG,seq_tuple_add→Pf,wpAny_typeOf→OU,concat_meets→Pn,wpAny_bind→iS,wpAny_pure→Do,wpAny_mono→Kq,typeIs_str→Ol,call_meets→OV,wpAny_rule→OX,strKind_is→Pk,DictEntry→Pt,Program→Nz,codeAny→Pp,Shared→Kv,Around→M9,wpAny→BY,Value→DO,World→Mw,Addr→KO,Heap→KR,Expr→KY,Stmt→Pm,Obj→OO
open PySem.Heap renaming get?_push_of_some→Kt,get?_update_self→Ll,get?_push_size→KM,size_push→Pa,SameBut→K8,lt_size→Ln,ExtBut→Ow
open Nat renaming le_of_succ_le_succ→NR,le_of_ble_eq_true→KN,le_of_sub_eq_zero→NV,add_le_add_right→Lq,pow_le_pow_right→Mj,sub_le_sub_right→N6,sub_succ_lt_self→N9,mul_le_mul_left→KP,add_le_add_left→L6,add_sub_cancel'→Of,lt_of_le_of_lt→Kn,lt_of_lt_of_le→KG,lt_of_le_of_ne→NE,sub_add_cancel→Oi,eq_zero_or_pos→Om,pos_of_ne_zero→Os,le_of_lt_succ→LK,le_succ_of_le→Mz,lt_succ_of_le→MC,lt_succ_of_lt→M6,lt_of_succ_lt→NM,le_of_succ_le→OD,le_max_right→KI,succ_le_succ→KJ,le_add_right→K5,lt_succ_self→Lp,min_le_right→Md,succ_ne_self→MN,min_eq_right→NZ,succ_lt_succ→ON,le_max_left→KF,min_le_left→L8,le_add_left→L9,not_lt_zero→Mu,min_eq_left→Mv,le_antisymm→NA,add_le_add→KH,mul_le_mul→Pc,lt_irrefl→Nt,add_assoc→N2,le_trans→dO,le_of_eq→Km,ne_of_lt→KA,ne_of_gt→Lg,le_of_lt→LA,lt_or_ge→LO,lt_trans→LY,zero_add→L5,succ_pos→Mq,toDigits→OS,succ_mul→OY,add_zero→Ps,le_refl→oF,zero_le→Ko,le_succ→Ma,le_zero→Ou,sub_le→Nb,max_le→NX,not_lt→OR,mod_lt→PD,ble→PG
open Bool renaming and_eq_true_iff→KU,or_eq_false_iff→LV,or_eq_true_iff→Np,not_eq_true'→Lh,eq_false_iff→OC,and_eq_true→IT,eq_iff_iff→Oa,or_eq_true→O0,and_true→Pi,false→Z,true→aT
open PySem.Around renaming under_plainId→MB
open PySem.Heap.SameBut renaming update→Lu
open List.IsPrefix renaming trans→Nq
open PySem.Code renaming quiet_builtin→Oo
open PySem.SetTable.below renaming go→Oy
open Option.some renaming inj→By
open ForInStep renaming yield→Lo
open PySem.PyData renaming depthAll→Ob
open PySem.SetTable renaming grown→MQ,below→MU
open List.cons renaming inj→LX
open PySem.NameKind renaming free→N1
open PySem.Obj renaming mapFields→OH,mapSeq→MG,putSet→Pl
open PySem.Str renaming ofString→Mi
open Prod.mk renaming inj→Ot
open PySem.Value renaming type→M1,none→Nd
open Char renaming toNat→OP
open False renaming elim→OQ
open PySem.SeqAt renaming EqAt→OT
open PySem.W renaming boot_drawn→Pj,boot_heap→LU,boot_toks→Pu
open PySem.W.WData renaming bool→PF
open PySem.Txt renaming split→Pv
open Prod renaming fst→PE,mk→NJ
open Or renaming elim→Lm
open Ne renaming symm→LP
open Iff renaming rfl→Pz
section
namespace Internal
noncomputable def HP:Bool:=false
noncomputable def EM:Bool:=false
noncomputable def uw:Bool:=false
noncomputable def D7:Bool:=true
noncomputable def D8:Bool:=false
noncomputable def D9:Bool:=false
noncomputable def HQ:Bool:=false
noncomputable def EN:Bool:=true
noncomputable def Ea:Bool:=true
noncomputable def EO:Bool:=false
noncomputable def EP:Bool:=false
noncomputable def ER:Bool:=false
noncomputable def ET:Bool:=true
noncomputable def xZ:Bool:=true
noncomputable def ux:Bool:=false
noncomputable def HR:Bool:=false
noncomputable def Bp:Bool:=false
noncomputable def kU:Bool:=false
noncomputable def HS:Bool:=true
noncomputable def uy:Bool:=false
noncomputable def Bq:Bool:=false
noncomputable def x0:Bool:=true
noncomputable def iQ:Nat:=64
end Internal
end
section
namespace Internal
open PySem
noncomputable abbrev str (s:List Nat):Str:=⟨s.toArray⟩
noncomputable def kW (e:Pt):Option (Int × Str × Int):=match e.key with
 | .str k _=>match e.val with
  | .int i _=>J (e.hash,k,i)
  | _=>bY
 | _=>bY
noncomputable def e9:List Pt->Option (List (Int × Str × Int))
 | []=>J []
 | e::es=>match kW e with
  | some x=>match e9 es with
   | some xs=>J (x::xs)
   | none=>bY
  | none=>bY
noncomputable def oZ (x:Str)(s:Kv):Option (List (Int × Str × Int)):=match s.heap.nsMap mainGlobals x with
 | some (.ref a)=>match s.heap.get? a with
  | some o=>match o.data with
   | .dict es _=>match (a != sysModules&&o.cls==.type "dict"&&o.dict.isNone&&o.slots.size==0&&s.heap.isNs mainGlobals) with
    | true=>e9 es.toList
    | false=>bY
   | _=>bY
  | none=>bY
 | _=>bY
noncomputable def qR (es:List (List Nat × Int))(w:Mw):Option (List (Int × Str × Int)):=some (es.map λp=>(hashStr w (str p.1),str p.1,p.2))
end Internal
end
section
namespace Internal
open PySem PySem.W
section
set_option maxRecDepth 100000
noncomputable def mB (tb:String->Option Builtin)(p:Nz)(w:Mw)(n₀:Nat)(ann:Option DO):Nat->SharedT->Thread->Option SharedT
 | 0,_,_=>bY
 | n+1,s,t=>match through t with
  | true=>J s
  | false=>match stepOk n₀ ann t with
   | false=>bY
   | true=>match stepT (denote tb) p w s t with
    | some (s',t')=>mB tb p w n₀ ann n s' t'
    | none=>bY
theorem wx (h:mB tb p w n₀ ann n s t=J s'):topRun tb p w n₀ ann n s.abs t=J s'.abs:=by
 induction n generalizing s t with
 | zero=>cases h
 | succ n ih=>
  unfold mB at h;unfold topRun
  cases he:through t with
  | true=>rw [he] at h;cases h;rfl
  | false=>
   rw [he] at h
   cases hk:stepOk n₀ ann t with
   | false=>rw [hk] at h;cases h
   | true=>
    rw [hk] at h
    cases hs:stepT (denote tb) p w s t with
    | none=>rw [hs] at h;cases h
    | some r=>obtain ⟨s₂,t₂⟩:=r;rw [hs] at h;rw [stepT_spec hs];exact ih h
noncomputable def x2:List OO->Nat->BT->BT
 | [],_,t=>t
 | o::l,n,t=>x2 l (n+1) (t.ins n o)
noncomputable def HT (P:Params):BT:=x2 (LU P).objs.toList 0 .nil
noncomputable def sT (P:Params)(os:OsState):SharedT:=⟨HT P,(LU P).objs.size,(LU P).life,PA [],Pj,Pu,os⟩
theorem EU (P:Params)(os:OsState):(sT P os).abs=⟨LU P,PA [],Pj,Pu,os⟩:=by kernel_rfl
theorem Br (P:Params):(LU P).isNs mainGlobals=aT:=by kernel_rfl
noncomputable def Bs (p:Nz)(N:Nat)(w:Mw)(os:OsState):Option SharedT:=
 (mB treeTable p w (LU w.params).objs.size ((LU w.params).nsMap mainGlobals "__annotations__") N (sT w.params os) (topStub p)).bind λs₁=>
  match staticsOk (importedModules p.main.body) (LU w.params) s₁.abs.heap&&namesBound p s₁.abs.heap&&gensDone s₁.abs&&laidKept (LU w.params) s₁.abs.heap with
   | true=>J s₁
   | false=>bY
theorem Bt {p:Nz}{N:Nat}{w:Mw}{os:OsState}{s₁:SharedT}(h:Bs p N w os=J s₁):topFrom treeTable p w N ⟨LU w.params,PA [],Pj,Pu,os⟩=J s₁.abs:=by
 obtain ⟨s,h1,h2⟩:=KV.mp h;have h1:=wx h1;rw [EU] at h1;unfold topFrom;show (match (LU w.params).isNs mainGlobals&&aT with
  | true=>(topRun treeTable p w (LU w.params).objs.size ((LU w.params).nsMap mainGlobals "__annotations__") N ⟨LU w.params,PA [],Pj,Pu,os⟩ (topStub p)).bind _
  | false=>bY)=_
 rw [Br,h1];show (match staticsOk (importedModules p.main.body) (LU w.params) s.abs.heap&&namesBound p s.abs.heap&&gensDone s.abs&&laidKept (LU w.params) s.abs.heap with
   | true=>J s.abs
   | false=>bY)=_
 cases hb:(staticsOk (importedModules p.main.body) (LU w.params) s.abs.heap&&namesBound p s.abs.heap&&gensDone s.abs&&laidKept (LU w.params) s.abs.heap) with
 | true=>rw [hb] at h2;cases h2;rfl
 | false=>rw [hb] at h2;cases h2
theorem wy (e:opening p=plainProg p.main.scope.names)(hN:PG 600 N=aT)(f:∀s,fenceModules? p s=J s)
  (h:∀(w:Mw) (os:OsState),(Bs p N w os).map (λs=>(openSeen q loose (importedModules p.main.body) Xt aT s.abs,Yf s.abs))=J (openGood q loose,Ya w)):LeftO p q loose Xt Yf Ya N:=λw=>by
 obtain ⟨s₀,h0,hv⟩:=EQ.mp (boot_open e hN f w);obtain ⟨hp,gens,drawn,toks,os⟩:=s₀;obtain ⟨e1,hv⟩:=Ot hv;obtain ⟨e2,hv⟩:=Ot hv;obtain ⟨e3,e4⟩:=Ot hv;dsimp only at e1 e2 e3 e4;subst e1 e2 e3 e4;obtain ⟨s₁,h1,h2⟩:=EQ.mp (h w os);unfold openEnds;rw [h0];show (topFrom treeTable p w N _).map _=_;rw [Bt h1];show J (openSeen q loose (importedModules p.main.body) Xt aT s₁.abs,Yf s₁.abs)=J _;rw [h2]
end
end Internal
end
section
namespace Internal
open PySem PySem.W PyProof.Rows
section
set_option maxHeartbeats 0
set_option maxRecDepth 100000
set_option Elab.async false
theorem dR {a b:Bool}(h:a=aT)(k:b=aT):(a&&b)=aT:=by rw [h,k];rfl
theorem Ju:Challenge.rw_uf010009_12.wellSaid=aT:=by
 refine dR (dR (dR (dR (dR (dR (dR (dR (dR (dR (dR (dR (dR (dR (dR (dR (dR (dR ?_ ?_) ?_) ?_) ?_) ?_) ?_) ?_) ?_) ?_) ?_) ?_) ?_) ?_) ?_) ?_) ?_) ?_) ?_
 all_goals decide +kernel
noncomputable def Q12:Program:=PySem.W.view Challenge.pw_uf010009_12 [1,2,3,4,5,6,7,8,10,11,12,13,14,15,16,17,18,19,20,21,22,23,24,25,26,27,29,30,31,32,33,34,35,36,37,38,39,40,42,43,44,45,46,47,48,50,51,52,53,54,55,56,57,58,59,60,62,63,64,65,67,68,69,70,71,72,73,74,75,76,77,78,79,80,81,82,83,84,85,86,87,88,89,90,91,92,93,94,95,96,97]
noncomputable def HU:List (Str × WData):=[("MODULUS",WData.int 1000000)]
noncomputable def x3:List (List Nat × Int):=[([115,101,116],3),([116,101,108,108],2),([115,107,105,112],1),([105,102],4),([119,104,105,108,101],3)]
noncomputable def X12:Kv->Bool:=λs=>xlAt Q12 HU s&&recOk (RowW.records Challenge.rw_uf010009_12.row.toRowW) s
noncomputable abbrev hsa (s:SharedT):=(seen ((recsOf Q12).map (·.name)) (ownsOf Q12) [] { s.abs with gens:=#[] },s.abs.heap.bltView)
noncomputable abbrev hga (w:Mw):=(expectedOf Q12,bltViewBooted)
noncomputable abbrev hsb (s:SharedT):=(s.abs.heap.keysOk (looseW Q12 ["MODULUS","THINGS"]) ((recsOf Q12).map (·.name)) ((litsOf Q12).map (·.1)) ((clssOf Q12 (looseW Q12 ["MODULUS","THINGS"])).map (·.name)),plainSeenD Q12 ["MODULUS","THINGS"] s.abs)
noncomputable abbrev hgb (w:Mw):=(aT,plainGoodD Q12 ["MODULUS","THINGS"])
noncomputable abbrev hsc (s:SharedT):=(oZ "THINGS" s.abs,tabsOk Q12 s.abs)
noncomputable abbrev hgc (w:Mw):=(qR x3 w,aT)
noncomputable abbrev hsd (s:SharedT):=(pinSeenD Q12 (drecsOf Q12) s.abs,plainSeenE Q12 (looseW Q12 ["MODULUS","THINGS"]) s.abs,clsSeenW Q12 ["MODULUS","THINGS"] s.abs,X12 s.abs)
noncomputable abbrev hgd (w:Mw):=(pinGoodD (drecsOf Q12),plainGoodE Q12 (looseW Q12 ["MODULUS","THINGS"]),clsGoodW Q12 ["MODULUS","THINGS"],aT)
noncomputable abbrev hse (s:SharedT):=((s.abs.heap.accountedOkI (importedModules Challenge.pw_uf010009_12.main.body),s.abs.heap.isNs mainGlobals,s.abs.heap.isNs builtinsNs,tablesOk Q12 s.abs.heap,(if aT then s.abs.gens.size==0 else !leftWithCleanup s.abs.gens)),wideSeen Q12 s.abs)
noncomputable abbrev hge (w:Mw):=((aT,aT,aT,aT,aT),wideGood Q12)
noncomputable abbrev oO (b:Bool) (w:Mw) (os:OsState):=Bs Challenge.pw_uf010009_12 10000 (w.withFollow "special-get-raises" b) os
theorem EV:∀(w:Mw) (os:OsState),(oO Z w os).map hsa=J (hga (w.withFollow "special-get-raises" Z)):=by
 intro w os;kernel_rfl
theorem EW:∀(w:Mw) (os:OsState),(oO Z w os).map hsb=J (hgb (w.withFollow "special-get-raises" Z)):=by
 intro w os;kernel_rfl
theorem EX:∀(w:Mw) (os:OsState),(oO Z w os).map hsc=J (hgc (w.withFollow "special-get-raises" Z)):=by
 intro w os;kernel_rfl
theorem EY:∀(w:Mw) (os:OsState),(oO Z w os).map hsd=J (hgd (w.withFollow "special-get-raises" Z)):=by
 intro w os;kernel_rfl
theorem EZ:∀(w:Mw) (os:OsState),(oO Z w os).map hse=J (hge (w.withFollow "special-get-raises" Z)):=by
 intro w os;kernel_rfl
theorem E0:∀(w:Mw) (os:OsState),(oO aT w os).map hsa=J (hga (w.withFollow "special-get-raises" aT)):=by
 intro w os;kernel_rfl
theorem E2:∀(w:Mw) (os:OsState),(oO aT w os).map hsb=J (hgb (w.withFollow "special-get-raises" aT)):=by
 intro w os;kernel_rfl
theorem E3:∀(w:Mw) (os:OsState),(oO aT w os).map hsc=J (hgc (w.withFollow "special-get-raises" aT)):=by
 intro w os;kernel_rfl
theorem E4:∀(w:Mw) (os:OsState),(oO aT w os).map hsd=J (hgd (w.withFollow "special-get-raises" aT)):=by
 intro w os;kernel_rfl
theorem E5:∀(w:Mw) (os:OsState),(oO aT w os).map hse=J (hge (w.withFollow "special-get-raises" aT)):=by
 intro w os;kernel_rfl
theorem lM {α β γ δ:Type _}{o:Option α}{f:α->β}{g:α->γ}{b:β}{c:γ}(h:o.map f=J b)(k:o.map g=J c)(F:β->γ->δ):o.map (λs=>F (f s) (g s))=J (F b c):=by
 obtain ⟨s,rfl,rfl⟩:=EQ.mp h
 cases k;rfl
noncomputable abbrev x4 {A1 A2 B2 C1 C2 D1 D2 D3 E1:Type _}(x:(((A1 × A2) × Bool × B2) × C1 × C2) × D1 × D2 × D3 × Bool) (y:(Bool × Bool × Bool × Bool × Bool) × E1):=((x.1.1.1.1,x.1.1.1.2,x.1.1.2.1&&y.1.1&&y.1.2.1&&y.1.2.2.1&&y.1.2.2.2.1&&x.2.2.2.2&&y.1.2.2.2.2,(x.1.2.2,x.2.1,x.2.2.1,x.1.1.2.2,y.2,x.2.2.2.1)),x.1.2.1)
theorem E6:opening Challenge.pw_uf010009_12=plainProg Challenge.pw_uf010009_12.main.scope.names:=by kernel_rfl
theorem Bu (s:Kv):fenceModules? Challenge.pw_uf010009_12 s=J s:=by kernel_rfl
theorem E7:LeftO Challenge.pw_uf010009_12 Q12 ["MODULUS","THINGS"] X12 (oZ "THINGS") (qR x3) 10000:=
 wy E6 rfl Bu (byRow2 "special-get-raises" (P:=λw=>∀os:OsState,(Bs Challenge.pw_uf010009_12 10000 w os).map (λs=>(openSeen Q12 ["MODULUS","THINGS"] (importedModules Challenge.pw_uf010009_12.main.body) X12 aT s.abs,oZ "THINGS" s.abs))=J (openGood Q12 ["MODULUS","THINGS"],qR x3 w))
  (λw os=>lM (lM (lM (lM (EV w os) (EW w os) NJ) (EX w os) NJ) (EY w os) NJ) (EZ w os) x4) λw os=>lM (lM (lM (lM (E0 w os) (E2 w os) NJ) (E3 w os) NJ) (E4 w os) NJ) (E5 w os) x4)
end
end Internal
end
section
namespace Internal
theorem same (h:x=J a)(k:x=J b):a=b:=By (h.symm.trans k)
theorem bc {α:Type _}{x:Option α}{a:α}{P:Prop}(h:x=bY)(k:x=J a):P:=by cases h.symm.trans k
theorem aJ {α:Type _}{a:α}{P:Prop}(h:bY=J a):P:=by cases h
theorem jF {α:Type _}{a:α}{P:Prop}(h:J a=bY):P:=by cases h
theorem ff {P:Prop}(h:Z=aT):P:=Bool.noConfusion h
theorem tf {P:Prop}(h:aT=Z):P:=Bool.noConfusion h
theorem aO {α:Type _}{a:α}{P:Prop}(h:a∈([]:List α)):P:=(LD h).elim
theorem e02 {p q:Prop}{G:Prop}(h:p/\q)(k:p->q->G):G:=by
 obtain ⟨h1,h2⟩:=h;exact k h1 h2
theorem e03 {p q r:Prop}{G:Prop}(h:p/\q/\r)(k:p->q->r->G):G:=by
 obtain ⟨h1,h2,h3⟩:=h;exact k h1 h2 h3
theorem e04 {p q r s:Prop}{G:Prop}(h:p/\q/\r/\s)(k:p->q->r->s->G):G:=by
 obtain ⟨h1,h2,h3,h4⟩:=h;exact k h1 h2 h3 h4
theorem e05 {p q r s t:Prop}{G:Prop}(h:p/\q/\r/\s/\t)(k:p->q->r->s->t->G):G:=by
 obtain ⟨h1,h2,h3,h4,h5⟩:=h;exact k h1 h2 h3 h4 h5
theorem e11 {α:Type _}{p:α->Prop}{G:Prop}(h:∃a,p a)(k:∀a,p a->G):G:=by
 obtain ⟨a,h1⟩:=h;exact k a h1
theorem e12 {α:Type _}{p q:α->Prop}{G:Prop}(h:∃a,p a/\q a)(k:∀a,p a->q a->G):G:=by
 obtain ⟨a,h1,h2⟩:=h;exact k a h1 h2
theorem e13 {α:Type _}{p q r:α->Prop}{G:Prop}(h:∃a,p a/\q a/\r a)(k:∀a,p a->q a->r a->G):G:=by
 obtain ⟨a,h1,h2,h3⟩:=h;exact k a h1 h2 h3
theorem e14 {α:Type _}{p q r s:α->Prop}{G:Prop}(h:∃a,p a/\q a/\r a/\s a)(k:∀a,p a->q a->r a->s a->G):G:=by
 obtain ⟨a,h1,h2,h3,h4⟩:=h;exact k a h1 h2 h3 h4
theorem e15 {α:Type _}{p q r s t:α->Prop}{G:Prop}(h:∃a,p a/\q a/\r a/\s a/\t a)(k:∀a,p a->q a->r a->s a->t a->G):G:=by
 obtain ⟨a,h1,h2,h3,h4,h5⟩:=h;exact k a h1 h2 h3 h4 h5
theorem e21 {α:Type _}{β:Type _}{p:α->β->Prop}{G:Prop}(h:∃a b,p a b)(k:∀a b,p a b->G):G:=by
 obtain ⟨a,b,h1⟩:=h;exact k a b h1
theorem e22 {α:Type _}{β:Type _}{p q:α->β->Prop}{G:Prop}(h:∃a b,p a b/\q a b)(k:∀a b,p a b->q a b->G):G:=by
 obtain ⟨a,b,h1,h2⟩:=h;exact k a b h1 h2
theorem e23 {α:Type _}{β:Type _}{p q r:α->β->Prop}{G:Prop}(h:∃a b,p a b/\q a b/\r a b)(k:∀a b,p a b->q a b->r a b->G):G:=by
 obtain ⟨a,b,h1,h2,h3⟩:=h;exact k a b h1 h2 h3
theorem e32 {α:Type _}{β:Type _}{γ:Type _}{p q:α->β->γ->Prop}{G:Prop}(h:∃a b c,p a b c/\q a b c)(k:∀a b c,p a b c->q a b c->G):G:=by
 obtain ⟨a,b,c,h1,h2⟩:=h;exact k a b c h1 h2
theorem e33 {α:Type _}{β:Type _}{γ:Type _}{p q r:α->β->γ->Prop}{G:Prop}(h:∃a b c,p a b c/\q a b c/\r a b c)(k:∀a b c,p a b c->q a b c->r a b c->G):G:=by
 obtain ⟨a,b,c,h1,h2,h3⟩:=h;exact k a b c h1 h2 h3
theorem e34 {α:Type _}{β:Type _}{γ:Type _}{p q r s:α->β->γ->Prop}{G:Prop}(h:∃a b c,p a b c/\q a b c/\r a b c/\s a b c)(k:∀a b c,p a b c->q a b c->r a b c->s a b c->G):G:=by
 obtain ⟨a,b,c,h1,h2,h3,h4⟩:=h;exact k a b c h1 h2 h3 h4
theorem e35 {α:Type _}{β:Type _}{γ:Type _}{p q r s t:α->β->γ->Prop}{G:Prop}(h:∃a b c,p a b c/\q a b c/\r a b c/\s a b c/\t a b c)(k:∀a b c,p a b c->q a b c->r a b c->s a b c->t a b c->G):G:=by
 obtain ⟨a,b,c,h1,h2,h3,h4,h5⟩:=h;exact k a b c h1 h2 h3 h4 h5
theorem e43 {α:Type _}{β:Type _}{γ:Type _}{δ:Type _}{p q r:α->β->γ->δ->Prop}{G:Prop}(h:∃a b c d,p a b c d/\q a b c d/\r a b c d)(k:∀a b c d,p a b c d->q a b c d->r a b c d->G):G:=by
 obtain ⟨a,b,c,d,h1,h2,h3⟩:=h;exact k a b c d h1 h2 h3
theorem n1 {a b c d:Nat}(h:a<=b)(e:c+b<=d+a:=by simp +arith only):c<=d:=Nat.le_of_add_le_add_right (dO e (L6 h d))
theorem n2 {a b a' b' c d:Nat}(h:a<=b)(h':a'<=b')(e:c+(b+b')<=d+(a+a'):=by simp +arith only):c<=d:=n1 (KH h h') e
theorem n3 {a b a' b' a2 b2 c d:Nat}(h:a<=b)(h':a'<=b')(h2:a2<=b2)(e:c+(b+(b'+b2))<=d+(a+(a'+a2)):=by simp +arith only):c<=d:=n2 h (KH h' h2) e
theorem z1 {a b c d:Int}(h:a<=b)(e:c+b<=d+a:=by simp +arith only):c<=d:=Int.le_of_add_le_add_right (Mp e (Int.add_le_add_left h d))
theorem z2 {a b a' b' c d:Int}(h:a<=b)(h':a'<=b')(e:c+(b+b')<=d+(a+a'):=by simp +arith only):c<=d:=z1 (Int.add_le_add h h') e
theorem mx {a b c:Nat}(h:a<=c)(k:b<=c):max a b<=c:=NX.mpr ⟨h,k⟩
theorem mx0 {a c:Nat}(h:a<=c):max a 0<=c:=mx h (Ko _)
theorem m0x {a c:Nat}(h:a<=c):max 0 a<=c:=mx (Ko _) h
theorem lk (h:a<=b)(k:PG b c=aT):a<=c:=dO h (KN k)
theorem m3l (h:3 * max a b+c<N):3 * a+c<N:=Kn (Lq (KP 3 (KF a b)) c) h
theorem m3r (h:3 * max a b+c<N):3 * b+c<N:=Kn (Lq (KP 3 (KI a b)) c) h
theorem dn {d k:Int}{n:Nat}(h:d+n<=k):¬ k<d:=MX.mpr (Mp (M7 (KZ _)) h)
theorem dl (h:d+((max a b+1:Nat):Int)<=k):d+1+a<=k/\d+1+b<=k:=
 have h:d+((max a b:Nat)+1:Int)<=k:=h
 ⟨z2 h (Ly.mpr (KF a b)),z2 h (Ly.mpr (KI a b))⟩
theorem nb (h:PG a b=aT):a<=b:=KN h
theorem nf {P:Prop}(h:1<=0):P:=absurd h (Nat.not_succ_le_self 0)
theorem em0 {x k:Int}(h:decide (0<k)=aT):0<=x % k:=LM _ (MY (of_decide_eq_true h))
theorem em2 {x k K:Int}(h:(decide (0<k)&&decide (k<=K))=aT):x % k<K:=by
 obtain ⟨h1,h2⟩:=KU.mp h;exact LQ (Mc _ (of_decide_eq_true h1)) (of_decide_eq_true h2)
theorem em {x k K:Int}(h:(decide (0<k)&&decide (k<=K))=aT):0<=x % k/\x % k<K:=⟨em0 (KU.mp h).1,em2 h⟩
theorem emN {x k:Int}{n:Nat}(h:(decide (0<k)&&decide (k<=(n:Int)))=aT):(x % k).toNat<n:=(Og (em0 (KU.mp h).1)).mpr (em2 h)
theorem sb {n k:Nat}(h:k<=n):n=n-k+k:=(Oi h).symm
theorem kX {n:Nat}(h:0<n):(0:Int)<n:=Int.natCast_pos.mpr h
theorem cne {n:Nat}(h:0<n):(n:Int)≠0:=MY (kX h)
theorem tn {k:Int}{n:Nat}(h0:0<=k)(h:k<n):k.toNat<n:=(Og h0).mpr h
set_option genCtorIdx false in
inductive MV where
 | none | bool (b:Bool) | int (i:Int) | str (s:List Nat) | tup (xs:List MV) | ref (i:Nat) | inst (c i:Nat) | scr (is:List Int) | gt (ss:List (List Nat)) | cdict (es:List (List Nat × Int))
gen_injective_theorems% MV
set_option genCtorIdx false in
inductive MO where
 | list (xs:List MV) | dict (es:List (List Nat × MV)) | attrs (es:List (List Nat × MV)) | exc (c:Nat)
gen_injective_theorems% MO
set_option genCtorIdx false in
structure MS where
 vars:List (Option MV)
 heap:List MO
set_option genCtorIdx false in
inductive Fl where
 | next | brk | cont | ret (v:MV)
gen_injective_theorems% Fl
noncomputable abbrev XT:=Nat->List MO->Prop
noncomputable abbrev XM:=Nat->MS->Prop
noncomputable abbrev KT:=Nat->Nat->List MV->(MV->List MO->Prop)->XT->List MO->Prop
set_option genCtorIdx false in
inductive Op where
 | add | sub | mul | fdiv | mod | pow (u:Unit:=())
gen_injective_theorems% Op
set_option genCtorIdx false in
inductive Cmp where
 | eq | ne | lt | le | gt | ge | inn | nin (u:Unit:=())
gen_injective_theorems% Cmp
set_option genCtorIdx false in
inductive Bi where
 | len | int | str | list | tuple | dict | sortedSet | sorted | sum | min | max | all | listRev (u:Unit:=())
gen_injective_theorems% Bi
set_option genCtorIdx false in
inductive Me where
 | append | extend | insert | pop | popAt | dpop | clear | dclear | count | index | find | split | join | get (u:Unit:=())
gen_injective_theorems% Me
set_option genCtorIdx false in
inductive TS where
 | int | bool | str | list | tuple | dict | cls (c:Nat) | valueError
gen_injective_theorems% TS
set_option genCtorIdx false in
inductive IK where
 | val | range1 | range2 | enum | keys (u:Unit:=())
gen_injective_theorems% IK
set_option genCtorIdx false in
inductive ME where
 | cst (v:MV)
 | var (i:Nat)
 | glob (g:Nat) (v:MV)
 | bin (op:Op) (a b:ME)
 | neg (a:ME)
 | not (a:ME)
 | and (es:List ME)
 | or (es:List ME)
 | cmp (op:Cmp) (a b:ME)
 | cmp2 (op op':Cmp) (a b c:ME)
 | isN (pos:Bool) (a:ME)
 | call (f:Nat) (args:List ME)
 | blt (b:Bi) (args:List ME)
 | mth (k:Me) (o:ME) (args:List ME)
 | umth (c f:Nat) (x:List Nat) (o:ME) (args:List ME)
 | new (c f:Nat) (args:List ME)
 | attr (c:Nat) (o:ME) (x:List Nat)
 | idx (o i:ME)
 | sl (o:ME) (lo hi:Option ME)
 | list (es:List ME)
 | tup (es:List ME)
 | dict0
 | comp (elt:ME) (t:List Nat) (many:Bool) (k:IK) (src:List ME) (ifs:List ME)
 | isi (a:ME) (ts:List TS)
gen_injective_theorems% ME
set_option genCtorIdx false in
inductive MSt where
 | asg (t:List Nat) (many:Bool) (e:ME)
 | setAttr (c:Nat) (o:ME) (x:List Nat) (e:ME)
 | setIdx (o i e:ME)
 | expr (e:ME)
 | ite (c:ME) (a b:List MSt)
 | for_ (t:List Nat) (many:Bool) (k:IK) (src:List ME) (body:List MSt)
 | while_ (c:ME) (body:List MSt)
 | ret (e:ME)
 | cont
 | raise (c:Nat)
 | try_ (body:List MSt) (c:Nat) (v:Nat) (h:List MSt)
gen_injective_theorems% MSt
noncomputable def MS.set (m:MS)(i:Nat)(v:MV):MS:=⟨m.vars.set i (J v),m.heap⟩
noncomputable def MS.get (m:MS)(i:Nat):Option MV:=match m.vars[i]? with
 | some (J v)=>J v
 | _=>bY
noncomputable def MS.unset (m:MS)(i:Nat):MS:=⟨m.vars.set i bY,m.heap⟩
noncomputable def MS.push (m:MS)(o:MO):MS:=⟨m.vars,m.heap++[o]⟩
noncomputable def MS.put (m:MS)(i:Nat)(o:MO):MS:=⟨m.vars,m.heap.set i o⟩
noncomputable def fC (x:Int):Prop:=x.natAbs<2 ^ 63
noncomputable def line:Nat:=2 ^ 24
noncomputable abbrev PQ:=MV->MS->Prop
set_option genCtorIdx false in
inductive D where
 | none | bool (b:Bool) | int (i:Int) | str (s:List Nat) | list (xs:List D) | tup (xs:List D)
gen_injective_theorems% D
mutual
noncomputable def D.deq:D->D->Bool
 | .none,.none=>aT
 | .bool a,.bool b=>a==b
 | .bool a,.int j=>(if a then 1 else 0)==j
 | .int i,.bool b=>i==(if b then 1 else 0)
 | .int i,.int j=>i==j
 | .str x,.str y=>x==y
 | .list xs,.list ys=>D.deqs xs ys
 | .tup xs,.tup ys=>D.deqs xs ys
 | _,_=>Z
noncomputable def D.deqs:List D->List D->Bool
 | [],[]=>aT
 | x::xs,y::ys=>D.deq x y&&D.deqs xs ys
 | _,_=>Z
end
mutual
noncomputable def D.deep:D->Nat
 | .list xs | .tup xs=>D.deeps xs+1
 | _=>0
noncomputable def D.deeps:List D->Nat
 | []=>0
 | x::xs=>max (D.deep x) (D.deeps xs)
end
mutual
noncomputable def D.ok:D->Bool
 | .list xs | .tup xs=>D.oks xs
 | .str s=>s.all (λc=>decide (c<55296))
 | _=>aT
noncomputable def D.oks:List D->Bool
 | []=>aT
 | x::xs=>D.ok x&&D.oks xs
end
mutual
inductive Rd (hp:List MO):MV->D->Prop
 | none:Rd hp .none .none
 | bool (b):Rd hp (.bool b) (.bool b)
 | int (i):Rd hp (.int i) (.int i)
 | str (s):Rd hp (.str s) (.str s)
 | tup {xs ds}:Rds hp xs ds->Rd hp (.tup xs) (.tup ds)
 | list {i xs ds}:hp[i]?=J (.list xs)->Rds hp xs ds->Rd hp (.ref i) (.list ds)
inductive Rds (hp:List MO):List MV->List D->Prop
 | nil:Rds hp [] []
 | cons {x xs d ds}:Rd hp x d->Rds hp xs ds->Rds hp (x::xs) (d::ds)
end
noncomputable def aeq:MV->MV->Option Bool
 | .none,.none=>J aT
 | .bool a,.bool b=>J (a==b)
 | .int i,.int j=>J (i==j)
 | .str x,.str y=>J (x==y)
 | .none,.int _ | .none,.str _ | .none,.bool _ | .int _,.none | .int _,.str _ | .str _,.none | .str _,.int _ | .bool _,.none | .str _,.bool _ | .bool _,.str _=>J Z
 | _,_=>bY
inductive EqP (hp:List MO)(x y:MV)(Q:Bool->Prop):Prop
 | mk (d e:D) (hd:Rd hp x d) (he:Rd hp y e) (hk:d.deep<=1000) (h1:d.ok=aT) (h2:e.ok=aT) (hq:Q (d.deq e))
 | dicts (hu:HP=aT) (i j:Nat) (es:List (List Nat × MV)) (hx:x=.ref i) (hy:y=.ref j) (hi:hp[i]?=J (.dict es)) (hj:hp[j]?=J (.dict es)) (hl:∀e∈es,∃k,e.2=.int k) (hn:(es.map (·.1)).Nodup) (hq:Q aT)
 | nil (i j:Nat) (xs:List MV) (hx:x=.ref i) (hy:y=.ref j) (hi:hp[i]?=J (.list xs)) (hj:hp[j]?=J (.list [])) (hq:Q xs.isEmpty)
inductive InP (hp:List MO)(x:MV)(ys:List MV)(Q:Bool->Prop):Prop
 | mk (d:D) (es:List D) (hd:Rd hp x d) (he:Rds hp ys es) (hk:d.deep<=1000) (h1:d.ok=aT) (h2:D.oks es=aT) (hq:Q (es.any (λe=>e.deq d)))
noncomputable def aN:List (List Nat × MV)->List Nat->Option MV
 | [],_=>bY
 | (k,v)::r,x=>match k==x with
  | true=>J v
  | false=>aN r x
noncomputable def bH:List (List Nat × MV)->List Nat->MV->List (List Nat × MV)
 | [],x,v=>[(x,v)]
 | (k,w)::r,x,v=>match k==x with
  | true=>(k,v)::r
  | false=>(k,w)::bH r x v
noncomputable def HV:List (List Nat × MV)->List Nat->List (List Nat × MV)
 | [],_=>[]
 | (k,w)::r,x=>match k==x with
  | true=>r
  | false=>(k,w)::HV r x
noncomputable def onS (x:MV)(f:List Nat->Prop):Prop:=match x with
 | .str s=>f s
 | _=>False
theorem iR (h:onS x f):∃s,x=.str s/\f s:=by
 cases x with
 | str s=>exact ⟨s,rfl,h⟩
 | _=>exact h.elim
noncomputable def onL (o:Option (Nat × List MV))(f:Nat->List MV->Prop):Prop:=match o with
 | some (a,b)=>f a b
 | none=>False
noncomputable def on1 (vs:List MV)(f:MV->Prop):Prop:=match vs with
 | [v]=>f v
 | _=>False
noncomputable def onO {α:Type}(o:Option α)(f:α->Prop):Prop:=match o with
 | some a=>f a
 | none=>False
theorem mC (h:onL o f):∃r xs,o=J (r,xs)/\f r xs:=by
 cases o with
 | none=>exact h.elim
 | some q=>cases q;exact ⟨_,_,rfl,h⟩
theorem jU (h:on1 vs f):∃v,vs=[v]/\f v:=by
 cases vs with
 | nil=>exact h.elim
 | cons v r=>
  cases r with
  | nil=>exact ⟨v,rfl,h⟩
  | cons=>exact h.elim
theorem de (h:onO o f):∃a,o=J a/\f a:=by
 cases o with
 | none=>exact h.elim
 | some a=>exact ⟨a,rfl,h⟩
noncomputable def onI (x:MV)(f:Int->Prop):Prop:=match x with
 | .int s=>f s
 | _=>False
noncomputable def on2 (vs:List MV)(f:MV->MV->Prop):Prop:=match vs with
 | [v,w]=>f v w
 | _=>False
noncomputable def onD (o:Option (Nat × List (List Nat × MV)))(f:Nat->List (List Nat × MV)->Prop):Prop:=match o with
 | some (a,b)=>f a b
 | none=>False
theorem Bv (h:onD o f):∃r xs,o=J (r,xs)/\f r xs:=by
 cases o with
 | none=>exact h.elim
 | some q=>cases q;exact ⟨_,_,rfl,h⟩
theorem pV (h:onI x f):∃s,x=.int s/\f s:=by
 cases x with
 | int s=>exact ⟨s,rfl,h⟩
 | _=>exact h.elim
theorem Bw (h:on2 vs f):∃v w,vs=[v,w]/\f v w:=by
 rcases vs with _ | ⟨v,_ | ⟨w,_ | ⟨u,r⟩⟩⟩
 ·exact h.elim
 ·exact h.elim
 ·exact ⟨v,w,rfl,h⟩
 ·exact h.elim
noncomputable def onN (y:List Nat)(f:Nat->Prop):Prop:=match y with
 | [a]=>f a
 | _=>False
theorem Bx (h:onN y f):∃a,y=[a]/\f a:=by
 cases y with
 | nil=>exact h.elim
 | cons a r=>
  cases r with
  | nil=>exact ⟨a,rfl,h⟩
  | cons=>exact h.elim
noncomputable def onT (b:Bool)(P:Prop):Prop:=match b with
 | true=>P
 | false=>False
theorem jV (h:onT b P):b=aT/\P:=by
 cases b with
 | true=>exact ⟨rfl,h⟩
 | false=>exact h.elim
noncomputable def onR (x:MV)(f:Nat->Prop):Prop:=match x with
 | .ref r=>f r
 | _=>False
theorem fD (h:onR x f):∃r,x=.ref r/\f r:=by
 cases x with
 | ref r=>exact ⟨r,rfl,h⟩
 | _=>exact h.elim
noncomputable def jG (o:Option MO)(f:List MV->Prop):Prop:=match o with
 | some (.list xs)=>f xs
 | _=>False
theorem cY (h:jG o f):∃xs,o=J (.list xs)/\f xs:=by
 cases o with
 | none=>exact h.elim
 | some o=>
  cases o with
  | list xs=>exact ⟨xs,rfl,h⟩
  | _=>exact h.elim
noncomputable def x5 (o:Option MO)(f:List (List Nat × MV)->Prop):Prop:=match o with
 | some (.dict xs)=>f xs
 | _=>False
theorem qS (h:x5 o f):∃xs,o=J (.dict xs)/\f xs:=by
 cases o with
 | none=>exact h.elim
 | some o=>
  cases o with
  | dict xs=>exact ⟨xs,rfl,h⟩
  | _=>exact h.elim
noncomputable def sP (o:Option MO)(f:List MV->Prop)(g:List (List Nat × MV)->Prop):Prop:=match o with
 | some (.list xs)=>f xs
 | some (.dict xs)=>g xs
 | _=>False
theorem jW (h:sP o f g):(∃xs,o=J (.list xs)/\f xs)\/∃xs,o=J (.dict xs)/\g xs:=by
 cases o with
 | none=>exact h.elim
 | some o=>
  cases o with
  | list xs=>exact .inl ⟨xs,rfl,h⟩
  | dict xs=>exact .inr ⟨xs,rfl,h⟩
  | _=>exact h.elim
theorem av (e:o=J (.list xs))(h:f xs):sP o f g:=by rw [e];exact h
theorem iU (e:o=J (.dict xs))(h:g xs):sP o f g:=by rw [e];exact h
noncomputable def HW (vs:List MV)(f:MV->Prop)(g:MV->MV->Prop):Prop:=match vs with
 | [x]=>f x
 | [x,y]=>g x y
 | _=>False
theorem x6 (h:HW vs f g):(∃x,vs=[x]/\f x)\/∃x y,vs=[x,y]/\g x y:=by
 rcases vs with _ | ⟨v,_ | ⟨w,_ | ⟨u,r⟩⟩⟩
 ·exact h.elim
 ·exact .inl ⟨v,rfl,h⟩
 ·exact .inr ⟨v,w,rfl,h⟩
 ·exact h.elim
noncomputable def Eb (o:Option MO)(x:MV)(Q:Bool->Prop)(hp:List MO):Prop:=sP o (λys=>InP hp x ys Q) λes=>onS x λs=>Q (aN es s).isSome
noncomputable def cds (es:List (List Nat × Int)):List (List Nat × MV):=es.map λp=>(p.1,.int p.2)
noncomputable def E8 (x c:MV)(Q:Bool->Prop)(hp:List MO):Prop:=
 match c with
 | .tup ys=>InP hp x ys Q
 | .gt ss=>InP hp x (ss.map .str) Q
 | .ref i=>Eb hp[i]? x Q hp
 | .cdict es=>onS x λs=>Q (aN (cds es) s).isSome
 | .str s=>onS x λy=>onN y λa=>Q (s.contains a)
 | _=>False
noncomputable def eqB (o:Option Bool)(hp:List MO)(x y:MV)(Q:Bool->Prop):Prop:=match o with
 | some b=>Q b
 | none=>EqP hp x y Q
theorem uz (h:eqB o hp x y Q):(∃b,o=J b/\Q b)\/EqP hp x y Q:=by
 cases o with
 | some b=>exact .inl ⟨b,rfl,h⟩
 | none=>exact .inr h
noncomputable def lN (op:Cmp)(x y:MV)(Q:Bool->MS->Prop)(m:MS):Prop:=
 match op with
 | .eq=>eqB (aeq x y) m.heap x y (λb=>Q b m)
 | .ne=>eqB (aeq x y) m.heap x y (λb=>Q (!b) m)
 | .lt=>onI x λi=>onI y λj=>Q (decide (i<j)) m
 | .le=>onI x λi=>onI y λj=>Q (decide (i<=j)) m
 | .gt=>onI x λi=>onI y λj=>Q (decide (j<i)) m
 | .ge=>onI x λi=>onI y λj=>Q (decide (j<=i)) m
 | .inn=>E8 x y (λb=>Q b m) m.heap
 | .nin=>E8 x y (λb=>Q (!b) m) m.heap
noncomputable def uO (a b:MV)(Q:PQ)(m:MS):Prop:=match a with
 | .int x=>match b with
  | .int y=>Q (.int (x+y)) m
  | _=>False
 | .str x=>match b with
  | .str y=>x.length+y.length<=line/\Q (.str (x++y)) m
  | _=>False
 | .tup x=>match b with
  | .tup y=>x.length+y.length<=line/\Q (.tup (x++y)) m
  | _=>False
 | .ref i=>match b with
  | .ref j=>jG m.heap[i]? λx=>jG m.heap[j]? λy=>x.length+y.length<=line/\Q (.ref m.heap.length) (m.push (.list (x++y)))
  | _=>False
 | _=>False
noncomputable def pW (op:Op)(x y:Int)(Q:PQ)(m:MS):Prop:=match op with
 | .add=>Q (.int (x+y)) m
 | .sub=>Q (.int (x-y)) m
 | .mul=>(fC x\/fC y)/\Q (.int (x * y)) m
 | .fdiv=>onT (decide (0<y/\y<2 ^ 30)) (Q (.int (x / y)) m)
 | .mod=>onT (decide (0<y)) (Q (.int (x % y)) m)
 | .pow=>onT (decide (x=10/\(y=6\/y=9))) (Q (.int (x ^ y.toNat)) m)
noncomputable def m3 (op:Op)(a b:MV)(Q:PQ)(m:MS):Prop:=onI a λx=>onI b λy=>pW op x y Q m
noncomputable def HX (a:MV)(k:Int)(Q:PQ)(m:MS):Prop:=match a with
 | .str s=>uw=aT/\((0<=k/\k<=1000)/\s.length<=1000)/\Q (.str (M8 k.toNat s).flatten) m
 | .ref i=>jG m.heap[i]? λxs=>on1 xs λv=>EM=aT/\(0<=k/\k<=1000000)/\Q (.ref m.heap.length) (m.push (.list (M8 k.toNat v)))
 | _=>False
noncomputable def Ec (a b:MV)(Q:PQ)(m:MS):Prop:=match b with
 | .int y=>match a with
  | .int x=>pW .mul x y Q m
  | a=>HX a y Q m
 | _=>False
noncomputable def x7 (op:Op)(a b:MV)(Q:PQ)(m:MS):Prop:=match op with
 | .add=>uO a b Q m
 | .sub=>m3 .sub a b Q m
 | .mul=>Ec a b Q m
 | .fdiv=>m3 .fdiv a b Q m
 | .mod=>m3 .mod a b Q m
 | .pow=>m3 .pow a b Q m
noncomputable def g9 (k:Int)(n:Nat):Option Nat:=
 match decide (0<=k),decide (k<(n:Int)),decide (-(n:Int)<=k) with
 | true,aT,_=>J k.toNat
 | false,_,aT=>J (k+n).toNat
 | _,_,_=>bY
noncomputable def wz (k:Int)(n:Nat):Nat:=
 match decide (0<=k) with
 | true=>min k.toNat n
 | false=>(k+n).toNat
noncomputable def aQ {α:Type}(xs:List α)(lo hi:Option Int):List α:=
 let a:=match lo with
  | none=>0
  | some k=>wz k xs.length
 let b:=match hi with
  | none=>xs.length
  | some k=>wz k xs.length
 (xs.take b).drop a
noncomputable def eJ {α:Type}(xs:List α)(k:Int)(f:α->Prop):Prop:=onO (g9 k xs.length) λj=>onO xs[j]? f
theorem aw (h1:g9 k xs.length=J j)(h2:xs[j]?=J v)(h:f v):eJ xs k f:=by
 unfold eJ;rw [h1];show onO xs[j]? f;rw [h2];exact h
noncomputable def Ed (x i:MV)(Q:PQ)(m:MS):Prop:=
 match i with
 | .int k=>match x with
  | .tup xs=>eJ xs k λv=>Q v m
  | .str s=>eJ s k λc=>Q (.str [c]) m
  | .ref r=>jG m.heap[r]? λxs=>eJ xs k λv=>Q v m
  | .scr xs=>eJ xs k λv=>Q (.int v) m
  | _=>False
 | .str s=>match x with
  | .ref r=>x5 m.heap[r]? λes=>onO (aN es s) λv=>Q v m
  | .cdict es=>onO (aN (cds es) s) λv=>Q v m
  | _=>False
 | _=>False
noncomputable def sQ:Option MV->Option (Option Int)
 | none=>J bY
 | some (.int k)=>J (J k)
 | some _=>bY
noncomputable def Ee (x:MV)(lo hi:Option Int)(Q:PQ)(m:MS):Prop:=match x with
 | .str s=>Q (.str (aQ s lo hi)) m
 | .tup xs=>onO lo λk=>(D7=aT/\hi=bY/\1<=k/\1<=xs.length)/\Q (.tup (xs.drop k.toNat)) m
 | .scr xs=>Q (.ref m.heap.length) (m.push (.list (aQ (xs.map .int) lo hi)))
 | .ref r=>jG m.heap[r]? λxs=>Q (.ref m.heap.length) (m.push (.list (aQ xs lo hi)))
 | _=>False
noncomputable def HY (x:MV)(lo hi:Option MV)(Q:PQ)(m:MS):Prop:=onO (sQ lo) λlo=>onO (sQ hi) λhi=>Ee x lo hi Q m
noncomputable def slt:List Nat->List Nat->Bool
 | [],[]=>Z
 | [],_::_=>aT
 | _::_,[]=>Z
 | a::x,b::y=>match decide (a<b),a==b with
  | true,_=>aT
  | false,aT=>slt x y
  | false,Z=>Z
noncomputable def sR (s:List Nat):List (List Nat)->List (List Nat)
 | []=>[s]
 | t::r=>match slt s t,s==t with
  | true,_=>s::t::r
  | false,aT=>t::r
  | false,Z=>t::sR s r
noncomputable def aK:List (List Nat)->List (List Nat)
 | []=>[]
 | s::r=>sR s (aK r)
noncomputable def b2i:Bool->Int
 | true=>1
 | false=>0
theorem Ef (h:n<64):n<iQ:=KG h (nb rfl)
inductive HZ (xs:List MV)(Q:List (List Nat)->Prop):Prop
 | mk (ss:List (List Nat)) (he:xs=ss.map .str) (hl:(aK ss).length<iQ) (hz:ss.length<4000) (hq:Q (aK ss))
inductive Jv (xs:List MV)(Q:Int->Prop):Prop
 | mk (is:List Int) (he:xs=is.map .int) (hb:∀i∈is,0<=i/\i<=1000000) (hl:is.length<=1000000) (hq:Q is.sum)
noncomputable def dec (k:Int):List Nat:=(toString k).toList.map OP
noncomputable def Eg (x:MV)(Q:PQ)(m:MS):Prop:=match x with
 | .tup xs=>Q (.int xs.length) m
 | .str xs=>Q (.int xs.length) m
 | .scr xs=>Q (.int xs.length) m
 | .ref r=>sP m.heap[r]? (λxs=>Q (.int xs.length) m) λxs=>Q (.int xs.length) m
 | _=>False
noncomputable def qT (x:MV)(Q:PQ)(m:MS):Prop:=match x with
 | .ref r=>sP m.heap[r]? (λxs=>Q (.ref m.heap.length) (m.push (.list xs))) λes=>D9=aT/\Q (.ref m.heap.length) (m.push (.list (es.map λp=>.str p.1)))
 | .tup xs=>Q (.ref m.heap.length) (m.push (.list xs))
 | _=>False
inductive x8 (xs:List MV)(Q:List (List Nat × MV)->Prop):Prop
 | mk (hu:HQ=aT) (es:List (List Nat × MV)) (he:xs=es.map λp=>.tup [.str p.1,p.2]) (hn:(es.map (·.1)).Nodup) (hl:es.length<1000000) (hq:Q es)
inductive sS (xs:List MV)(Q:List Bool->Prop):Prop
 | mk (bs:List Bool) (he:xs=bs.map .bool) (hl:bs.length<1000000) (hq:Q bs)
inductive Jw (xs:List MV)(Q:Int->Prop):Prop
 | mk (hu:Bq=aT) (is:List Int) (he:xs=is.map .int) (hz:is≠[]) (hl:is.length<1000000) (k:Int) (h1:k∈is) (h2:∀i∈is,k<=i) (hq:Q k)
noncomputable def gE (b:Bi)(x:MV)(Q:PQ)(m:MS):Prop:=match b with
 | .len=>Eg x Q m
 | .int=>match x with
  | .bool b=>Q (.int (b2i b)) m
  | .str s=>HS=aT/\∃k:Int,s=dec k/\(0<=k/\k<1000000)/\Q (.int k) m
  | _=>False
 | .str=>match x with
  | .str s=>Q (.str s) m
  | .int k=>(-1<=k/\k<1000000)/\Q (.str (dec k)) m
  | _=>False
 | .list=>qT x Q m
 | .tuple=>onR x λr=>jG m.heap[r]? λxs=>Q (.tup xs) m
 | .dict=>onR x λr=>sP m.heap[r]? (λxs=>x8 xs λes=>Q (.ref m.heap.length) (m.push (.dict es))) λes=>Q (.ref m.heap.length) (m.push (.dict es))
 | .sum=>onR x λr=>jG m.heap[r]? λxs=>Jv xs λk=>Q (.int k) m
 | .all=>onR x λr=>jG m.heap[r]? λxs=>sS xs λbs=>Q (.bool (bs.all id)) m
 | .listRev=>onR x λr=>jG m.heap[r]? λxs=>Q (.ref m.heap.length) (m.push (.list xs.reverse))
 | .sorted=>onR x λr=>x5 m.heap[r]? λes=>(es.map (·.1)).Nodup/\es.length<iQ/\Q (.ref m.heap.length) (m.push (.list ((aK (es.map (·.1))).map .str)))
 | .min=>onR x λr=>jG m.heap[r]? λxs=>Jw xs λk=>Q (.int k) m
 | .sortedSet=>onR x λr=>jG m.heap[r]? λxs=>HZ xs (λss=>Q (.ref m.heap.length) (m.push (.list (ss.map .str))))
 | _=>False
noncomputable def sW (b:Bi)(x y:Int)(Q:PQ)(m:MS):Prop:=match b with
 | .min=>Q (.int (min x y)) m
 | .max=>Q (.int (max x y)) m
 | _=>False
noncomputable def E9 (b:Bi)(x y:MV)(Q:PQ)(m:MS):Prop:=onI x λi=>onI y λj=>sW b i j Q m
noncomputable def o0 (b:Bi)(vs:List MV)(Q:PQ)(m:MS):Prop:=HW vs (λx=>gE b x Q m) λx y=>E9 b x y Q m
noncomputable def wA (r:Nat)(o:Option MO):Option (Nat × List MV):=match o with
 | some (.list xs)=>J (r,xs)
 | _=>bY
noncomputable def lst (o:MV)(hp:List MO):Option (Nat × List MV):=match o with
 | .ref r=>wA r hp[r]?
 | _=>bY
theorem Bz (h:lst x hp=J (r,xs)):x=.ref r/\hp[r]?=J (.list xs):=by
 cases x with
 | ref i=>
  replace h:wA i hp[i]?=J (r,xs):=h
  cases e:hp[i]? with
  | none=>rw [e] at h;exact aJ h
  | some o=>
   rw [e] at h
   cases o with
   | list ys=>cases h;exact ⟨rfl,e⟩
   | _=>exact aJ h
 | _=>exact aJ h
noncomputable def d9 (c:Nat):List (List Nat)->List Nat
 | []=>[]
 | [w]=>w
 | w::r=>w++c::d9 c r
noncomputable def BA (r:Nat)(o:Option MO):Option (Nat × List (List Nat × MV)):=match o with
 | some (.dict xs)=>J (r,xs)
 | _=>bY
noncomputable def dct (o:MV)(hp:List MO):Option (Nat × List (List Nat × MV)):=match o with
 | .ref r=>BA r hp[r]?
 | _=>bY
theorem BB (h:dct x hp=J (r,xs)):x=.ref r/\hp[r]?=J (.dict xs):=by
 cases x with
 | ref i=>
  replace h:BA i hp[i]?=J (r,xs):=h
  cases e:hp[i]? with
  | none=>rw [e] at h;exact aJ h
  | some o=>
   rw [e] at h
   cases o with
   | dict ys=>cases h;exact ⟨rfl,e⟩
   | _=>exact aJ h
 | _=>exact aJ h
noncomputable def uP:MV->Prop
 | .bool aT=>True
 | _=>False
noncomputable def dt (k:Me)(o:MV)(vs:List MV)(Q:PQ)(m:MS):Prop:=match k with
 | .append=>onL (lst o m.heap) λr xs=>on1 vs λv=>xs.length<line/\Q .none (m.put r (.list (xs++[v])))
 | .extend=>onL (lst o m.heap) λr xs=>on1 vs λv=>onL (lst v m.heap) λ_ ys=>xs.length+ys.length<=line/\Q .none (m.put r (.list (xs++ys)))
 | .pop=>ET=aT/\onL (lst o m.heap) λr xs=>vs=[]/\onO xs[xs.length-1]? λv=>Q v (m.put r (.list xs.dropLast))
 | .popAt=>onL (lst o m.heap) λr xs=>on1 vs λv=>onI v λk=>(0<=k/\k<xs.length)/\onO xs[k.toNat]? λv=>Q v (m.put r (.list (xs.eraseIdx k.toNat)))
 | .insert=>onL (lst o m.heap) λr xs=>on2 vs λv w=>onI v λk=>((0<=k/\k<=xs.length)/\xs.length<line)/\Q .none (m.put r (.list (xs.take k.toNat++w::xs.drop k.toNat)))
 | .clear=>onL (lst o m.heap) λr _=>vs=[]/\Q .none (m.put r (.list []))
 | .count=>kU=aT/\onL (lst o m.heap) λ_ xs=>on1 vs λv=>uP v/\sS xs λbs=>Q (.int (bs.count aT)) m
 | .index=>onL (lst o m.heap) λ_ xs=>on1 vs λv=>uP v/\sS xs λbs=>aT∈bs/\Q (.int (bs.idxOf aT)) m
 | .dpop=>kU=aT/\onD (dct o m.heap) λr es=>on1 vs λv=>onS v λs=>onO (aN es s) λw=>Q w (m.put r (.dict (HV es s)))
 | .dclear=>kU=aT/\onD (dct o m.heap) λr _=>vs=[]/\Q .none (m.put r (.dict []))
 | .get=>x0=aT/\onD (dct o m.heap) λ_ es=>on2 vs λv d=>onS v λs=>Q ((aN es s).getD d) m
 | .join=>ux=aT/\onS o λs=>on1 vs λv=>onL (lst v m.heap) λ_ xs=>∃c ws,(s=[c]/\xs=ws.map .str)/\(d9 c ws).length<=1000000/\Q (.str (d9 c ws)) m
 | .find=>on1 vs λv=>onS v λ_=>∀k:Int,-1<=k->Q (.int k) m
 | .split=>xZ=aT/\onS o λs=>on1 vs λv=>onS v λy=>∃c,y=[c]/\s.length<1000000/\∀ws:List (List Nat),ws≠[]->(∀w∈ws,c∉w)->d9 c ws=s->Q (.ref m.heap.length) (m.push (.list (ws.map .str)))
set_option genCtorIdx false in
inductive MK where
 | list | dict | str (u:Unit:=())
gen_injective_theorems% MK
noncomputable def meK:Me->MK
 | .dpop=>.dict
 | .dclear=>.dict
 | .get=>.dict
 | .join=>.str
 | .find=>.str
 | .split=>.str
 | _=>.list
noncomputable def x9:MV->Bool
 | .str _=>aT
 | _=>Z
theorem sX (h:x9 x=aT):∃y,x=.str y:=by
 cases x with
 | str y=>exact ⟨y,rfl⟩
 | _=>exact ff h
noncomputable def jX (k:Me)(x:MV)(hp:List MO):Bool:=match meK k with
 | .list=>(lst x hp).isSome
 | .dict=>(dct x hp).isSome
 | .str=>x9 x
set_option genCtorIdx false in
inductive Kd where
 | none | bool | int | str | tuple | list | dict | exc (c:Nat)
gen_injective_theorems% Kd
noncomputable def nob:TS->Option Bool
 | .cls _=>Px
 | .valueError=>Px
 | _=>J Z
noncomputable def wB (k:Kd)(t:TS):Option Bool:=match k with
 | .none=>nob t
 | .bool=>match t with
  | .bool=>J aT
  | .int=>J aT
  | t=>nob t
 | .int=>match t with
  | .int=>J aT
  | t=>nob t
 | .str=>match t with
  | .str=>J aT
  | t=>nob t
 | .tuple=>match t with
  | .tuple=>J aT
  | t=>nob t
 | .list=>match t with
  | .list=>J aT
  | t=>nob t
 | .dict=>match t with
  | .dict=>J aT
  | t=>nob t
 | .exc c=>match t with
  | .cls d=>J (c==d||d==0)
  | .valueError=>J aT
  | _=>Px
noncomputable def kdO:Option MO->Option Kd
 | some (.list _)=>J .list
 | some (.dict _)=>J .dict
 | some (.exc c)=>J (.exc c)
 | _=>bY
noncomputable def yb (hp:List MO):MV->Option Kd
 | .none=>J .none
 | .bool _=>J .bool
 | .int _=>J .int
 | .str _=>J .str
 | .tup _=>J .tuple
 | .ref r=>kdO hp[r]?
 | _=>bY
noncomputable def kdT (o:Option Kd)(t:TS):Option Bool:=match o with
 | some k=>wB k t
 | none=>bY
theorem mD (h:kdT o t=J b):∃k,o=J k/\wB k t=J b:=by
 cases o with
 | none=>exact aJ h
 | some k=>exact ⟨k,rfl,h⟩
noncomputable def tyO (o:Option MO)(t:TS):Option Bool:=kdT (kdO o) t
noncomputable def kY (hp:List MO)(x:MV)(t:TS):Option Bool:=kdT (yb hp x) t
noncomputable abbrev Gd:=Option (Nat × MO)
noncomputable abbrev Its:=Option (List MV × Gd)
noncomputable def Eh (hp:List MO)(x:MV):Its:=match x with
 | .ref r=>match hp[r]? with
  | some (.list xs)=>J (xs,J (r,.list xs))
  | _=>bY
 | .tup xs=>J (xs,bY)
 | .str s=>match s.all (λc=>decide (c<128)) with
  | true=>J (s.map (λc=>.str [c]),bY)
  | false=>bY
 | _=>bY
noncomputable def Fa (x:MV):Its:=match x with
 | .int n=>match decide (-16777216<=n/\n<=16777216) with
  | true=>J ((LH n.toNat).map (λ(i:Nat)=>.int i),bY)
  | false=>bY
 | _=>bY
noncomputable def Jx (x y:MV):Its:=match x with
 | .int a=>match y with
  | .int b=>match decide ((0<=a/\a<=16777216)/\0<=b/\b<=16777216) with
   | true=>J ((LH (b-a).toNat).map (λ(i:Nat)=>.int (a+i)),bY)
   | false=>bY
  | _=>bY
 | _=>bY
noncomputable def sY (hp:List MO)(x:MV):Its:=match x with
 | .ref r=>match hp[r]? with
  | some (.list xs)=>J (xs.zipIdx.map (λp=>.tup [.int p.2,p.1]),J (r,.list xs))
  | _=>bY
 | _=>bY
noncomputable def Fb (hp:List MO)(x:MV):Its:=match uy with
 | true=>match x with
  | .ref r=>match hp[r]? with
   | some (.dict es)=>J (es.map (λp=>.str p.1),J (r,.dict es))
   | _=>bY
  | _=>bY
 | false=>bY
noncomputable def H0 (x y:MV):Its:=match HR with
 | true=>Jx x y
 | false=>bY
noncomputable def dz (k:IK)(vs:List MV)(hp:List MO):Its:=
 match vs with
 | [x]=>match k with
  | .val=>Eh hp x
  | .range1=>Fa x
  | .enum=>sY hp x
  | .keys=>Fb hp x
  | .range2=>bY
 | [x,y]=>match k with
  | .range2=>H0 x y
  | _=>bY
 | _=>bY
noncomputable def wC (o:Its)(f:List MV->Gd->Prop):Prop:=match o with
 | some (a,b)=>f a b
 | none=>False
theorem qU (h:wC o f):∃items g,o=J (items,g)/\f items g:=by
 cases o with
 | none=>exact h.elim
 | some q=>cases q;exact ⟨_,_,rfl,h⟩
theorem aI (e:o=J (items,g))(h:f items g):wC o f:=by rw [e];exact h
theorem az (e:b=aT)(h:P):onT b P:=by rw [e];exact h
theorem aV (e:o=J (r,xs))(h:f r xs):onL o f:=by rw [e];exact h
theorem Fc (e:o=J (r,xs))(h:f r xs):onD o f:=by rw [e];exact h
theorem ae (e:o=J (.list xs))(h:f xs):jG o f:=by rw [e];exact h
theorem bT (e:o=J (.dict xs))(h:f xs):x5 o f:=by rw [e];exact h
theorem cy (e:o=J a)(h:f a):onO o f:=by rw [e];exact h
noncomputable def aS (g:Gd)(hp:List MO):Prop:=match g with
 | none=>True
 | some (r,o)=>hp[r]?=J o
noncomputable def m6 (t:List Nat)(xs:List MV)(m:MS):MS:=match t,xs with
 | i::t,x::xs=>m6 t xs (m.set i x)
 | _,_=>m
noncomputable def asg (t:List Nat)(many:Bool)(v:MV)(Q:MS->Prop)(m:MS):Prop:=
 match many,t,v with
 | false,[i],v=>Q (m.set i v)
 | true,t,.tup xs=>t.length=xs.length/\Q (m6 t xs m)
 | _,_,_=>False
noncomputable def bt (b:Bool)(P R:Prop):Prop:=match b with
 | true=>P
 | false=>R
theorem jl (e:b=aT)(h:P):bt b P R:=by rw [e];exact h
theorem bx (e:b=Z)(h:R):bt b P R:=by rw [e];exact h
theorem dP (h:b=aT->P)(k:b=Z->R):bt b P R:=by
 cases b with
 | true=>exact h rfl
 | false=>exact k rfl
theorem sZ (k:b=Z->R)(h:b=aT->P):bt b P R:=dP h k
theorem ng (h:b=aT):(!b)=Z:=by rw [h];rfl
theorem pg (h:b=Z):(!b)=aT:=by rw [h];rfl
noncomputable abbrev yc (W:MS->Prop) (Q:Fl->MS->Prop):Fl->MS->Prop:=λf m=>match f with
 | .next=>W m
 | .cont=>W m
 | .brk=>Q .next m
 | .ret r=>Q (.ret r) m
noncomputable abbrev cWh (b:(Fl->MS->Prop)->MS->Prop) (W:MS->Prop) (Q:Fl->MS->Prop):Bool->MS->Prop:=λt m=>bt t (b (yc W Q) m) (Q .next m)
noncomputable def Ei (g:Gd)(step:MV->(Fl->MS->Prop)->MS->Prop)(Q:Fl->MS->Prop):List MV->MS->Prop
 | [],m=>aS g m.heap/\Q .next m
 | v::vs,m=>aS g m.heap/\step v (yc (Ei g step Q vs) Q) m
@[irreducible] noncomputable def fb (g:Gd) (step:MV->(Fl->MS->Prop)->MS->Prop) (Q:Fl->MS->Prop):List MV->MS->Prop:=Ei g step Q
noncomputable def s6 (g:Gd)(step:MV->(Option MV->MS->Prop)->MS->Prop)(Q:List MV->MS->Prop):List MV->List MV->MS->Prop
 | [],acc,m=>aS g m.heap/\Q acc m
 | v::vs,acc,m=>aS g m.heap/\step v (λr m=>match r with
  | some x=>s6 g step Q vs (acc++[x]) m
  | none=>s6 g step Q vs acc m) m
@[irreducible] noncomputable def dA (g:Gd) (step:MV->(Option MV->MS->Prop)->MS->Prop) (Q:List MV->MS->Prop):List MV->List MV->MS->Prop:=s6 g step Q
noncomputable def uQ (c:(Bool->MS->Prop)->MS->Prop)(b:(Fl->MS->Prop)->MS->Prop)(Q:Fl->MS->Prop):Nat->MS->Prop
 | 0,_=>False
 | k+1,m=>c (cWh b (uQ c b Q k) Q) m
@[irreducible] noncomputable def cz (c:(Bool->MS->Prop)->MS->Prop) (b:(Fl->MS->Prop)->MS->Prop) (Q:Fl->MS->Prop):Nat->MS->Prop:=uQ c b Q
theorem m7:fb g step Q [] m=(aS g m.heap/\Q .next m):=by unfold fb;rfl
theorem iV:fb g step Q (v::vs) m=(aS g m.heap/\step v (yc (fb g step Q vs) Q) m):=by unfold fb;rfl
theorem kZ:dA g step Q [] acc m=(aS g m.heap/\Q acc m):=by unfold dA;rfl
theorem gF:dA g step Q (v::vs) acc m=(aS g m.heap/\step v (λr m=>match r with
  | some x=>dA g step Q vs (acc++[x]) m
  | none=>dA g step Q vs acc m) m):=by unfold dA;rfl
theorem qV:cz c b Q 0 m=False:=by unfold cz;rfl
theorem hO:cz c b Q (k+1) m=c (cWh b (cz c b Q k) Q) m:=by unfold cz;rfl
noncomputable def noX:XM:=λ_ _=>False
noncomputable def BC (o:Option MO)(f:List (List Nat × MV)->Prop):Prop:=match o with
 | some (.attrs es)=>f es
 | _=>False
theorem qW (h:BC o f):∃es,o=J (.attrs es)/\f es:=by
 cases o with
 | none=>exact h.elim
 | some o=>
  cases o with
  | attrs es=>exact ⟨es,rfl,h⟩
  | _=>exact h.elim
noncomputable def Fd (c:Nat)(v:MV)(f:Nat->Prop):Prop:=match v with
 | .inst d i=>onT (d==c) (f i)
 | _=>False
theorem qX (h:Fd c v f):∃i,v=.inst c i/\f i:=by
 cases v with
 | inst d i=>
  replace h:onT (d==c) (f i):=h
  cases e:d==c with
  | true=>rw [e] at h;exact ⟨i,by rw [eq_of_beq e],h⟩
  | false=>rw [e] at h;exact h.elim
 | _=>exact h.elim
theorem aZ (e:o=J (.attrs es))(h:f es):BC o f:=by rw [e];exact h
noncomputable def yd (c:Nat)(x:List Nat)(v:MV)(Q:PQ)(m:MS):Prop:=Fd c v λi=>BC m.heap[i]? λes=>onO (aN es x) λv=>Q v m
noncomputable def wD (c:Nat)(x:List Nat)(y v:MV)(Q:MS->Prop)(m:MS):Prop:=Fd c y λi=>BC m.heap[i]? λes=>es.length<1000/\Q (m.put i (.attrs (bH es x v)))
noncomputable def qY (x y v:MV)(Q:MS->Prop)(m:MS):Prop:=match y with
 | .str s=>onR x λr=>x5 m.heap[r]? λes=>es.length<line/\Q (m.put r (.dict (bH es s v)))
 | .int k=>onR x λr=>jG m.heap[r]? λxs=>onO (g9 k xs.length) λj=>(D8=aT/\0<=k)/\Q (m.put r (.list (xs.set j v)))
 | _=>False
noncomputable def BD (c:Nat)(x:List Nat)(v:MV)(hp:List MO):Bool:=match v with
 | .inst d i=>match hp[i]? with
  | some (.attrs es)=>c==d&&(aN es x).isNone
  | _=>Z
 | _=>Z
noncomputable def s8 (v:MV)(P:Prop):Prop:=match v with
 | .none=>P
 | _=>False
noncomputable def ye (p:Bool)(x:MV):Bool:=match x with
 | .none=>p
 | _=>!p
noncomputable def bX (Q:Bool->MS->Prop):PQ:=λv m=>match v with
 | .bool b=>Q b m
 | _=>False
noncomputable def H1 (ts:List TS)(hp:List MO)(x:MV)(f:Bool->Prop):Prop:=match ts with
 | [t]=>onO (kY hp x t) f
 | [t,u]=>onO (kY hp x t) λb=>onO (kY hp x u) λc=>f (b||c)
 | _=>False
noncomputable abbrev WE:=PQ->XM->MS->Prop
noncomputable abbrev WL:=(List MV->MS->Prop)->XM->MS->Prop
noncomputable abbrev WO:=(Option MV->MS->Prop)->XM->MS->Prop
noncomputable abbrev WB:=(Bool->MS->Prop)->XM->MS->Prop
noncomputable abbrev WS:=(Fl->MS->Prop)->XM->MS->Prop
noncomputable abbrev cB (Q:PQ):Bool->MS->Prop:=λb m=>Q (.bool b) m
noncomputable abbrev H3 (op:Op) (Q:PQ) (x:MV):PQ:=λy m=>x7 op x y Q m
noncomputable abbrev Jy (w:WE) (op:Op) (Q:PQ) (X:XM):PQ:=λx m=>w (H3 op Q x) X m
noncomputable abbrev Jz (Q:PQ):PQ:=λx m=>onI x λi=>Q (.int (-i)) m
noncomputable abbrev JA (Q:PQ):PQ:=bX λb m=>Q (.bool (!b)) m
noncomputable abbrev Ej (op:Cmp) (Q:PQ) (x:MV):PQ:=λy m=>lN op x y (cB Q) m
noncomputable abbrev JB (w:WE) (op:Cmp) (Q:PQ) (X:XM):PQ:=λx m=>w (Ej op Q x) X m
noncomputable abbrev JC (w:WE) (op:Cmp) (Q:PQ) (X:XM) (y:MV):Bool->MS->Prop:=λt m=>bt t (w (Ej op Q y) X m) (Q (.bool Z) m)
noncomputable abbrev JD (w:WE) (op op':Cmp) (Q:PQ) (X:XM) (x:MV):PQ:=λy m=>lN op x y (JC w op' Q X y) m
noncomputable abbrev cTw (v w:WE) (op op':Cmp) (Q:PQ) (X:XM):PQ:=λx m=>v (JD w op op' Q X x) X m
noncomputable abbrev JE (p:Bool) (Q:PQ):PQ:=λx m=>Q (.bool (ye p x)) m
noncomputable abbrev cQ (Q:PQ) (l:List (Option MV)):MV->List MO->Prop:=λv h=>Q v ⟨l,h⟩
noncomputable abbrev cX (X:XM) (l:List (Option MV)):XT:=λc h=>X c ⟨l,h⟩
noncomputable abbrev H4 (K:KT) (n f:Nat) (Q:PQ) (X:XM):List MV->MS->Prop:=λvs m=>K n f vs (cQ Q m.vars) (cX X m.vars) m.heap
noncomputable abbrev JF (b:Bi) (Q:PQ):List MV->MS->Prop:=λvs m=>o0 b vs Q m
noncomputable abbrev H5 (k:Me) (Q:PQ) (x:MV):List MV->MS->Prop:=λvs m=>dt k x vs Q m
noncomputable abbrev JG (w:WL) (k:Me) (Q:PQ) (X:XM):PQ:=λx m=>onT (jX k x m.heap) (w (H5 k Q x) X m)
noncomputable abbrev JH (K:KT) (n f:Nat) (Q:PQ) (X:XM) (v:MV):List MV->MS->Prop:=λvs m=>K n f (v::vs) (cQ Q m.vars) (cX X m.vars) m.heap
noncomputable abbrev cUm (K:KT) (n c f:Nat) (x:List Nat) (w:WL) (Q:PQ) (X:XM):PQ:=λv m=>onT (BD c x v m.heap) (w (JH K n f Q X v) X m)
noncomputable abbrev H6 (c:Nat) (Q:PQ) (m:MS):MV->List MO->Prop:=λv h=>s8 v (Q (.inst c m.heap.length) ⟨m.vars,h⟩)
noncomputable abbrev JI (K:KT) (n c f:Nat) (Q:PQ) (X:XM):List MV->MS->Prop:=λvs m=>match n with
 | 0=>False
 | k+1=>K k f (.inst c m.heap.length::vs) (H6 c Q m) (cX X m.vars) (m.heap++[.attrs []])
noncomputable abbrev H7 (c:Nat) (x:List Nat) (Q:PQ):PQ:=λv m=>yd c x v Q m
noncomputable abbrev H8 (Q:PQ) (x:MV):PQ:=λy m=>Ed x y Q m
noncomputable abbrev JJ (w:WE) (Q:PQ) (X:XM):PQ:=λx m=>w (H8 Q x) X m
noncomputable abbrev JK (Q:PQ) (x:MV) (l:Option MV):Option MV->MS->Prop:=λh m=>HY x l h Q m
noncomputable abbrev JL (w:WO) (Q:PQ) (X:XM) (x:MV):Option MV->MS->Prop:=λl m=>w (JK Q x l) X m
noncomputable abbrev cSl (v w:WO) (Q:PQ) (X:XM):PQ:=λx m=>v (JL w Q X x) X m
noncomputable abbrev H9 (Q:PQ):List MV->MS->Prop:=λvs m=>Q (.ref m.heap.length) (m.push (.list vs))
noncomputable abbrev JM (Q:PQ):List MV->MS->Prop:=λvs m=>Q (.tup vs) m
noncomputable abbrev Ek (Q:Option MV->MS->Prop):PQ:=λv m=>Q (J v) m
noncomputable abbrev BE (w:WE) (P:Option MV->MS->Prop):Bool->MS->Prop:=λb m=>bt b (w (Ek P) noX m) (P bY m)
noncomputable abbrev El (t:List Nat) (many:Bool) (i:WB) (w:WE):MV->(Option MV->MS->Prop)->MS->Prop:=λv P m=>asg t many v (λm=>i (BE w P) noX m) m
noncomputable abbrev Ia (Q:PQ) (l:List (Option MV)):List MV->MS->Prop:=λacc m'=>Q (.ref m'.heap.length) ⟨l,m'.heap++[.list acc]⟩
noncomputable abbrev Ib (t:List Nat) (many:Bool) (k:IK) (i:WB) (w:WE) (Q:PQ):List MV->MS->Prop:=λvs m=>wC (dz k vs m.heap) λitems g=>dA g (El t many i w) (Ia Q m.vars) items [] m
noncomputable abbrev JN (ts:List TS) (Q:PQ):PQ:=λx m=>H1 ts m.heap x λb=>Q (.bool b) m
noncomputable abbrev Ic (Q:List MV->MS->Prop) (v:MV):List MV->MS->Prop:=λvs m=>Q (v::vs) m
noncomputable abbrev cEs (w:WL) (Q:List MV->MS->Prop) (X:XM):PQ:=λv m=>w (Ic Q v) X m
noncomputable abbrev JO (w:WE) (Q:PQ) (X:XM):PQ:=bX λb m=>bt b (w Q X m) (Q (.bool Z) m)
noncomputable abbrev cOr (w:WE) (Q:PQ) (X:XM):PQ:=bX λb m=>bt b (Q (.bool aT) m) (w Q X m)
noncomputable abbrev JP (w:WB) (Q:Bool->MS->Prop) (X:XM):PQ:=bX λb m=>bt b (w Q X m) (Q Z m)
mutual
noncomputable def wpE (K:KT)(n:Nat):ME->PQ->XM->MS->Prop
 | .cst v,Q,_,m=>Q v m
 | .glob _ v,Q,_,m=>Q v m
 | .var i,Q,_,m=>match m.get i with
  | some v=>Q v m
  | none=>False
 | .bin op a b,Q,X,m=>wpE K n a (Jy (wpE K n b) op Q X) X m
 | .neg a,Q,X,m=>wpE K n a (Jz Q) X m
 | .not a,Q,X,m=>wpE K n a (JA Q) X m
 | .and es,Q,X,m=>uR K n es Q X m
 | .or es,Q,X,m=>BG K n es Q X m
 | .cmp op a b,Q,X,m=>wpE K n a (JB (wpE K n b) op Q X) X m
 | .cmp2 op op' a b c,Q,X,m=>wpE K n a (cTw (wpE K n b) (wpE K n c) op op' Q X) X m
 | .isN p a,Q,X,m=>wpE K n a (JE p Q) X m
 | .call f args,Q,X,m=>jm K n args (H4 K n f Q X) X m
 | .blt b args,Q,X,m=>jm K n args (JF b Q) X m
 | .mth k o args,Q,X,m=>wpE K n o (JG (jm K n args) k Q X) X m
 | .umth c f x o args,Q,X,m=>wpE K n o (cUm K n c f x (jm K n args) Q X) X m
 | .new c f args,Q,X,m=>jm K n args (JI K n c f Q X) X m
 | .attr c o x,Q,X,m=>wpE K n o (H7 c x Q) X m
 | .idx o i,Q,X,m=>wpE K n o (JJ (wpE K n i) Q X) X m
 | .sl o lo hi,Q,X,m=>wpE K n o (cSl (wpO K n lo) (wpO K n hi) Q X) X m
 | .list es,Q,X,m=>jm K n es (H9 Q) X m
 | .tup es,Q,X,m=>jm K n es (JM Q) X m
 | .dict0,Q,_,m=>Q (.ref m.heap.length) (m.push (.dict []))
 | .comp elt t many k src ifs,Q,X,m=>jm K n src (Ib t many k (lO K n ifs) (wpE K n elt) Q) X m
 | .isi a ts,Q,X,m=>wpE K n a (JN ts Q) X m
noncomputable def jm (K:KT)(n:Nat):List ME->(List MV->MS->Prop)->XM->MS->Prop
 | [],Q,_,m=>Q [] m
 | e::r,Q,X,m=>wpE K n e (cEs (jm K n r) Q X) X m
noncomputable def wpO (K:KT)(n:Nat):Option ME->(Option MV->MS->Prop)->XM->MS->Prop
 | none,Q,_,m=>Q bY m
 | some e,Q,X,m=>wpE K n e (Ek Q) X m
noncomputable def uR (K:KT)(n:Nat):List ME->PQ->XM->MS->Prop
 | [],_,_,_=>False
 | [e],Q,X,m=>wpE K n e Q X m
 | e::r,Q,X,m=>wpE K n e (JO (uR K n r) Q X) X m
noncomputable def BG (K:KT)(n:Nat):List ME->PQ->XM->MS->Prop
 | [],_,_,_=>False
 | [e],Q,X,m=>wpE K n e Q X m
 | e::r,Q,X,m=>wpE K n e (cOr (BG K n r) Q X) X m
noncomputable def lO (K:KT)(n:Nat):List ME->(Bool->MS->Prop)->XM->MS->Prop
 | [],Q,_,m=>Q aT m
 | e::r,Q,X,m=>wpE K n e (JP (lO K n r) Q X) X m
end
noncomputable abbrev JQ (t:List Nat) (many:Bool) (Q:Fl->MS->Prop):PQ:=λv m=>asg t many v (λm=>Q .next m) m
noncomputable abbrev Fe (c:Nat) (x:List Nat) (Q:Fl->MS->Prop) (v:MV):PQ:=λy m=>wD c x y v (Q .next) m
noncomputable abbrev Ie (c:Nat) (x:List Nat) (w:WE) (Q:Fl->MS->Prop) (X:XM):PQ:=λv m=>w (Fe c x Q v) X m
noncomputable abbrev Ff (Q:Fl->MS->Prop) (v x:MV):PQ:=λy m=>qY x y v (Q .next) m
noncomputable abbrev yf (w:WE) (Q:Fl->MS->Prop) (X:XM) (v:MV):PQ:=λx m=>w (Ff Q v x) X m
noncomputable abbrev Ig (u w:WE) (Q:Fl->MS->Prop) (X:XM):PQ:=λv m=>u (yf w Q X v) X m
noncomputable abbrev uS (Q:Fl->MS->Prop):PQ:=λ_ m=>Q .next m
noncomputable abbrev JR (a b:WS) (Q:Fl->MS->Prop) (X:XM):PQ:=bX λt m=>bt t (a Q X m) (b Q X m)
noncomputable abbrev Ih (t:List Nat) (many:Bool) (w:WS) (X:XM):MV->(Fl->MS->Prop)->MS->Prop:=λv P m=>asg t many v (λm=>w P X m) m
noncomputable abbrev JS (t:List Nat) (many:Bool) (k:IK) (w:WS) (Q:Fl->MS->Prop) (X:XM):List MV->MS->Prop:=λvs m=>wC (dz k vs m.heap) λitems g=>fb g (Ih t many w X) Q items m
noncomputable abbrev Ii (w:WE) (X:XM):(Bool->MS->Prop)->MS->Prop:=λP m=>w (bX P) X m
noncomputable abbrev Ij (w:WS) (X:XM):(Fl->MS->Prop)->MS->Prop:=λP m=>w P X m
noncomputable abbrev JT (Q:Fl->MS->Prop):PQ:=λv m=>Q (.ret v) m
noncomputable abbrev Ik (w:WS) (v:Nat) (Q:Fl->MS->Prop):XM:=λc m=>w (λf m=>Q f (m.unset v)) noX ((m.push (.exc c)).set v (.ref m.heap.length))
noncomputable abbrev Il (w:WS) (Q:Fl->MS->Prop) (X:XM):Fl->MS->Prop:=λf m=>match f with
 | .next=>w Q X m
 | f=>Q f m
mutual
noncomputable def wpS (K:KT)(n:Nat):MSt->(Fl->MS->Prop)->XM->MS->Prop
 | .asg t many e,Q,X,m=>wpE K n e (JQ t many Q) X m
 | .setAttr c o x e,Q,X,m=>wpE K n e (Ie c x (wpE K n o) Q X) X m
 | .setIdx o i e,Q,X,m=>wpE K n e (Ig (wpE K n o) (wpE K n i) Q X) X m
 | .expr e,Q,X,m=>wpE K n e (uS Q) X m
 | .ite c a b,Q,X,m=>wpE K n c (JR (aA K n a) (aA K n b) Q X) X m
 | .for_ t many k src body,Q,X,m=>jm K n src (JS t many k (aA K n body) Q X) X m
 | .while_ c body,Q,X,m=>∃k,cz (Ii (wpE K n c) X) (Ij (aA K n body) X) Q k m
 | .ret e,Q,X,m=>wpE K n e (JT Q) X m
 | .cont,Q,_,m=>Q .cont m
 | .raise c,_,X,m=>Bp=aT/\X c m
 | .try_ body _ v h,Q,X,m=>Bp=aT/\aA K n body Q (Ik (aA K n h) v Q) m
noncomputable def aA (K:KT)(n:Nat):List MSt->(Fl->MS->Prop)->XM->MS->Prop
 | [],Q,_,m=>Q .next m
 | s::r,Q,X,m=>wpS K n s (Il (aA K n r) Q X) X m
end
noncomputable abbrev xin (X:XT):XM:=λc m=>X c m.heap
noncomputable def fin (Q:MV->List MO->Prop):Fl->MS->Prop:=λf m=>match f with
 | .ret v=>Q v m.heap
 | .next=>Q .none m.heap
 | _=>False
set_option genCtorIdx false in
structure Fn where
 args:Nat
 slots:Nat
 body:List MSt
noncomputable def ec (d:Fn)(vs:List MV)(h:List MO):MS:=⟨vs.map J++M8 (d.slots-d.args) bY,h⟩
noncomputable def aD (P:Nat->Option Fn)(K:KT):Prop:=
 ∀n f vs Q X h d,P f=J d->vs.length=d.args->aA K n d.body (fin Q) (xin X) (ec d vs h)->K (n+1) f vs Q X h
noncomputable def Im:Bool:=true
end Internal
end
section
namespace Internal
open PySem PyProof.Rows
noncomputable abbrev pX (items:List DO) (n:Nat):Obj:={ cls:=.type "tuple",dict:=none,data:=.seq items.toArray n,slots:=#[] }
noncomputable abbrev eh (items:List DO) (n:Nat):Obj:={ cls:=.type "list",dict:=none,data:=.seq items.toArray n,slots:=#[] }
noncomputable abbrev Kl (es:List Pt) (n:Nat):Obj:={ cls:=.type "dict",dict:=none,data:=.dict es.toArray n,slots:=#[] }
noncomputable abbrev lP (C:KO) (d:KO):Obj:={ cls:=.ref C,dict:=some d,data:=.plain,slots:=#[] }
set_option genCtorIdx false in
structure Glo where
 prog:Nz
 w:Mw
 base:KR
 fa:Nat->Option KO
 ca:Nat->Option KO
 xa:Nat->Option KO
 cm:Nat->Str->Option DO
 hf:Nat->Bool
noncomputable def Fg:DO->Bool
 | .type T=>T=="tuple"
 | _=>Z
noncomputable def Fh:DO->Bool
 | .ref _=>aT
 | _=>Z
noncomputable def jH (c:DO):Data->Bool
 | .seq _ _=>Fg c
 | .plain=>Fh c
 | _=>Z
noncomputable def jp (o:OO):Prop:=jH o.cls o.data=aT
noncomputable def bg (h h':KR):Prop:=∀a o,h.get? a=J o->jp o->h'.get? a=J o
inductive CK:List (List Nat × Int)->List (Str × DO)->Prop
 | nil:CK [] []
 | cons {k i t es ds}:k.length<=line->CK es ds->CK ((k,i)::es) ((str k,.int i t)::ds)
noncomputable def IsD (o:OO):Prop:=∃es n,o.data=.dict es n
mutual
inductive Rep (C:Glo)(ρ:List KO)(h:KR):MV->DO->Prop
 | none:Rep C ρ h .none .none
 | bool (b):Rep C ρ h (.bool b) (.bool b)
 | int (i t):Rep C ρ h (.int i) (.int i t)
 | str (s t):s.length<=line->Rep C ρ h (.str s) (.str (str s) t)
 | tup {a n xs items}:h.get? a=J (pX items n)->aL C ρ h xs items->xs.length<=line->Rep C ρ h (.tup xs) (.ref a)
 | ref {i a}:ρ[i]?=J a->Rep C ρ h (.ref i) (.ref a)
 | scr {is a items n}:C.base.get? a=J (eh items n)->IntsAre items is->is.length<=line->Rep C ρ h (.scr is) (.ref a)
 | gt {ss a o items n}:C.base.get? a=J o->o.cls=.type "tuple"->o.data=.seq items.toArray n->aL C ρ h (ss.map .str) items->Rep C ρ h (.gt ss) (.ref a)
 | inst {c i a k d}:C.ca c=J k->ρ[i]?=J d->h.get? a=J (lP k d)->Rep C ρ h (.inst c i) (.ref a)
 | cdict {es a kvs}:(a==sysModules)=Z->C.base.DictOf (strKind C.prog C.w) a kvs->CK es kvs->Rep C ρ h (.cdict es) (.ref a)
inductive aL (C:Glo)(ρ:List KO)(h:KR):List MV->List DO->Prop
 | nil:aL C ρ h [] []
 | cons {x v xs vs}:Rep C ρ h x v->aL C ρ h xs vs->aL C ρ h (x::xs) (v::vs)
end
inductive JU (C:Glo)(ρ:List KO)(h:KR)(xs:List MV)(v:DO):Prop
 | mk (a:KO) (n:Nat) (items:List DO) (e:v=.ref a) (g:h.get? a=J (pX items n)) (l:aL C ρ h xs items) (z:xs.length<=line)
inductive JV (C:Glo)(is:List Int)(v:DO):Prop
 | mk (a:KO) (items:List DO) (n:Nat) (e:v=.ref a) (g:C.base.get? a=J (eh items n)) (l:IntsAre items is) (z:is.length<=line)
inductive RGt (C:Glo)(ρ:List KO)(h:KR)(ss:List (List Nat))(v:DO):Prop
 | mk (a:KO) (o:OO) (items:List DO) (n:Nat) (e:v=.ref a) (g:C.base.get? a=J o) (g1:o.cls=.type "tuple") (g2:o.data=.seq items.toArray n) (l:aL C ρ h (ss.map .str) items)
inductive Io (C:Glo)(ρ:List KO)(h:KR)(c i:Nat)(v:DO):Prop
 | mk (a k d:KO) (e:v=.ref a) (h1:C.ca c=J k) (h2:ρ[i]?=J d) (h3:h.get? a=J (lP k d))
inductive RCd (C:Glo)(es:List (List Nat × Int))(v:DO):Prop
 | mk (a:KO) (kvs:List (Str × DO)) (e:v=.ref a) (hs:(a==sysModules)=Z) (dk:C.base.DictOf (strKind C.prog C.w) a kvs) (ck:CK es kvs)
inductive JW (s:List Nat)(v:DO):Prop
 | mk (t:Tok) (e:v=.str (str s) t) (z:s.length<=line)
inductive JX (ρ:List KO)(i:Nat)(v:DO):Prop
 | mk (a:KO) (e:v=.ref a) (g:ρ[i]?=J a)
inductive Ip (C:Glo)(ρ:List KO)(h:KR)(x:MV)(r:List MV)(vs:List DO):Prop
 | mk (v:DO) (ws:List DO) (e:vs=v::ws) (a:Rep C ρ h x v) (b:aL C ρ h r ws)
noncomputable def Iq (C:Glo)(ρ:List KO)(h:KR)(x:MV)(v:DO):Prop:=match x with
 | .none=>v=.none
 | .bool b=>v=.bool b
 | .int i=>∃t,v=.int i t
 | .str s=>JW s v
 | .tup xs=>JU C ρ h xs v
 | .ref i=>JX ρ i v
 | .scr is=>JV C is v
 | .gt ss=>RGt C ρ h ss v
 | .inst c i=>Io C ρ h c i v
 | .cdict es=>RCd C es v
noncomputable def Em (C:Glo)(ρ:List KO)(h:KR)(xs:List MV)(vs:List DO):Prop:=match xs with
 | []=>vs=[]
 | x::r=>Ip C ρ h x r vs
theorem Rep.inv (r:Rep C ρ h x v):Iq C ρ h x v:=
 Rep.casesOn (motive_1:=λx v _=>Iq C ρ h x v) r rfl (λ_=>rfl) (λ_ t=>⟨t,rfl⟩) (λ_ t z=>⟨t,rfl,z⟩) (λg l z=>⟨_,_,_,rfl,g,l,z⟩) (λe=>⟨_,rfl,e⟩) (λg l z=>⟨_,_,_,rfl,g,l,z⟩) (λg g1 g2 l=>⟨_,_,_,_,rfl,g,g1,g2,l⟩) (λh1 h2 h3=>⟨_,_,_,rfl,h1,h2,h3⟩) (λs d c=>⟨_,_,rfl,s,d,c⟩)
theorem aL.inv (r:aL C ρ h xs vs):Em C ρ h xs vs:=
 aL.casesOn (motive_2:=λxs vs _=>Em C ρ h xs vs) r rfl (λa b=>⟨_,_,rfl,a,b⟩)
theorem aL.one (r:aL C ρ h [x] vs):∃v,vs=[v]/\Rep C ρ h x v:=by
 obtain ⟨v,ws,rfl,a,b⟩:=r.inv;obtain rfl:=b.inv;exact ⟨v,rfl,a⟩
theorem aL.two (r:aL C ρ h [x,y] vs):∃v w,vs=[v,w]/\Rep C ρ h x v/\Rep C ρ h y w:=by
 obtain ⟨v,ws,rfl,a,b⟩:=r.inv;obtain ⟨w,rfl,c⟩:=b.one;exact ⟨v,w,rfl,a,c⟩
theorem iW:jp (pX items n):=rfl
theorem m8:jp (lP C d):=rfl
theorem iY {ρ ρ':List KO}(hp:ρ<+:ρ'){i:Nat}{a:KO}(h:ρ[i]?=J a):ρ'[i]?=J a:=by
 obtain ⟨t,rfl⟩:=hp;rw [Ld (iN.mp h).1];exact h
section
theorem Rep.up (hs:bg h h')(hp:ρ<+:ρ'){x:MV}{v:DO}(r:Rep C ρ h x v):Rep C ρ' h' x v:=
 Rep.rec (motive_1:=λx v _=>Rep C ρ' h' x v) (motive_2:=λx v _=>aL C ρ' h' x v) .none (λb=>.bool b) (λi t=>.int i t) (λs t z=>.str s t z) (λe _ z l=>.tup (hs _ _ e iW) l z) (λe=>.ref (iY hp e)) (λe l z=>.scr e l z) (λe1 e2 e3 _ l=>.gt e1 e2 e3 l) (λe1 e2 e3=>.inst e1 (iY hp e2) (hs _ _ e3 m8)) (λq e l=>.cdict q e l) .nil (λ_ _ a b=>.cons a b) r
theorem aL.up (hs:bg h h')(hp:ρ<+:ρ'){x:List MV}{v:List DO}(r:aL C ρ h x v):aL C ρ' h' x v:=
 aL.rec (motive_1:=λx v _=>Rep C ρ' h' x v) (motive_2:=λx v _=>aL C ρ' h' x v) .none (λb=>.bool b) (λi t=>.int i t) (λs t z=>.str s t z) (λe _ z l=>.tup (hs _ _ e iW) l z) (λe=>.ref (iY hp e)) (λe l z=>.scr e l z) (λe1 e2 e3 _ l=>.gt e1 e2 e3 l) (λe1 e2 e3=>.inst e1 (iY hp e2) (hs _ _ e3 m8)) (λq e l=>.cdict q e l) .nil (λ_ _ a b=>.cons a b) r
theorem m9 (r:IntsAre items is):aL C ρ h (is.map .int) items:=by
 induction r with
 | nil=>exact .nil
 | cons n t r ih=>exact .cons (.int n t) ih
theorem aL.length (r:aL C ρ h xs vs):vs.length=xs.length:=by
 induction xs generalizing vs with
 | nil=>rw [r.inv];rfl
 | cons x xs ih=>
  obtain ⟨v,ws,rfl,a,b⟩:=r.inv;exact congrArg (·+1) (ih b)
theorem aL.get {xs:List MV}{vs:List DO}(r:aL C ρ h xs vs){i:Nat}{x:MV}(e:xs[i]?=J x):∃v,vs[i]?=J v/\Rep C ρ h x v:=by
 induction xs generalizing vs i with
 | nil=>exact aJ e
 | cons y xs ih=>
  obtain ⟨v,ws,rfl,a,b⟩:=r.inv
  cases i with
  | zero=>obtain rfl:=By e;exact ⟨v,rfl,a⟩
  | succ i=>exact ih b e
theorem aL.append (r:aL C ρ h xs vs)(l:aL C ρ h ys ws):aL C ρ h (xs++ys) (vs++ws):=by
 induction xs generalizing vs with
 | nil=>rw [r.inv];exact l
 | cons x xs ih=>
  obtain ⟨v,us,rfl,a,b⟩:=r.inv;exact .cons a (ih b)
theorem aL.take (k:Nat)(r:aL C ρ h xs vs):aL C ρ h (xs.take k) (vs.take k):=by
 induction xs generalizing vs k with
 | nil=>rw [r.inv,Pd,Pd];exact .nil
 | cons x xs ih=>
  obtain ⟨v,us,rfl,a,b⟩:=r.inv
  cases k with
  | zero=>exact .nil
  | succ k=>exact .cons a (ih k b)
theorem aL.drop (k:Nat)(r:aL C ρ h xs vs):aL C ρ h (xs.drop k) (vs.drop k):=by
 induction xs generalizing vs k with
 | nil=>rw [r.inv,Pe,Pe];exact .nil
 | cons x xs ih=>
  obtain ⟨v,us,rfl,a,b⟩:=r.inv
  cases k with
  | zero=>exact .cons a b
  | succ k=>exact ih k b
end
inductive gG (C:Glo)(ρ:List KO)(h:KR):List (List Nat × MV)->List (Str × DO)->Prop
 | nil:gG C ρ h [] []
 | cons {k x v es ds}:k.length<=line->Rep C ρ h x v->gG C ρ h es ds->gG C ρ h ((k,x)::es) ((str k,v)::ds)
theorem gG.up (hs:bg h h')(hp:ρ<+:ρ'){x v}(r:gG C ρ h x v):gG C ρ' h' x v:=by
 induction r with
 | nil=>exact .nil
 | cons z a _ ih=>exact .cons z (a.up hs hp) ih
theorem CK.rep {es kvs}(r:CK es kvs):gG C ρ h (cds es) kvs:=by
 induction r with
 | nil=>exact .nil
 | cons z _ ih=>exact .cons z (.int _ _) ih
inductive Ir (C:Glo)(ρ:List KO)(h:KR)(xs:List MV)(a:KO):Prop
 | mk (items:List DO) (n:Nat) (e:h.get? a=J (eh items n)) (rl:aL C ρ h xs items) (z:xs.length<=line)
inductive Iu (C:Glo)(ρ:List KO)(h:KR)(es:List (List Nat × MV))(a:KO):Prop
 | mk (kvs:List (Str × DO)) (d:h.DictOf (strKind C.prog C.w) a kvs) (rk:gG C ρ h es kvs) (z:es.length<=line)
inductive yg (C:Glo)(ρ:List KO)(h:KR)(es:List (List Nat × MV))(a:KO):Prop
 | mk (mA:Str->Option DO) (n:h.Ns1 a mA) (l:∀k v,aN es k=J v->∃w,mA (str k)=J w/\Rep C ρ h v w) (r:∀k,aN es k=bY->mA (str k)=bY) (z:es.length<=1000)
inductive Iv (C:Glo)(h:KR)(c:Nat)(a:KO):Prop
 | mk (K:KO) (o:OO) (vs:Array DO) (h1:C.xa c=J K) (h2:h.get? a=J o) (h3:o.cls=.ref K) (h4:o.data=.fields vs)
noncomputable def nc (C:Glo)(ρ:List KO)(h:KR):MO->KO->Prop
 | .list xs,a=>Ir C ρ h xs a
 | .dict es,a=>Iu C ρ h es a
 | .attrs es,a=>yg C ρ h es a
 | .exc c,a=>Iv C h c a
structure Hp (C:Glo)(ρ:List KO)(hp:List MO)(h:KR):Prop where
 base:C.base.StaysIn h
 len:ρ.length=hp.length
 nodup:ρ.Nodup
 fresh:∀a∈ρ,C.base.get? a=bY
 objs:∀(i:Nat) (o:MO) (a:KO),hp[i]?=J o->ρ[i]?=J a->nc C ρ h o a
set_option genCtorIdx false in
inductive Loc where
 | nm (L:KO) (x:Str)
 | cl (c:KO)
gen_injective_theorems% Loc
set_option genCtorIdx false in
structure Fm where
 env:Env
 A:M9
 W:List KO
 V:List KO
 lay:Nat->Option Loc
 frs:List KO
inductive Iw (C:Glo)(ρ:List KO)(h:KR)(L:KO)(x:Str)(v:MV):Prop
 | mk (f:Str->Option DO) (w:DO) (n:h.Ns L f) (e:f x=J w) (r:Rep C ρ h v w)
inductive Iy (C:Glo)(ρ:List KO)(h:KR)(c:KO)(v:MV):Prop
 | mk (w:DO) (n:h.IsCell c (J w)) (r:Rep C ρ h v w)
noncomputable def Holds (C:Glo)(ρ:List KO)(h:KR):Loc->MV->Prop
 | .nm L x,v=>Iw C ρ h L x v
 | .cl c,v=>Iy C ρ h c v
noncomputable def WOk (h:KR)(a:KO):Prop:=∃o,h.get? a=J o/\((∃es n,o.data=.dict es n)\/∃v,o.data=.cell v)
noncomputable def Iz (C:Glo)(ρ:List KO)(h:KR)(L:KO):Prop:=L∉ρ/\C.base.get? L=bY/\∃o,h.get? L=J o/\IsD o
structure Rel (C:Glo)(F:Fm)(ρ:List KO)(m:MS)(s:Kv):Prop where
 hp:Hp C ρ m.heap s.heap
 ns:∃f,s.heap.Ns F.env.locals f
 w:∀a∈F.W++F.V,a∉ρ/\C.base.get? a=bY/\WOk s.heap a
 vars:∀i v,m.get i=J v->∃l,F.lay i=J l/\Holds C ρ s.heap l v
 cells:∀i c,F.lay i=J (.cl c)->∃v,s.heap.IsCell c v
 out:∀L∈F.frs,Iz C ρ s.heap L
 gens:s.gens=#[]
structure aB (W:List KO)(ρ:List KO)(s:Kv)(ρ':List KO)(s':Kv):Prop where
 pre:ρ<+:ρ'
 new:∀a∈ρ',a∈ρ\/s.heap.get? a=bY
 keep:∀a o,s.heap.get? a=J o->a∉ρ->a∉W->s'.heap.get? a=J o\/(IsD o/\∃sl,s'.heap.get? a=J { o with slots:=sl })
 solid:bg s.heap s'.heap
 alive:∀a o,s.heap.get? a=J o->∃o',s'.heap.get? a=J o'
 gens:s'.gens=s.gens
 os:s'.os=s.os
theorem aB.refl (W ρ:List KO)(s:Kv):aB W ρ s ρ s:=⟨Kw _,λ_ h=>.inl h,λ_ _ e _ _=>.inl e,λ_ _ e _=>e,λ_ o e=>⟨o,e⟩,rfl,rfl⟩
theorem aB.trans (x:aB W ρ s ρ₁ s₁)(y:aB W ρ₁ s₁ ρ₂ s₂):aB W ρ s ρ₂ s₂ where
 pre:=x.pre.trans y.pre
 new:=λa h=>(y.new a h).elim (λh=>x.new a h) λh=>.inr (by
  cases e:s.heap.get? a with
  | none=>rfl
  | some o=>obtain ⟨o',e'⟩:=x.alive a o e;exact bc h e')
 keep:=λa o e h1 h2=>by
  have h1':a∉ρ₁:=λh=>(x.new a h).elim h1 λh=>bc h e
  rcases x.keep a o e h1 h2 with e1 | ⟨hc,sl,e1⟩
  ·exact y.keep a o e1 h1' h2
  ·rcases y.keep a _ e1 h1' h2 with e2 | ⟨_,sl2,e2⟩
   ·exact .inr ⟨hc,sl,e2⟩
   ·exact .inr ⟨hc,sl2,e2⟩
 solid:=λa o e h=>y.solid a o (x.solid a o e h) h
 alive:=λa o e=>let ⟨o',e'⟩:=x.alive a o e;y.alive a o' e'
 gens:=y.gens.trans x.gens
 os:=y.os.trans x.os
theorem Rep.step (r:Rep C ρ s.heap x v)(st:aB W ρ s ρ' s'):Rep C ρ' s'.heap x v:=r.up st.solid st.pre
theorem aL.step (r:aL C ρ s.heap x v)(st:aB W ρ s ρ' s'):aL C ρ' s'.heap x v:=r.up st.solid st.pre
noncomputable def Er (C:Glo)(F:Fm)(X:XM)(ρ:List KO)(s:Kv)(e:DO)(s':Kv):Prop:=False
theorem Er.back (st:aB F.W ρ s ρ₁ s₁):∀e s',Er C F X ρ₁ s₁ e s'->Er C F X ρ s e s':=λ_ _ h=>h
theorem Er.mono (h:∀k m,X k m->X' k m):∀e s',Er C F X ρ s e s'->Er C F X' ρ s e s':=λ_ _ h=>h
theorem Er.no {C:Glo}{F:Fm}{ρ:List KO}{s s':Kv}{e:DO}{P:Prop}(h:Er C F noX ρ s e s'):P:=OQ h
noncomputable abbrev mod (C:Glo):Model:=model C.prog C.w
inductive Out (C:Glo)(F:Fm)(ρ:List KO)(s:Kv)(Q:PQ)(v:DO)(s':Kv):Prop
 | mk (ρ':List KO) (m':MS) (x:MV) (st:aB F.W ρ s ρ' s') (R:Rel C F ρ' m' s') (rx:Rep C ρ' s'.heap x v) (hq:Q x m'):Out C F ρ s Q v s'
theorem Out.back (st:aB F.W ρ s ρ₁ s₁):∀v s',Out C F ρ₁ s₁ Q v s'->Out C F ρ s Q v s':=
 λ_ _ ⟨ρ',m',x,a,b,c,d⟩=>⟨ρ',m',x,st.trans a,b,c,d⟩
noncomputable def WPv (C:Glo)(F:Fm)(X:XM)(t:Sem DO)(Q:PQ)(m:MS):Prop:=
 ∀s ρ,Rel C F ρ m s->BY (mod C) F.A t (Out C F ρ s Q) (Er C F X ρ s) s
theorem IA (st:aB F.W ρ s ρ₁ s₁)(h:BY (mod C) A t (Out C F ρ₁ s₁ Q) (Er C F X ρ₁ s₁) s₂) :
  BY (mod C) A t (Out C F ρ s Q) (Er C F X ρ s) s₂:=Kq h (Out.back st) (Er.back st)
noncomputable def Loc.addr:Loc->KO
 | .nm L _=>L
 | .cl c=>c
theorem k9 {h:KR}{a:KO}{f g:Str->Option DO}(x:h.Ns a f)(y:h.Ns a g):f=g:=by
 refine e34 x λo es ep ho hd _ hf=>?_;refine e34 y λo' es' ep' ho' hd' _ hg=>?_;obtain rfl:=same ho ho';obtain ⟨rfl,rfl⟩:=Data.dict.inj (hd.symm.trans hd');funext n;exact (hf n).symm.trans (hg n)
inductive NsO (h:KR)(a:KO):Prop
 | mk (o:OO) (es:Array Pt) (ep:Nat) (ho:h.get? a=J o) (hd:o.data=.dict es ep)
theorem s9 (x:h.Ns a f):NsO h a:=by
 refine e33 x λo es ep ho hd _=>?_;exact ⟨o,es,ep,ho,hd⟩
theorem gH {h:KR}{a:KO}{f:Str->Option DO}{v:Option DO}{P:Prop}(x:h.Ns a f)(y:h.IsCell a v):P:=by
 obtain ⟨o,es,ep,ho,hd⟩:=s9 x;refine e12 y λo' g1 g2=>?_;obtain rfl:=same ho g1;exact nomatch hd.symm.trans g2
theorem mE {h h':KR}(x:h.Ns a f)(k:∀o,h.get? a=J o->∃o',h'.get? a=J o'/\o'.data=o.data):h'.Ns a f:=by
 refine e33 x λo es ep ho hd r=>?_;refine e12 (k o ho) λo' ho' hd'=>?_;exact ⟨o',es,ep,ho',hd'.trans hd,r⟩
theorem o4 {h h':KR}(x:h.IsCell a v)(k:∀o,h.get? a=J o->∃o',h'.get? a=J o'/\o'.data=o.data):h'.IsCell a v:=by
 refine e12 x λo ho hd=>?_;refine e12 (k o ho) λo' ho' hd'=>?_;exact ⟨o',ho',hd'.trans hd⟩
section
variable {h h':KR}{m:MS}{s s':Kv}
noncomputable def ni (h h':KR)(a:KO):Prop:=∀o,h.get? a=J o->∃o',h'.get? a=J o'/\o'.data=o.data/\o'.cls=o.cls
noncomputable def uT (h h':KR)(a:KO):Prop:=∀o,h.get? a=J o->h'.get? a=J o
theorem ni.e (k:ni h h' a):∀o,h.get? a=J o->∃o',h'.get? a=J o'/\o'.data=o.data:=λo e=>let ⟨o',x,y,_⟩:=k o e;⟨o',x,y⟩
theorem Holds.up {l:Loc}(x:Holds C ρ h l v)(hs:bg h h')(hp:ρ<+:ρ')(k:ni h h' l.addr):Holds C ρ' h' l v:=by
 cases l with
 | nm L x'=>obtain ⟨f,w,hn,e,r⟩:=x;exact ⟨f,w,mE hn k.e,e,r.up hs hp⟩
 | cl c=>obtain ⟨w,hc,r⟩:=x;exact ⟨w,o4 hc k.e,r.up hs hp⟩
theorem nc.up (x:nc C ρ h o a)(hs:bg h h')(hp:ρ<+:ρ')(k:uT h h' a):nc C ρ' h' o a:=by
 cases o with
 | list xs=>obtain ⟨items,n,e,l,z⟩:=x;exact ⟨items,n,k _ e,l.up hs hp,z⟩
 | dict es=>
  obtain ⟨kvs,⟨o,ds,ep,e,r⟩,l,z⟩:=x;exact ⟨kvs,⟨o,ds,ep,k _ e,r⟩,l.up hs hp,z⟩
 | attrs es=>
  obtain ⟨mA,n,l,r,z⟩:=x;exact ⟨mA,n.at λo e=>k o e,λkey v e=>let ⟨w,h1,h2⟩:=l key v e;⟨w,h1,h2.up hs hp⟩,r,z⟩
 | exc c=>obtain ⟨K,o,vs,h1,h2,h3,h4⟩:=x;exact ⟨K,o,vs,h1,k _ h2,h3,h4⟩
theorem Hp.up (x:Hp C ρ hp h)(hs:bg h h')(k:∀a∈ρ,uT h h' a)(hb:C.base.StaysIn h'):Hp C ρ hp h':=
 ⟨hb,x.len,x.nodup,x.fresh,λi o a e1 e2=>(x.objs i o a e1 e2).up hs (Kw _) (k a (rW e2))⟩
theorem Hp.alloc (x:Hp C ρ hp h)(hs:bg h h')(k:∀a∈ρ,uT h h' a)(hb:C.base.StaysIn h')(ha:a∉ρ)(hf:C.base.get? a=bY)
  (hr:nc C (ρ++[a]) h' o a):Hp C (ρ++[a]) (hp++[o]) h':=by
 refine ⟨hb,by simp [x.len],?_,?_,?_⟩
 ·exact K1.mpr ⟨x.nodup,by simp,λb hb c hc=>by simp at hc;subst hc;exact λe=>ha (e▸hb)⟩
 ·intro b hb;refine Lm (nO.mp hb) (λhb=>?_) λhb=>?_
  ·exact x.fresh b hb
  ·simp at hb;subst hb;exact hf
 ·intro i o' b e1 e2
  rcases Nat.lt_trichotomy i hp.length with hi | hi | hi
  ·rw [Ld hi] at e1;rw [Ld (by rw [x.len];exact hi)] at e2;exact (x.objs i o' b e1 e2).up hs (Lb _ _) (k b (rW e2))
  ·subst hi;rw [K7 (oF _)] at e1;rw [<-x.len,K7 (oF _)] at e2;simp at e1 e2;subst e1;subst e2;exact hr
  ·rw [Li (by simp;exact hi)] at e1;exact aJ e1
theorem Hp.put (x:Hp C ρ hp h)(hs:bg h h')(hi:ρ[i]?=J a)(k:∀b∈ρ,b≠a->uT h h' b)(hb:C.base.StaysIn h')
  (hr:nc C ρ h' o a):Hp C ρ (hp.set i o) h':=by
 refine ⟨hb,by simp [x.len],x.nodup,x.fresh,λj o' b e1 e2=>?_⟩;by_cases e:i=j
 ·subst e;obtain rfl:=same hi e2;have hlt:i<hp.length:=by rw [<-x.len];exact (iN.mp hi).1
  obtain rfl:=By ((NK hlt).symm.trans e1);exact hr
 ·rw [Na e] at e1;refine (x.objs j o' b e1 e2).up hs (Kw _) (k b (rW e2) λq=>?_);subst q;have h1:=(iN.mp hi)
  have h2:=(iN.mp e2)
  exact e ((OJ x.nodup).mp (h1.2.trans h2.2.symm))
structure bb (F:Fm):Prop where
 loc:F.env.locals∈F.W
 lay:∀i l,F.lay i=J l->l.addr∈F.W++F.V
 inj:∀i j l,F.lay i=J l->F.lay j=J l->i=j
 kind:F.env.scope.kind=.function
 frs:∃es,F.A.frames=J es/\∀e∈es,e.scope.kind≠.module/\∃L∈F.frs,e.frame=J L
theorem Rel.up {hpN:List MO}(x:Rel C F ρ m s)(ok:bb F)(hs:bg s.heap s'.heap)(hpre:ρ<+:ρ')(hH:Hp C ρ' hpN s'.heap)(hnew:∀a∈ρ',a∈ρ\/s.heap.get? a=bY)
  (hW:∀a∈F.W++F.V,ni s.heap s'.heap a) (ho:∀L∈F.frs,ni s.heap s'.heap L) (hg:s'.gens=s.gens):Rel C F ρ' ⟨m.vars,hpN⟩ s' where
 hp:=hH
 ns:=let ⟨f,hf⟩:=x.ns;⟨f,mE hf (hW _ (tO _ ok.loc)).e⟩
 w:=λa ha=>by
  obtain ⟨h1,h2,o,h3,h4⟩:=x.w a ha;refine e13 (hW a ha o h3) λo' e' d' _=>?_;refine ⟨λhm=>(hnew a hm).elim h1 λq=>bc q h3,h2,o',e',by rw [d'];exact h4⟩
 vars:=λi v e=>let ⟨l,h1,h2⟩:=x.vars i v e;⟨l,h1,h2.up hs hpre (hW _ (ok.lay i l h1))⟩
 cells:=λi c e=>let ⟨v,h1⟩:=x.cells i c e;⟨v,o4 h1 (hW c (ok.lay i _ e)).e⟩
 out:=λL hL=>by
  obtain ⟨h1,h2,o,h3,es,n,h4⟩:=x.out L hL;refine e13 (ho L hL o h3) λo' e' d' _=>?_;exact ⟨λhm=>(hnew L hm).elim h1 λq=>bc q h3,h2,o',e',es,n,d'.trans h4⟩
 gens:=hg.trans x.gens
theorem Rel.grow (x:Rel C F ρ m s)(ok:bb F)(hk:∀a o,s.heap.get? a=J o->s'.heap.get? a=J o)(hg:s'.gens=s.gens)(hos:s'.os=s.os) :
  Rel C F ρ m s'/\aB F.W ρ s ρ s':=
 ⟨x.up ok (λa o e _=>hk a o e) (Kw _) (x.hp.up (λa o e _=>hk a o e) (λa _ o e=>hk a o e) λb o e=>hk b o (x.hp.base b o e)) (λa h=>.inl h) (λa _ o e=>⟨o,hk a o e,rfl,rfl⟩)
  (λL _ o e=>⟨o,hk L o e,rfl,rfl⟩) hg,
  ⟨Kw _,λ_ h=>.inl h,λa o e _ _=>.inl (hk a o e),λa o e _=>hk a o e,λa o e=>⟨o,hk a o e⟩,hg,hos⟩⟩
theorem Rel.tok (x:Rel C F ρ m s)(ok:bb F)(t:Nat):Rel C F ρ m { s with toks:=t }/\aB F.W ρ s ρ { s with toks:=t }:=x.grow ok (λ_ _ e=>e) rfl rfl
theorem bZ (ha:h.objs.size<=a):h.get? a=bY:=by
 cases e:h.get? a with
 | none=>rfl
 | some o=>exact absurd (Ln e) (OR.mpr ha)
theorem cA (x:Hp C ρ m.heap s.heap)(ha:s.heap.get? a=bY):C.base.get? a=bY:=by
 cases e:C.base.get? a with
 | none=>rfl
 | some o=>exact bc ha (x.base a o e)
theorem Hp.there (x:Hp C ρ m.heap s.heap)(ha:a∈ρ):∃o,s.heap.get? a=J o:=by
 obtain ⟨i,hi,rfl⟩:=List.getElem_of_mem ha;have hi':i<m.heap.length:=by rw [<-x.len];exact hi
 have:=x.objs i m.heap[i] ρ[i] (KC hi') (KC hi)
 cases hm:m.heap[i] with
 | list xs=>rw [hm] at this;obtain ⟨_,_,e,_⟩:=this;exact ⟨_,e⟩
 | dict es=>rw [hm] at this;obtain ⟨_,⟨_,_,_,e,_⟩,_⟩:=this;exact ⟨_,e⟩
 | attrs es=>rw [hm] at this;obtain ⟨_,⟨_,_,_,e,_⟩,_⟩:=this;exact ⟨_,e⟩
 | exc c=>rw [hm] at this;obtain ⟨_,_,_,_,e,_⟩:=this;exact ⟨_,e⟩
theorem Rel.alloc (x:Rel C F ρ m s)(ok:bb F)(hk:∀a o,s.heap.get? a=J o->s'.heap.get? a=J o)(hg:s'.gens=s.gens)(hos:s'.os=s.os)
  (ha:s.heap.get? a=bY) (hr:nc C (ρ++[a]) s'.heap o a):Rel C F (ρ++[a]) (m.push o) s'/\aB F.W ρ s (ρ++[a]) s':=by
 have hn:∀b∈ρ++[a],b∈ρ\/s.heap.get? b=bY:=λb hb=>by
  refine Lm (nO.mp hb) (λhb=>?_) λhb=>?_
  ·exact .inl hb
  ·simp at hb;subst hb;exact .inr ha
 refine ⟨x.up ok (λa o e _=>hk a o e) (Lb _ _) (x.hp.alloc (λa o e _=>hk a o e) (λa _ o e=>hk a o e) (λb o e=>hk b o (x.hp.base b o e)) (λhm=>?_) (cA x.hp ha) hr) hn
  (λa _ o e=>⟨o,hk a o e,rfl,rfl⟩) (λL _ o e=>⟨o,hk L o e,rfl,rfl⟩) hg,⟨Lb _ _,hn,λa o e _ _=>.inl (hk a o e),λa o e _=>hk a o e,λa o e=>⟨o,hk a o e⟩,hg,hos⟩⟩
 obtain ⟨o',e⟩:=x.hp.there hm;exact bc ha e
theorem dW (hk:∀b o,b≠a->h.get? b=J o->h'.get? b=J o)(ha:∀o,h.get? a=J o->¬ jp o):bg h h':=λb o e hs=>by
 by_cases q:b=a
 ·subst q;exact absurd hs (ha o e)
 ·exact hk b o q e
theorem dB (x:nc C ρ h o a):∀ob,h.get? a=J ob->¬ jp ob:=λob e hs=>by
 cases o with
 | list xs=>
  obtain ⟨items,n,e',_⟩:=x;obtain rfl:=same e' e;exact ff hs
 | dict es=>
  obtain ⟨kvs,⟨o',ds,ep,e',_,hd,_⟩,_⟩:=x;obtain rfl:=same e' e;exact ff ((congrArg (jH o'.cls) hd).symm.trans hs)
 | attrs es=>
  obtain ⟨_,⟨o',ds,ep,e',hd,_⟩,_⟩:=x;obtain rfl:=same e' e;exact ff ((congrArg (jH o'.cls) hd).symm.trans hs)
 | exc c=>
  obtain ⟨_,o',vs,_,e',_,hd⟩:=x;obtain rfl:=same e' e;exact ff ((congrArg (jH o'.cls) hd).symm.trans hs)
theorem jq (x:WOk h a):∀ob,h.get? a=J ob->¬ jp ob:=λob e hs=>by
 refine e12 x λo e' d=>?_;obtain rfl:=same e' e
 rcases d with ⟨es,k,d⟩ | ⟨v,d⟩
 ·exact ff ((congrArg (jH o.cls) d).symm.trans hs)
 ·exact ff ((congrArg (jH o.cls) d).symm.trans hs)
theorem nc.there (x:nc C ρ h o a):∃ob,h.get? a=J ob:=by
 cases o with
 | list xs=>obtain ⟨_,_,e,_⟩:=x;exact ⟨_,e⟩
 | dict es=>obtain ⟨_,⟨_,_,_,e,_⟩,_⟩:=x;exact ⟨_,e⟩
 | attrs es=>obtain ⟨_,⟨_,_,_,e,_⟩,_⟩:=x;exact ⟨_,e⟩
 | exc c=>obtain ⟨_,_,_,_,e,_⟩:=x;exact ⟨_,e⟩
theorem Rel.put (x:Rel C F ρ m s)(ok:bb F)(hi:ρ[i]?=J a)(h0:m.heap[i]?=J o₀)(hk:∀b ob,b≠a->s.heap.get? b=J ob->s'.heap.get? b=J ob)(hg:s'.gens=s.gens)(hos:s'.os=s.os)
  (hr:nc C ρ s'.heap o a):Rel C F ρ (m.put i o) s'/\aB F.W ρ s ρ s':=by
 have ham:a∈ρ:=rW hi;have hs:bg s.heap s'.heap:=dW hk (dB (x.hp.objs i o₀ a h0 hi));have hb:C.base.StaysIn s'.heap:=λb ob e=>hk b ob (λq=>bc (x.hp.fresh a ham) (q▸e)) (x.hp.base b ob e);refine ⟨x.up ok hs (Kw _) (x.hp.put hs hi (λb hb hne ob e=>hk b ob hne e) hb hr) (λb h=>.inl h) (λb hb ob e=>⟨ob,hk b ob (λq=>(x.w b hb).1 (q▸ham)) e,rfl,rfl⟩)
  (λL hL ob eb=>⟨ob,hk L ob (λq=>(x.out L hL).1 (q▸ham)) eb,rfl,rfl⟩) hg,⟨Kw _,λb h=>.inl h,λb ob e h1 _=>.inl (hk b ob (λq=>h1 (q▸ham)) e),hs,λb ob e=>?_,hg,hos⟩⟩
 by_cases q:b=a
 ·subst q;exact hr.there
 ·exact ⟨ob,hk b ob q e⟩
theorem MS.get_at (h:m.get i=J v):m.vars[i]?=J (J v):=by
 unfold MS.get at h
 cases e:m.vars[i]? with
 | none=>rw [e] at h;exact aJ h
 | some o=>
  rw [e] at h
  cases o with
  | none=>exact aJ h
  | some w=>exact congrArg (λz=>J z) h
theorem MS.get_of (h:m.vars[i]?=J (J v)):m.get i=J v:=by
 unfold MS.get;rw [h]
theorem MS.get_set (m:MS)(i j:Nat)(v w:MV)(h:(m.set i v).get j=J w):(j=i/\w=v)\/(j≠i/\m.get j=J w):=by
 have h:(m.vars.set i (J v))[j]?=J (J w):=MS.get_at h;by_cases e:i=j
 ·subst e;have hlt:i<m.vars.length:=by
   have:=(iN.mp h).1;rw [OZ] at this;exact this
  rw [NK hlt] at h;exact .inl ⟨rfl,(By (By h)).symm⟩
 ·rw [Na e] at h;exact .inr ⟨λq=>e q.symm,MS.get_of h⟩
theorem Rel.own (x:Rel C F ρ m s)(ok:bb F)(ha:a∈F.W)(hsb:K8 a s.heap s'.heap)(hg:s'.gens=s.gens)(hos:s'.os=s.os)(hm:m'.heap=m.heap)
  (hw:WOk s'.heap a) (hfr:∀o,s.heap.get? a=J o->IsD o->∃o',s'.heap.get? a=J o'/\IsD o') (hns:∃f,s'.heap.Ns F.env.locals f) (hcell:∀v,s.heap.IsCell a v->∃w,s'.heap.IsCell a w)
  (hv:bg s.heap s'.heap->∀i v,m'.get i=J v->∃l,F.lay i=J l/\Holds C ρ s'.heap l v):Rel C F ρ m' s'/\aB F.W ρ s ρ s':=by
 have hk:∀b ob,b≠a->s.heap.get? b=J ob->s'.heap.get? b=J ob:=λb ob q e=>(hsb.2 b q).trans e;have hL:=x.w _ (tO _ ha);have hs:bg s.heap s'.heap:=dW hk (jq hL.2.2);refine ⟨⟨?_,hns,λb hb=>?_,hv hs,λi c e=>?_,λe he=>?_,hg.trans x.gens⟩,⟨Kw _,λb h=>.inl h,λb ob e h1 h2=>.inl (hk b ob (λq=>h2 (q▸ha)) e),hs,λb ob e=>?_,hg,hos⟩⟩
 ·rw [hm];exact x.hp.up hs (λb hb ob e=>hk b ob (λq=>hL.1 (q▸hb)) e) λb ob e=>hk b ob (λq=>bc hL.2.1 (q▸e)) (x.hp.base b ob e)
 ·obtain ⟨h1,h2,o,h3,h4⟩:=x.w b hb;refine ⟨h1,h2,?_⟩;by_cases q:b=a
  ·subst q;exact hw
  ·exact ⟨o,hk b o q h3,h4⟩
 ·refine e22 (x.cells i c e) λv o h1 h2=>?_;by_cases q:c=a
  ·subst q;exact hcell v ⟨o,h1,h2⟩
  ·exact ⟨v,o,hk c o q h1,h2⟩
 ·obtain ⟨h1,h2,o,h3,h4⟩:=x.out e he;refine ⟨h1,h2,?_⟩;by_cases q:e=a
  ·subst q;exact hfr o h3 h4
  ·exact ⟨o,hk e o q h3,h4⟩
 ·by_cases q:b=a
  ·subst q;obtain ⟨o,e,_⟩:=hw;exact ⟨o,e⟩
  ·exact ⟨ob,hk b ob q e⟩
theorem Rel.setName (x:Rel C F ρ m s)(ok:bb F){i:Nat}{n:Str}(hi:F.lay i=J (.nm F.env.locals n)){f:Str->Option DO}{v:DO}{w:MV}(hf:s.heap.Ns F.env.locals f)
  (hn:s'.heap.Ns F.env.locals (λy=>if y=n then J v else f y)) (hsb:K8 F.env.locals s.heap s'.heap) (hg:s'.gens=s.gens) (hos:s'.os=s.os) (hr:Rep C ρ s.heap w v) :
  Rel C F ρ (m.set i w) s'/\aB F.W ρ s ρ s':=by
 refine x.own ok ok.loc hsb hg hos rfl ?_ (λ_ _ _=>?_) ⟨_,hn⟩ (λv hc=>?_) λhs j u e=>?_
 ·obtain ⟨o,es,ep,ho,hd⟩:=s9 hn;exact ⟨o,ho,.inl ⟨es,ep,hd⟩⟩
 ·obtain ⟨o,es,ep,ho,hd⟩:=s9 hn;exact ⟨o,ho,es,ep,hd⟩
 ·exact gH hf hc
 ·rcases MS.get_set m i j w u e with ⟨rfl,rfl⟩ | ⟨hne,e⟩
  ·exact ⟨_,hi,_,v,hn,if_pos rfl,hr.up hs (Kw _)⟩
  ·refine e12 (x.vars j u e) λl h1 h2=>?_;refine ⟨l,h1,?_⟩;by_cases q:l.addr=F.env.locals
   ·cases l with
    | nm L y=>
     obtain rfl:L=F.env.locals:=q;obtain ⟨g,z,g1,g2,g3⟩:=h2;obtain rfl:=k9 g1 hf;exact ⟨_,z,hn,(if_neg λq:y=n=>hne (ok.inj j i _ h1 (by rw [q];exact hi))).trans g2,g3.up hs (Kw _)⟩
    | cl c=>
     obtain rfl:c=F.env.locals:=q;obtain ⟨z,hc,_⟩:=h2;exact gH hf hc
   ·exact h2.up hs (Kw _) λo e=>⟨o,(hsb.2 _ q).trans e,rfl,rfl⟩
theorem Rel.setCell (x:Rel C F ρ m s)(ok:bb F){i:Nat}{c:KO}(hi:F.lay i=J (.cl c))(hcm:c∈F.W){v₀:Option DO}{v:DO}{w:MV}(h0:s.heap.IsCell c v₀)
  (hn:s'.heap.IsCell c (J v)) (hsb:K8 c s.heap s'.heap) (hg:s'.gens=s.gens) (hos:s'.os=s.os) (hr:Rep C ρ s.heap w v) :
  Rel C F ρ (m.set i w) s'/\aB F.W ρ s ρ s':=by
 refine x.own ok hcm hsb hg hos rfl ?_ (λo e he=>?_) ?_ (λ_ _=>⟨_,hn⟩) λhs j u e=>?_
 ·refine e12 hn λo ho hd=>?_;exact ⟨o,ho,.inr ⟨_,hd⟩⟩
 ·refine e12 h0 λo' g1 g2=>?_;refine e21 he λ_ _ he=>?_;obtain rfl:=same e g1;exact nomatch g2.symm.trans he
 ·obtain ⟨f,hf⟩:=x.ns;exact ⟨f,hf.sameBut hsb λq=>gH hf (q▸h0)⟩
 ·rcases MS.get_set m i j w u e with ⟨rfl,rfl⟩ | ⟨hne,e⟩
  ·exact ⟨_,hi,v,hn,hr.up hs (Kw _)⟩
  ·refine e12 (x.vars j u e) λl h1 h2=>?_;refine ⟨l,h1,?_⟩;by_cases q:l.addr=c
   ·cases l with
    | nm L y=>
     obtain rfl:L=c:=q;obtain ⟨g,z,hg,_⟩:=h2;exact gH hg h0
    | cl c'=>
     obtain rfl:c'=c:=q;exact absurd (ok.inj j i _ h1 hi) hne
   ·exact h2.up hs (Kw _) λo e=>⟨o,(hsb.2 _ q).trans e,rfl,rfl⟩
end
section
variable {s:Kv}
theorem nj (h:fC x):Builtin.Int.intBits x<=64:=by
 unfold fC at h;have f:∀y:Int,y.natAbs<2 ^ 63->y<2 ^ 64:=λy h=>Int.lt_of_le_of_lt Int.le_natAbs (LN.mpr (LY h (show 2 ^ 63<2 ^ 64 by decide)));exact intBits_le_64 (Int.neg_lt_of_neg_lt (f (-x) (by rw [Int.natAbs_neg];exact h))) (f x h)
theorem wF {x y:Int}(h:0<y):x.fdiv y=x / y:=Int.fdiv_eq_ediv_of_nonneg x (Mx h)
theorem wG {x y:Int}(h:0<y):x.fmod y=x % y:=Int.fmod_eq_emod_of_nonneg x (Mx h)
theorem bP (R:Rel C F ρ m s)(ok:bb F)(hr:Rep C ρ s.heap x v)(h:Q x m):Out C F ρ s Q v { s with toks:=t }:=
 let ⟨R',st⟩:=R.tok ok t;⟨ρ,m,x,st,R',hr,h⟩
theorem cR (R:Rel C F ρ m s)(hr:Rep C ρ s.heap x v)(h:Q x m):Out C F ρ s Q v s:=⟨ρ,m,x,.refl _ _ _,R,hr,h⟩
theorem pY (R:Rel C F ρ m s)(ok:bb F)(hr:aL C ρ s.heap xs vs)(hz:xs.length<=line)(h:Q (.tup xs) m) :
  Out C F ρ s Q (.ref s.heap.objs.size) { s with heap:=s.heap.push (pX vs 0),toks:=t }:=by
 refine e02 (R.grow (s':={ s with heap:=s.heap.push (pX vs 0),toks:=t }) ok (λa o e=>Kt _ e) rfl rfl) λR' st=>?_;exact ⟨ρ,m,_,st,R',.tup (KM _ rfl) (hr.step st) hz,h⟩
theorem mF (R:Rel C F ρ m s)(ok:bb F)(hr:aL C ρ s.heap xs vs)(hz:xs.length<=line)(h:Q (.ref m.heap.length) (m.push (.list xs))) :
  Out C F ρ s Q (.ref s.heap.objs.size) { s with heap:=s.heap.push (eh vs 0),toks:=t }:=by
 have hk:∀a o,s.heap.get? a=J o->(s.heap.push (eh vs 0)).get? a=J o:=λa o e=>Kt _ e;obtain ⟨R',st⟩:=R.alloc (s':={ s with heap:=s.heap.push (eh vs 0),toks:=t }) ok hk rfl rfl (o:=.list xs) (a:=s.heap.objs.size) (bZ (oF _))
  ⟨vs,0,KM _ rfl,hr.up (λa o e _=>hk a o e) (Lb _ _),hz⟩
 refine ⟨_,_,_,st,R',.ref (i:=m.heap.length) ?_,h⟩;rw [<-R.hp.len,K7 (oF _)];simp
theorem tc (x y:List Nat):str x++str y=str (x++y):=by
 show (⟨x.toArray++y.toArray⟩:Str)=⟨(x++y).toArray⟩;simp
theorem cD (x:List Nat):(str x).length=x.length:=by simp [Str.length]
theorem BH (x:List Nat):(str x).cps.toList=x:=by simp
noncomputable def wH:Op->Operator
 | .add=>.Add | .sub=>.Sub | .mul=>.Mult | .fdiv=>.FloorDiv | .mod=>.Mod | .pow=>.Pow
theorem td (R:Rel C F ρ m s)(ok:bb F)(hx:Rep C ρ s.heap (.tup x) v)(hy:Rep C ρ s.heap (.tup y) w)(h:x.length+y.length<=line/\Q (.tup (x++y)) m) :
  BY (mod C) A (binaryOp .Add v w) (Out C F ρ s Q) E s:=by
 obtain ⟨hl,hq⟩:=h;obtain ⟨t,n,vs,rfl,gx,lx,zx⟩:=hx.inv;obtain ⟨b,n2,ws,rfl,gy,ly,zy⟩:=hy.inv;have e:vs.toArray++ws.toArray=(vs++ws).toArray:=by simp
 by_cases hv:vs=[]
 ·subst hv;obtain rfl:=List.length_eq_zero_iff.mp lx.length.symm;exact Pn ⟨_,gx,rfl⟩ ⟨_,gy,rfl⟩ OK Pf NL NF (Nr _ _)
   (PyProof.Rows.tuple_addW0 t b ([]:List DO).toArray ws.toArray n n2 bY bY #[] #[] (by simp)) ⟨gx,gy,cR R hy hq⟩
 ·by_cases hw:ws=[]
  ·subst hw;obtain rfl:=List.length_eq_zero_iff.mp ly.length.symm;exact Pn ⟨_,gx,rfl⟩ ⟨_,gy,rfl⟩ OK Pf NL NF (Nr _ _)
    (PyProof.Rows.tuple_addW1 t b vs.toArray ([]:List DO).toArray n n2 bY bY #[] #[] (by simpa using hv) (by simp)) ⟨gx,gy,cR R hx (by rw [Kr] at hq;exact hq)⟩
  ·refine Pn ⟨_,gx,rfl⟩ ⟨_,gy,rfl⟩ OK Pf NL NF (Nr _ _)
    (PyProof.Rows.tuple_addW2 t b vs.toArray ws.toArray n n2 bY bY #[] #[] (by simpa using hv) (by simpa using hw) (by rw [Ky,Ky,lx.length,ly.length];exact hl)) ⟨gx,gy,?_⟩
   rw [e];exact pY R ok (lx.append ly) (by simpa using hl) hq
theorem yh (R:Rel C F ρ m s)(ok:bb F){op:Op}(hop:op≠.add){x y:Int}{t u:Tok}(h:pW op x y Q m):BY (mod C) A (binaryOp (wH op) (.int x t) (.int y u)) (Out C F ρ s Q) E s:=by
 cases op with
 | add=>exact absurd rfl hop
 | sub=>exact PyProof.Rows.sub_int' (bP R ok (.int _ _) h)
 | mul=>exact PyProof.Rows.mul_int (bP R ok (.int _ _) h.2) (h.1.elim (λh=>.of_left (nj h)) λh=>.of_right (nj h))
 | fdiv=>
  refine e02 (jV h) λh1 h=>?_;have h1:=of_decide_eq_true h1;refine PyProof.Rows.floordiv_int (MY h1.1) ?_ (.inl (PyProof.noPylong_small (LN.mp (by rw [Int.natAbs_of_nonneg (Mx h1.1)];exact h1.2))));rw [wF h1.1];exact bP R ok (.int _ _) h
 | mod=>
  refine e02 (jV h) λh1 h=>?_;have h1:=of_decide_eq_true h1;refine PyProof.Rows.mod_int' (MY h1) ?_;rw [wG h1];exact bP R ok (.int _ _) h
 | pow=>
  refine e02 (jV h) λh1 hq=>?_;obtain ⟨rfl,hy⟩:=of_decide_eq_true h1;exact PyProof.Rows.pow_int_small (by rcases hy with rfl | rfl<;>decide) (by rcases hy with rfl | rfl<;>decide) (by decide) (bP R ok (.int _ _) hq)
theorem iZ {f:Int->Int->Prop}{x y:MV}{v w:DO}(hx:Rep C ρ s.heap x v)(hy:Rep C ρ s.heap y w)(h:onI x λa=>onI y λb=>f a b):∃a b t u,v=.int a t/\w=.int b u/\f a b:=by
 obtain ⟨a,rfl,h1⟩:=pV h;obtain ⟨b,rfl,h2⟩:=pV h1;obtain ⟨t,rfl⟩:=hx.inv;obtain ⟨u,rfl⟩:=hy.inv;exact ⟨a,b,t,u,rfl,rfl,h2⟩
theorem yi (hx:Rep C ρ s.heap x v)(hy:Rep C ρ s.heap y w)(h:m3 op x y Q m):∃a b t u,v=.int a t/\w=.int b u/\pW op a b Q m:=iZ hx hy h
theorem te (R:Rel C F ρ m s)(ok:bb F)(zx:a.length<=line)(zy:b.length<=line)(h:a.length+b.length<=line/\Q (.str (a++b)) m):BY (mod C) A (binaryOp .Add (.str (str a) t) (.str (str b) u)) (Out C F ρ s Q) E s:=by
 refine P.add_str ?_;rw [cD,cD];by_cases ea:a=[]
 ·subst ea;exact cR R (.str b u zy) h.2
 ·by_cases eb:b=[]
  ·subst eb;rw [if_neg (by simpa using ea)];exact cR R (.str a t zx) (by rw [Kr] at h;exact h.2)
  ·rw [if_neg (by simpa using ea),if_neg (by simpa using eb),tc];refine ⟨by rw [cD,eQ];exact h.1,bP R ok (.str _ _ (by rw [eQ];exact h.1)) h.2⟩
theorem qZ (R:Rel C F ρ m s)(ok:bb F)(hx:Rep C ρ s.heap (.ref i) v)(hy:Rep C ρ s.heap (.ref j) w)(h:uO (.ref i) (.ref j) Q m):BY (mod C) A (binaryOp .Add v w) (Out C F ρ s Q) E s:=by
 obtain ⟨a,rfl,ea⟩:=hx.inv;obtain ⟨b,rfl,eb⟩:=hy.inv;refine e12 (cY h) λx e1 h=>?_;refine e13 (cY h) λy e2 h1 h2=>?_;obtain ⟨ix,nx,gx,lx,zx⟩:=R.hp.objs _ _ _ e1 ea;obtain ⟨iy,ny,gy,ly,zy⟩:=R.hp.objs _ _ _ e2 eb;have e:ix.toArray++iy.toArray=(ix++iy).toArray:=List.append_toArray ..;refine P.add_list gx gy ?_ (by rw [Ky,Ky,lx.length,ly.length];exact h1);rw [e];exact mF R ok (lx.append ly) (by rw [eQ];exact h1) h2
theorem Fi (R:Rel C F ρ m s)(ok:bb F)(hx:Rep C ρ s.heap x v)(hy:Rep C ρ s.heap y w)(h:uO x y Q m):BY (mod C) A (binaryOp (wH .add) v w) (Out C F ρ s Q) E s:=by
 refine Kz λhn=>?_
 cases x with
 | int a=>
  cases y with
  | int b=>
   obtain ⟨t,rfl⟩:=hx.inv;obtain ⟨u,rfl⟩:=hy.inv;exact hn (wpAny_add_int (bP R ok (.int _ _) h))
  | _=>exact h
 | str a=>
  cases y with
  | str b=>
   obtain ⟨t,rfl,zx⟩:=hx.inv;obtain ⟨u,rfl,zy⟩:=hy.inv;exact hn (te R ok zx zy h)
  | _=>exact h
 | tup a=>
  cases y with
  | tup b=>exact hn (td R ok hx hy h)
  | _=>exact h
 | ref i=>
  cases y with
  | ref j=>exact hn (qZ R ok hx hy h)
  | _=>exact h
 | _=>exact h
end
section
theorem Fj (R:Rel C F ρ m s)(ok:bb F)(hx:Rep C ρ s.heap x v)(hy:Rep C ρ s.heap y w)(h:Ec x y Q m):BY (mod C) A (binaryOp (wH .mul) v w) (Out C F ρ s Q) E s:=by
 have h:m3 .mul x y Q m:=by
  cases y with
  | int j=>
   cases x with
   | int i=>exact h
   | str s=>exact absurd (show uw=aT from h.1) (by decide)
   | ref i=>
    obtain ⟨xs,_,h⟩:=cY h;obtain ⟨v,_,h,_⟩:=jU h;exact absurd h (by decide)
   | _=>exact h.elim
  | _=>exact h.elim
 obtain ⟨a,b,t,u,rfl,rfl,h⟩:=yi hx hy h;exact yh R ok (by intro q;cases q) h
end
section
theorem Fk (R:Rel C F ρ m s)(ok:bb F)(hx:Rep C ρ s.heap x v)(hy:Rep C ρ s.heap y w)(h:x7 op x y Q m) :
  BY (mod C) A (binaryOp (wH op) v w) (Out C F ρ s Q) E s:=by
 have key:op≠.add->m3 op x y Q m->BY (mod C) A (binaryOp (wH op) v w) (Out C F ρ s Q) E s:=λhop h=>by
  obtain ⟨a,b,t,u,rfl,rfl,h⟩:=yi hx hy h;exact yh R ok hop h
 cases op with
 | add=>exact Fi R ok hx hy h
 | mul=>exact Fj R ok hx hy h
 | sub=>exact key (by intro q;cases q) h
 | fdiv=>exact key (by intro q;cases q) h
 | mod=>exact key (by intro q;cases q) h
 | pow=>exact key (by intro q;cases q) h
end
section
set_option maxRecDepth 100000
theorem i0 (n:Nat):dec n=(OS 10 n).map Char.toNat:=by
 show (Nat.repr n).toList.map OP=_;rw [Nat.toList_repr]
theorem pZ (n:Nat):dec n≠[]:=λe=>by
 have h:=toDigits_len_ge 10 n;rw [<-iF (f:=OP),<-i0,e] at h;exact absurd h (by decide)
theorem fE (h:0<=i/\i<1000000):1<=(dec i).length/\(dec i).length<=6:=by
 obtain ⟨n,rfl⟩:=K3 h.1;have e:(dec n).length=(Nat.repr n).length:=by
  show ((Nat.repr n).toList.map OP).length=_;rw [iF,String.length_toList]
 refine ⟨?_,?_⟩
 ·rw [i0,iF];exact toDigits_len_ge 10 n
 ·rw [e];exact (Nat.length_repr_le_iff (by decide)).mpr (by lia)
theorem BI (h:-1<=i/\i<1000000):(dec i).length<=6:=by
 rcases Int.lt_or_le i 0 with q | q
 ·obtain rfl:i=-1:=by lia
  decide
 ·exact (fE ⟨q,h.2⟩).2
end
mutual
noncomputable def D.py:D->PyData
 | .none=>.none
 | .bool b=>.bool b
 | .int i=>.int i
 | .str s=>.str (Internal.str s)
 | .list xs=>.list (D.pys xs)
 | .tup xs=>.tuple (D.pys xs)
noncomputable def D.pys:List D->List PyData
 | []=>[]
 | x::xs=>D.py x::D.pys xs
end
theorem nk:(Internal.str x==Internal.str y)=(x==y):=by
 rw [Oa];simp
mutual
theorem D.eqv_py:∀(d e:D),PyData.eqv d.py e.py=d.deq e
 | .none,e=>by cases e<;>rfl
 | .bool b,e=>by cases e<;>rfl
 | .int b,e=>by cases e<;>rfl
 | .str b,e=>by
  cases e with
  | str c=>exact nk
  | _=>rfl
 | .list xs,e=>by
  cases e with
  | list ys=>exact D.eqvs_py xs ys
  | _=>rfl
 | .tup xs,e=>by
  cases e with
  | tup ys=>exact D.eqvs_py xs ys
  | _=>rfl
theorem D.eqvs_py:∀(d e:List D),PyData.eqvAll (D.pys d) (D.pys e)=D.deqs d e
 | [],[]=>rfl
 | [],_::_=>rfl
 | _::_,[]=>rfl
 | x::xs,y::ys=>by show (PyData.eqv x.py y.py&&PyData.eqvAll (D.pys xs) (D.pys ys))=(x.deq y&&D.deqs xs ys);rw [D.eqv_py x y,D.eqvs_py xs ys]
end
mutual
theorem D.lay_py:∀(d:D),d.ok=aT->d.py.canLay0=aT
 | .none,_=>rfl
 | .bool b,_=>rfl
 | .int b,_=>rfl
 | .str b,h=>by
  show PyData.strOk (Internal.str b)=aT;simp only [PyData.strOk,List.all_toArray,K2,decide_eq_true_eq];intro c hc;have:=of_decide_eq_true (K2.mp h c hc);exact dO this (nb rfl)
 | .list xs,h=>D.lays_py xs h
 | .tup xs,h=>D.lays_py xs h
theorem D.lays_py:∀(d:List D),D.oks d=aT->PyData.canLayAll0 (D.pys d)=aT
 | [],_=>rfl
 | x::xs,h=>by
  have h:x.ok=aT/\D.oks xs=aT:=(KU ..).mp h;exact (KU ..).mpr ⟨D.lay_py x h.1,D.lays_py xs h.2⟩
end
mutual
theorem D.depth_py:∀(d:D),d.py.depth=d.deep
 | .none=>rfl
 | .bool b=>rfl
 | .int b=>rfl
 | .str b=>rfl
 | .list xs=>by show Ob (D.pys xs)+1=D.deeps xs+1;rw [D.depths_py xs]
 | .tup xs=>by show Ob (D.pys xs)+1=D.deeps xs+1;rw [D.depths_py xs]
theorem D.depths_py:∀(d:List D),Ob (D.pys d)=D.deeps d
 | []=>rfl
 | x::xs=>by show max x.py.depth (Ob (D.pys xs))=max x.deep (D.deeps xs);rw [D.depth_py x,D.depths_py xs]
end
section
theorem Rd.both (H:Hp C ρ hp h):(∀{x:MV}{d:D},Rd hp x d->∀v,Rep C ρ h x v->∃as,Reads h v d.py as)/\(∀{x:List MV}{d:List D},Rds hp x d->∀v,aL C ρ h x v->∃as,ReadsAll h v (D.pys d) as):=by
 have k1:∀v,Rep C ρ h .none v->∃as,Reads h v D.none.py as:=λv r=>by obtain rfl:=r.inv;exact ⟨_,.none⟩
 have k2:∀b v,Rep C ρ h (.bool b) v->∃as,Reads h v (D.bool b).py as:=λb v r=>by obtain rfl:=r.inv;exact ⟨_,.bool b⟩
 have k3:∀i v,Rep C ρ h (.int i) v->∃as,Reads h v (D.int i).py as:=λi v r=>by obtain ⟨t,rfl⟩:=r.inv;exact ⟨_,.int i t⟩
 have k4:∀s v,Rep C ρ h (.str s) v->∃as,Reads h v (D.str s).py as:=λs v r=>by obtain ⟨t,rfl,_⟩:=r.inv;exact ⟨_,.str _ t⟩
 have k5:∀{xs ds},Rds hp xs ds->(∀v,aL C ρ h xs v->∃as,ReadsAll h v (D.pys ds) as)->∀v,Rep C ρ h (.tup xs) v->∃as,Reads h v (D.tup ds).py as:=λ_ ih v r=>by
  obtain ⟨a,n,items,rfl,g,l,_⟩:=r.inv;obtain ⟨as,q⟩:=ih _ l;exact ⟨_,.tuple g rfl rfl q⟩
 have k6:∀{i xs ds},hp[i]?=J (.list xs)->Rds hp xs ds->(∀v,aL C ρ h xs v->∃as,ReadsAll h v (D.pys ds) as)->∀v,Rep C ρ h (.ref i) v->∃as,Reads h v (D.list ds).py as:=λhi _ ih v r=>by
  obtain ⟨a,rfl,e⟩:=r.inv;obtain ⟨items,n,g,r,_⟩:=H.objs _ _ _ hi e;obtain ⟨as,q⟩:=ih _ r;exact ⟨_,.list g rfl rfl q⟩
 have k7:∀v,aL C ρ h [] v->∃as,ReadsAll h v (D.pys []) as:=λv r=>by obtain rfl:=r.inv;exact ⟨_,.nil⟩
 have k8:∀{x xs d ds},Rd hp x d->Rds hp xs ds->(∀v,Rep C ρ h x v->∃as,Reads h v d.py as)->(∀v,aL C ρ h xs v->∃as,ReadsAll h v (D.pys ds) as)->∀v,aL C ρ h (x::xs) v->∃as,ReadsAll h v (D.pys (d::ds)) as:=λ_ _ i1 i2 v r=>by
  obtain ⟨w,ws,rfl,a,b⟩:=r.inv;obtain ⟨as,q⟩:=i1 _ a;obtain ⟨bs,q'⟩:=i2 _ b;exact ⟨_,.cons q q'⟩
 exact ⟨λr=>Rd.rec (motive_1:=λx d _=>∀v,Rep C ρ h x v->∃as,Reads h v d.py as) (motive_2:=λx d _=>∀v,aL C ρ h x v->∃as,ReadsAll h v (D.pys d) as) k1 k2 k3 k4 k5 k6 k7 k8 r,
  λr=>Rds.rec (motive_1:=λx d _=>∀v,Rep C ρ h x v->∃as,Reads h v d.py as) (motive_2:=λx d _=>∀v,aL C ρ h x v->∃as,ReadsAll h v (D.pys d) as) k1 k2 k3 k4 k5 k6 k7 k8 r⟩
theorem Rd.reads (H:Hp C ρ hp h)(r:Rd hp x d)(q:Rep C ρ h x v):∃as,Reads h v d.py as:=(Rd.both H).1 r v q
inductive hX (s:Kv)(P:Bool->Prop)(r:DO)(s':Kv):Prop
 | mk (b:Bool) (t:Nat) (hr:r=.bool b) (hs:s'={ s with toks:=t }) (hp:P b):hX s P r s'
theorem Fo (R:Hp C ρ hp s.heap)(hx:Rep C ρ s.heap x v)(hy:Rep C ρ s.heap y w)(hd:Rd hp x d)(he:Rd hp y e)(hk:d.deep<=1000)(h1:d.ok=aT)(h2:e.ok=aT)
  (hu:A.units+1000<cLine) (h:P (d.deq e)):BY (mod C) A (compareOp .Eq v w) (hX s P) E s:=by
 obtain ⟨as,ra⟩:=hd.reads R hx;obtain ⟨bs,rb⟩:=he.reads R hy;refine SeqAt.compareEq_reads ra rb (d.lay_py h1) (e.lay_py h2) ?_ ⟨_,s.toks,rfl,rfl,?_⟩
 ·rw [D.depth_py,D.depth_py];exact Kn (L6 (dO (L8 ..) hk) _) hu
 ·rw [D.eqv_py];exact h
theorem Fp (R:Hp C ρ hp s.heap)(hx:Rep C ρ s.heap x v)(hy:Rep C ρ s.heap y w)(hd:Rd hp x d)(he:Rd hp y e)(hk:d.deep<=1000)(h1:d.ok=aT)(h2:e.ok=aT)
  (hu:A.units+1000<cLine) (h:P (!d.deq e)):BY (mod C) A (compareOp .NotEq v w) (hX s P) E s:=by
 obtain ⟨as,ra⟩:=hd.reads R hx;obtain ⟨bs,rb⟩:=he.reads R hy;refine SeqAt.compareNe_reads ra rb (d.lay_py h1) (e.lay_py h2) ?_ ⟨_,s.toks,rfl,rfl,?_⟩
 ·rw [D.depth_py,D.depth_py];exact Kn (L6 (dO (L8 ..) hk) _) hu
 ·rw [D.eqv_py];exact h
open SeqAt in
theorem yj (hx:Rep C ρ s.heap x v)(hy:Rep C ρ s.heap y w)(h:aeq x y=J b):RcAt A s v w b/\RcNeAt A s v w (!b):=by
 refine Kz λhn=>?_;have key:∀{c:Bool},RcAt A s v w c/\RcNeAt A s v w (!c)->J c=J b->False:=λ{c} q e=>by obtain rfl:=By e;exact hn q
 clear hn
 cases x with
 | none=>
  cases hx.inv
  cases y with
  | none=>cases hy.inv;exact key ⟨RcAt.none_none,RcNeAt.none_none⟩ h
  | bool q=>cases hy.inv;exact key ⟨RcAt.none_bool q,RcNeAt.none_bool q⟩ h
  | int q=>obtain ⟨t,rfl⟩:=hy.inv;exact key ⟨RcAt.none_int q t,RcNeAt.none_int q t⟩ h
  | str q=>obtain ⟨t,rfl,_⟩:=hy.inv;exact key ⟨RcAt.none_str (Internal.str q) t,RcNeAt.none_str (Internal.str q) t⟩ h
  | _=>exact aJ h
 | bool p=>
  cases hx.inv
  cases y with
  | none=>cases hy.inv;exact key ⟨RcAt.bool_none p,RcNeAt.bool_none p⟩ h
  | bool q=>cases hy.inv;exact key ⟨RcAt.bool_bool p q,RcNeAt.bool_bool p q⟩ h
  | str q=>obtain ⟨t,rfl,_⟩:=hy.inv;exact key ⟨RcAt.bool_str p (Internal.str q) t,RcNeAt.bool_str p (Internal.str q) t⟩ h
  | _=>exact aJ h
 | int p=>
  obtain ⟨u,rfl⟩:=hx.inv
  cases y with
  | none=>cases hy.inv;exact key ⟨RcAt.int_none p u,RcNeAt.int_none p u⟩ h
  | int q=>obtain ⟨t,rfl⟩:=hy.inv;exact key ⟨RcAt.int_int p u q t,RcNeAt.int_int p u q t⟩ h
  | str q=>obtain ⟨t,rfl,_⟩:=hy.inv;exact key ⟨RcAt.int_str p u (Internal.str q) t,RcNeAt.int_str p u (Internal.str q) t⟩ h
  | _=>exact aJ h
 | str p=>
  obtain ⟨u,rfl,_⟩:=hx.inv
  cases y with
  | none=>cases hy.inv;exact key ⟨RcAt.str_none (Internal.str p) u,RcNeAt.str_none (Internal.str p) u⟩ h
  | bool q=>cases hy.inv;exact key ⟨RcAt.str_bool (Internal.str p) u q,RcNeAt.str_bool (Internal.str p) u q⟩ h
  | int q=>obtain ⟨t,rfl⟩:=hy.inv;exact key ⟨RcAt.str_int (Internal.str p) u q t,RcNeAt.str_int (Internal.str p) u q t⟩ h
  | str q=>obtain ⟨t,rfl,_⟩:=hy.inv;exact key ⟨RcAt.str_str (Internal.str p) u (Internal.str q) t,RcNeAt.str_str (Internal.str p) u (Internal.str q) t⟩ ((congrArg J nk).trans h)
  | _=>exact aJ h
 | _=>exact aJ h
end
structure GX (C:Glo):Prop where
 nox:∀k,C.xa k=bY
structure GOk (C:Glo):Prop where
 sys:(C.base.get? sysModules).isSome=aT
 nolimit:C.base.NoLimit
 fns:∀f a,C.fa f=J a->∃o fd,C.base.get? a=J o/\o.data=.func fd
 cls:∀k K,C.ca k=J K->∃N,PyProof.Rows.ClsAt C.base K N (C.cm k)
 quiet:∀k K,C.ca k=J K->C.cm k "__setattr__"=bY/\C.cm k "__getattribute__"=bY/\C.cm k "__getattr__"=bY
 x:GX C
section
theorem mG (G:GOk C)(H:Hp C ρ hp h)(ha:a∈ρ):(a==sysModules)=Z:=by
 have:=H.fresh a ha
 cases e:a==sysModules with
 | false=>rfl
 | true=>
  have:a=sysModules:=by simpa using e
  subst this;have g:=G.sys;rw [H.fresh _ ha] at g;exact ff g
theorem gG.length (r:gG C ρ h es kvs):kvs.length=es.length:=by
 induction r with
 | nil=>rfl
 | cons _ _ _ ih=>exact congrArg (·+1) ih
theorem mH (e:str x=str y):x=y:=by
 have:(str x).cps.toList=(str y).cps.toList:=by rw [e]
 simpa using this
theorem gG.get (r:gG C ρ h es kvs)(k:List Nat):match aN es k with
  | some x=>∃v,valueAt kvs (str k)=J v/\Rep C ρ h x v
  | none=>valueAt kvs (str k)=bY:=by
 induction r with
 | nil=>rfl
 | @cons k' x v es ds z a b ih=>
  show match (match k'==k with
   | true=>J x
   | false=>aN es k) with
  | some x=>∃v',valueAt ((str k',v)::ds) (str k)=J v'/\Rep C ρ h x v'
  | none=>valueAt ((str k',v)::ds) (str k)=bY
  by_cases e:k'=k
  ·subst e;rw [beq_self_eq_true];exact ⟨v,by simp [valueAt],a⟩
  ·have e2:¬ str k'=str k:=λq=>e (mH q);have e1:(k'==k)=Z:=by simpa using e
   have ev:valueAt ((str k',v)::ds) (str k)=valueAt ds (str k):=by simp [valueAt,e2]
   rw [e1,ev];exact ih
end
section
theorem o6 (hud:HP=aT)(G:GOk C)(R:Hp C ρ hp s.heap)(hx:Rep C ρ s.heap (.ref i) v)(hy:Rep C ρ s.heap (.ref j) w)(hi:hp[i]?=J (.dict es))(hj:hp[j]?=J (.dict es))
  (hl:∀e∈es,∃k,e.2=.int k) (hn:(es.map (·.1)).Nodup) (hu:A.units<cLine) :
  (Q (.bool aT) s->BY (mod C) A (compareOp .Eq v w) Q E s)/\(Q (.bool Z) s->BY (mod C) A (compareOp .NotEq v w) Q E s):=absurd hud (by decide)
end
section
noncomputable def IB (hp:List MO)(xs:List MV)(ds:List D):Prop:=match xs with
 | []=>ds=[]
 | x::r=>∃d es,ds=d::es/\Rd hp x d/\Rds hp r es
theorem Rds.inv (r:Rds hp xs ds):IB hp xs ds:=Rds.casesOn (motive_2:=λxs ds _=>IB hp xs ds) r rfl (λa b=>⟨_,_,rfl,a,b⟩)
theorem Rds.get {xs:List MV}{ds:List D}(r:Rds hp xs ds){j:Nat}{x:MV}(e:xs[j]?=J x):∃d,ds[j]?=J d/\Rd hp x d:=by
 induction xs generalizing ds j with
 | nil=>exact aJ e
 | cons y xs ih=>
  obtain ⟨d,es,rfl,a,b⟩:=r.inv
  cases j with
  | zero=>obtain rfl:=By e;exact ⟨_,rfl,a⟩
  | succ j=>exact ih b e
theorem Rds.length (r:Rds hp xs ds):ds.length=xs.length:=by
 induction xs generalizing ds with
 | nil=>rw [r.inv];rfl
 | cons y xs ih=>
  obtain ⟨d,es,rfl,a,b⟩:=r.inv;exact congrArg (·+1) (ih b)
theorem uU:∀{ds:List D},D.oks ds=aT->∀{j:Nat}{d:D},ds[j]?=J d->d.ok=aT
 | [],_,_,_,e=>by exact aJ e
 | d::ds,h,0,_,e=>by obtain rfl:=By e;exact ((KU ..).mp h).1
 | d::ds,h,i+1,_,e=>uU ((KU ..).mp h).2 e
theorem Fq (H:Hp C ρ hp s.heap)(hx:Rep C ρ s.heap x v)(hy:Rep C ρ s.heap y w)(hd:Rd hp x d)(he:Rd hp y e)(hk:e.deep<=1000)(h1:d.ok=aT)(h2:e.ok=aT)
  (hu:A.units+1000<cLine):OT A s v w (d.deq e):=by
 refine e11 (hd.reads H hx) λas ra=>?_;refine e11 (he.reads H hy) λbs rb=>?_;rw [<-D.eqv_py];exact SeqAt.eqAt_reads _ _ A s v w _ _ ra rb (d.lay_py h1) (e.lay_py h2) (by rw [D.depth_py,D.depth_py];exact Kn (L6 (dO (Md ..) hk) _) hu)
open Classical in
theorem wI (H:Hp C ρ hp s.heap){x:MV}{v:DO}{ys:List MV}{ws:List DO}(hx:Rep C ρ s.heap x v)(hy:aL C ρ s.heap ys ws){d:D}{es:List D}(hd:Rd hp x d)(he:Rds hp ys es)(hk:d.deep<=1000)
  (h1:d.ok=aT) (h2:D.oks es=aT) (hu:A.units+1000<cLine) :
  ∃e:DO->Bool,(∀y,y∈ws.toArray->OT A s y v (e y))/\ws.toArray.any e=es.any (λe=>e.deq d):=by
 have item:∀j y,ws[j]?=J y->∃e:D,es[j]?=J e/\OT A s y v (e.deq d):=λj y hj=>by
  have hlt:j<ys.length:=by rw [<-hy.length];exact (iN.mp hj).1
  refine e12 (he.get (KC hlt)) λe e1 e2=>?_;refine e12 (hy.get (KC hlt)) λw w1 w2=>?_;obtain rfl:=same hj w1;exact ⟨e,e1,Fq H w2 hx e2 hd hk (uU h2 e1) h1 hu⟩
 refine ⟨λy=>decide (∃(j:Nat) (e:D),ws[j]?=J y/\es[j]?=J e/\e.deq d=aT),λy hy'=>?_,?_⟩
 ·refine e11 (List.mem_iff_getElem?.mp (by simpa using hy':y∈ws)) λj hj=>?_;refine e12 (item j y hj) λe e1 e2=>?_;show OT A s y v (decide (∃(j:Nat) (e:D),ws[j]?=J y/\es[j]?=J e/\e.deq d=aT));by_cases q:∃(j:Nat) (e:D),ws[j]?=J y/\es[j]?=J e/\e.deq d=aT
  ·rw [decide_eq_true q];refine e23 q λk e' k1 k2 k3=>?_;refine e12 (item k y k1) λe'' e3 e4=>?_;obtain rfl:=same k2 e3;rw [k3] at e4;exact e4
  ·rw [decide_eq_false q]
   cases b:e.deq d with
   | false=>rw [b] at e2;exact e2
   | true=>exact absurd ⟨j,e,hj,e1,b⟩ q
 ·rw [Oa];simp only [List.any_toArray,Ls,decide_eq_true_eq];constructor
  ·rintro ⟨y,_,j,e,_,h4,h5⟩
   exact ⟨e,rW h4,h5⟩
  ·rintro ⟨e,he',h5⟩
   obtain ⟨j,hj⟩:=List.mem_iff_getElem?.mp he';have hlt:j<ws.length:=by rw [hy.length,<-he.length];exact (iN.mp hj).1
   exact ⟨ws[j],La hlt,j,e,KC hlt,hj,h5⟩
theorem ti (H:Hp C ρ hp s.heap)(hx:Rep C ρ s.heap x v)(l:aL C ρ s.heap ys ws)(hu:A.units+1001<cLine)(h:InP hp x ys P)
  (k:∀e:DO->Bool,(∀y,y∈ws.toArray->OT A.in1 s y v (e y))->hX s P (.bool (ws.toArray.any e)) s->BY (mod C) A (compareOp .In v (.ref a)) (hX s P) E s):BY (mod C) A (compareOp .In v (.ref a)) (hX s P) E s:=by
 obtain ⟨d,es,hd,he,hk,h1,h2,hq⟩:=h;obtain ⟨e,e1,e2⟩:=wI (A:=A.in1) H hx l hd he hk h1 h2 (by simp;exact hu);exact k e e1 ⟨_,s.toks,rfl,rfl,by rw [e2];exact hq⟩
theorem hY (prog:Nz)(w:Mw)(x:Str)(t:Tok):(strKind prog w).is x (.str x t)=aT:=by simp [Lc,DO.isStrOf]
theorem uV (H:Hp C ρ hp s.heap)(hx:Rep C ρ s.heap x v)(hs:(a==sysModules)=Z)(dk:s.heap.DictOf (strKind C.prog C.w) a kvs)(rk:gG C ρ s.heap es kvs)(h:onS x λs=>P (aN es s).isSome) :
  BY (mod C) A (compareOp .In v (.ref a)) (hX s P) E s:=by
 obtain ⟨k,rfl,hq⟩:=iR h;obtain ⟨t,rfl,_⟩:=hx.inv;refine wpAny_in_of (hY C.prog C.w (str k) t) hs dk.mapOf ⟨_,s.toks+1,rfl,rfl,?_⟩;have:=rk.get k
 cases e:aN es k with
 | none=>rw [e] at this hq;rw [this];exact hq
 | some x=>rw [e] at this hq;obtain ⟨v,e',_⟩:=this;rw [e'];exact hq
theorem Fs (G:GOk C)(H:Hp C ρ hp s.heap)(hx:Rep C ρ s.heap x v)(hc:Rep C ρ s.heap (.ref i) w)(hu:A.units+1001<cLine)(h:Eb hp[i]? x P hp) :
  BY (mod C) A (compareOp .In v w) (hX s P) E s:=by
 obtain ⟨a,rfl,g⟩:=hc.inv;obtain ⟨ys,hi,h⟩ | ⟨es,hi,h⟩:=jW h
 ·obtain ⟨items,n,gi,l,_⟩:=H.objs _ _ _ hi g;exact ti H hx l hu h λe e1 e2=>SeqAt.in_listAt e ⟨_,gi,rfl,_,rfl⟩ e1 e2
 ·obtain ⟨kvs,dk,rk,_⟩:=H.objs _ _ _ hi g;exact uV H hx (mG G H (rW g)) dk rk h
theorem En (G:GOk C)(H:Hp C ρ hp s.heap)(hx:Rep C ρ s.heap x v)(hc:Rep C ρ s.heap c w)(hu:A.units+1001<cLine)(h:E8 x c P hp) :
  BY (mod C) A (compareOp .In v w) (hX s P) E s:=by
 refine Kz λhn=>?_
 cases c with
 | tup ys=>
  obtain ⟨a,n,items,rfl,g,l,_⟩:=hc.inv;exact hn (ti H hx l hu h λe e1 e2=>SeqAt.in_tupleAt e ⟨_,g,rfl,_,rfl⟩ e1 e2)
 | gt ss=>
  obtain ⟨a,o,items,n,rfl,g,g1,g2,l⟩:=hc.inv;exact hn (ti H hx l hu h λe e1 e2=>SeqAt.in_tupleAt e ⟨_,H.base _ _ g,g1,_,g2⟩ e1 e2)
 | ref i=>exact hn (Fs G H hx hc hu h)
 | cdict es=>
  obtain ⟨a,kvs,rfl,hs,⟨o,ds,ep,e,r⟩,ck⟩:=hc.inv;exact hn (uV H hx hs ⟨o,ds,ep,H.base _ _ e,r⟩ ck.rep h)
 | str s'=>
  obtain ⟨t,rfl,_⟩:=hc.inv;obtain ⟨y,rfl,h1⟩:=iR h;obtain ⟨a,rfl,h2⟩:=Bx h1;obtain ⟨u,rfl,_⟩:=hx.inv;refine hn (PySem.P.in_str ⟨_,s.toks,rfl,rfl,?_⟩);rw [show _=_ from StrLaws.found_one (str s') a]
  simpa using h2
 | _=>exact h
theorem yk (h:BY (mod C) A (compareOp .In v w) (hX s (λb=>P (!b))) E s):BY (mod C) A (compareOp .NotIn v w) (hX s P) E s:=λΓ p hΓ=>by
 have this:Sem.wp _ Γ (contains w v >>= λb=>pure (DO.bool b)) _ _ p s:=h Γ p hΓ;show Sem.wp _ Γ (contains w v >>= λb=>pure (DO.bool (!b))) _ _ p s;rw [Sem.wp_bind'] at this ⊢;refine Sem.wp_mono _ Γ _ (λb p' s' h'=>?_) (λ_ _ _ h'=>h') _ _ this;obtain ⟨b',t,e1,e2,e3⟩:=h'
 cases e1
 exact ⟨_,t,rfl,e2,e3⟩
noncomputable def jr:Cmp->CmpOp
 | .eq=>.Eq | .ne=>.NotEq | .lt=>.Lt | .le=>.LtE | .gt=>.Gt | .ge=>.GtE | .inn=>.In | .nin=>.NotIn
open SeqAt in
theorem yl (H:Hp C ρ hp s.heap)(hx:Rep C ρ s.heap (.ref i) v)(hy:Rep C ρ s.heap (.ref j) w)(hi:hp[i]?=J (.list xs))(hj:hp[j]?=J (.list []))(hu:A.units<cLine) :
  (P (.bool xs.isEmpty) s->BY (mod C) A (compareOp .Eq v w) P E s)/\(P (.bool (!xs.isEmpty)) s->BY (mod C) A (compareOp .NotEq v w) P E s):=by
 obtain ⟨a,rfl,g⟩:=hx.inv;obtain ⟨b,rfl,g'⟩:=hy.inv;obtain ⟨items,n,gi,l,_⟩:=H.objs _ _ _ hi g;obtain ⟨items',n',gi',l',_⟩:=H.objs _ _ _ hj g';obtain rfl:=l'.inv;have hl:s.heap.IsList _ items.toArray:=⟨_,gi,rfl,_,rfl⟩
 have hl':s.heap.IsList _ ([]:List DO).toArray:=⟨_,gi',rfl,_,rfl⟩
 cases xs with
 | nil=>
  obtain rfl:=l.inv;exact ⟨RcAt.lists (e:=λ_=>aT) hl hl' rfl hu (λj h=>absurd h (Mu j)) _ _ _ _,RcNeAt.lists (e:=λ_=>aT) hl hl' rfl hu (λj h=>absurd h (Mu j)) _ _ _ _⟩
 | cons x xs=>
  obtain ⟨v,ws,rfl,_⟩:=l.inv;exact ⟨RcAt.lists_lengths hl hl' rfl hu _ _ _ _,RcNeAt.lists_lengths hl hl' rfl hu _ _ _ _⟩
theorem Ft (G:GOk C)(H:Hp C ρ m.heap s.heap)(hx:Rep C ρ s.heap x v)(hy:Rep C ρ s.heap y w)(hu:A.units+1001<cLine)(h:lN op x y P m) :
  BY (mod C) A (compareOp (jr op) v w) (hX s (λb=>P b m)) E s:=by
 have hu':A.units<cLine:=Kn (K5 ..) hu;have hu2:A.units+1000<cLine:=NM hu;have out:∀{b:Bool},P b m->hX s (λb=>P b m) (.bool b) s:=λh=>⟨_,s.toks,rfl,rfl,h⟩
 cases op with
 | eq=>
  obtain ⟨b,e,h⟩ | h:=uz h
  ·exact (yj (A:=A) hx hy e).1 _ _ _ _ (out h)
  ·obtain ⟨d,e,hd,he,hk,h1,h2,hq⟩ | ⟨hud,i,j,es,rfl,rfl,hi,hj,hl,hn,hq⟩ | ⟨i,j,xs,rfl,rfl,hi,hj,hq⟩:=h
   ·exact Fo H hx hy hd he hk h1 h2 hu2 hq
   ·exact (o6 hud G H hx hy hi hj hl hn hu').1 (out hq)
   ·exact (yl H hx hy hi hj hu').1 (out hq)
 | ne=>
  obtain ⟨b,e,h⟩ | h:=uz h
  ·exact (yj (A:=A) hx hy e).2 _ _ _ _ (out h)
  ·obtain ⟨d,e,hd,he,hk,h1,h2,hq⟩ | ⟨hud,i,j,es,rfl,rfl,hi,hj,hl,hn,hq⟩ | ⟨i,j,xs,rfl,rfl,hi,hj,hq⟩:=h
   ·exact Fp H hx hy hd he hk h1 h2 hu2 hq
   ·exact (o6 hud G H hx hy hi hj hl hn hu').2 (out hq)
   ·exact (yl H hx hy hi hj hu').2 (out hq)
 | lt=>obtain ⟨a,b,t,u,rfl,rfl,h⟩:=iZ hx hy h;exact wpAny_lt_int (out h)
 | le=>obtain ⟨a,b,t,u,rfl,rfl,h⟩:=iZ hx hy h;exact PyProof.Rows.le_int (out h)
 | gt=>obtain ⟨a,b,t,u,rfl,rfl,h⟩:=iZ hx hy h;exact PyProof.Rows.gt_int (out h)
 | ge=>obtain ⟨a,b,t,u,rfl,rfl,h⟩:=iZ hx hy h;exact PyProof.Rows.ge_int (out h)
 | inn=>exact En G H hx hy hu h
 | nin=>exact yk (En G H hx hy hu h)
end
noncomputable def ym:Pos:=⟨0,0,0,0⟩
noncomputable def noE:Expr:=.Constant .none 0 ym
set_option genCtorIdx false in
structure V where
 tag:Nat
 p:Pos:=ym
 e1:Expr:=noE
 e2:Expr:=noE
 xs:List Expr:=[]
 s:Str:=⟨#[]⟩
 n:Nat:=0
 k:Const:=.none
 o:Operator:=.Add
 u:UnaryOp:=.Not
 b:BoolOp:=.And
 cs:List CmpOp:=[]
 ks:List Keyword:=[]
 o1:Option Expr:=none
 o2:Option Expr:=none
 o3:Option Expr:=none
 os:List (Option KY):=[]
 gs:List Comprehension:=[]
 sc:Scope:=⟨.function,[],Z,Z,[]⟩
noncomputable def view:KY->V
 | .Constant k n p=>{ tag:=0,k,n,p }
 | .Name s p=>{ tag:=1,s,p }
 | .BinOp e1 o e2 p=>{ tag:=2,e1,o,e2,p }
 | .UnaryOp u e1 p=>{ tag:=3,u,e1,p }
 | .BoolOp b xs p=>{ tag:=4,b,xs,p }
 | .Compare e1 cs xs p=>{ tag:=5,e1,cs,xs,p }
 | .Call e1 xs ks p=>{ tag:=6,e1,xs,ks,p }
 | .Attribute e1 s p=>{ tag:=7,e1,s,p }
 | .Subscript e1 e2 p=>{ tag:=8,e1,e2,p }
 | .Slice o1 o2 o3 p=>{ tag:=9,o1,o2,o3,p }
 | .List xs p=>{ tag:=10,xs,p }
 | .Tuple xs n p=>{ tag:=11,xs,n,p }
 | .Dict os xs p=>{ tag:=12,os,xs,p }
 | .ListComp e1 gs sc p=>{ tag:=13,e1,gs,sc,p }
 | _=>{ tag:=14 }
noncomputable def back (v:V):Nat->Option KY
 | 0=>J (.Constant v.k v.n v.p)
 | 1=>J (.Name v.s v.p)
 | 2=>J (.BinOp v.e1 v.o v.e2 v.p)
 | 3=>J (.UnaryOp v.u v.e1 v.p)
 | 4=>J (.BoolOp v.b v.xs v.p)
 | 5=>J (.Compare v.e1 v.cs v.xs v.p)
 | 6=>J (.Call v.e1 v.xs v.ks v.p)
 | 7=>J (.Attribute v.e1 v.s v.p)
 | 8=>J (.Subscript v.e1 v.e2 v.p)
 | 9=>J (.Slice v.o1 v.o2 v.o3 v.p)
 | 10=>J (.List v.xs v.p)
 | 11=>J (.Tuple v.xs v.n v.p)
 | 12=>J (.Dict v.os v.xs v.p)
 | 13=>J (.ListComp v.e1 v.gs v.sc v.p)
 | _=>bY
theorem BJ (e:KY):∀x,back (view e) (view e).tag=J x->e=x:=by
 cases e<;>first | exact λx h=>By h | exact λx h=>nomatch h
theorem bp (h:(view e).tag=n)(hx:back (view e) n=J x):e=x:=BJ e x (h▸hx)
set_option tactic.hygienic true in
theorem bz {α:Type}{n m:Nat}{a b:α}(h:(if n=m then J a else bY)=J b):n=m/\a=b:=by
 split at h
 ·rename_i q;exact ⟨q,By h⟩
 ·exact aJ h
noncomputable def ax {α:Type}(o:Option α)(f:α->Bool):Bool:=match o with
 | some a=>f a
 | none=>Z
theorem ah (h:ax o f=aT):∃a,o=J a/\f a=aT:=by
 cases o with
 | none=>exact ff h
 | some a=>exact ⟨a,rfl,h⟩
noncomputable def one {α:Type}(xs:List α):Option α:=match xs with
 | [x]=>J x
 | _=>bY
theorem cU (h:one xs=J x):xs=[x]:=by
 rcases xs with _ | ⟨a,_ | ⟨b,r⟩⟩
 ·exact aJ h
 ·exact congrArg (·::[]) (By h)
 ·exact aJ h
noncomputable def two {α:Type}(xs:List α):Option (α × α):=match xs with
 | [x,y]=>J (x,y)
 | _=>bY
theorem p8 (h:two xs=J (x,y)):xs=[x,y]:=by
 rcases xs with _ | ⟨a,_ | ⟨b,_ | ⟨c,r⟩⟩⟩
 ·exact aJ h
 ·exact aJ h
 ·obtain ⟨rfl,rfl⟩:=Ot (By h);rfl
 ·exact aJ h
noncomputable def p9 (e:KY):Option Const:=if (view e).tag=0 then J (view e).k else bY
noncomputable def fF (e:KY):Option Str:=if (view e).tag=1 then J (view e).s else bY
noncomputable def IC (e:KY):Option (KY × Operator × KY):=if (view e).tag=2 then J ((view e).e1,(view e).o,(view e).e2) else bY
noncomputable def xUn (e:KY):Option (UnaryOp × KY):=if (view e).tag=3 then J ((view e).u,(view e).e1) else bY
noncomputable def yn (e:KY):Option (BoolOp × List KY):=if (view e).tag=4 then J ((view e).b,(view e).xs) else bY
noncomputable def BK (e:KY):Option (KY × List CmpOp × List KY):=if (view e).tag=5 then J ((view e).e1,(view e).cs,(view e).xs) else bY
noncomputable def yo (e:KY):Option (KY × List KY × List Keyword × Pos):=if (view e).tag=6 then J ((view e).e1,(view e).xs,(view e).ks,(view e).p) else bY
noncomputable def uW (e:KY):Option (KY × Str × Pos):=if (view e).tag=7 then J ((view e).e1,(view e).s,(view e).p) else bY
noncomputable def BL (e:KY):Option (KY × KY):=if (view e).tag=8 then J ((view e).e1,(view e).e2) else bY
noncomputable def yp (e:KY):Option (Option KY × Option KY × Option KY):=if (view e).tag=9 then J ((view e).o1,(view e).o2,(view e).o3) else bY
noncomputable def Eo (e:KY):Option (List KY):=if (view e).tag=10 then J (view e).xs else bY
noncomputable def tj (e:KY):Option (List KY):=if (view e).tag=11 then J (view e).xs else bY
noncomputable def Ep (e:KY):Option (List (Option KY) × List KY):=if (view e).tag=12 then J ((view e).os,(view e).xs) else bY
noncomputable def xLC (e:KY):Option (KY × List Comprehension × Scope):=if (view e).tag=13 then J ((view e).e1,(view e).gs,(view e).sc) else bY
section
theorem lc {k:Const}(h:p9 e=J k):∃a b,e=.Constant k a b:=by
 refine e02 (bz h) λh1 h2=>?_
 cases h2
 exact ⟨_,_,bp h1 rfl⟩
theorem cZ {x:Str}(h:fF e=J x):∃p,e=.Name x p:=by
 refine e02 (bz h) λh1 h2=>?_
 cases h2
 exact ⟨_,bp h1 rfl⟩
theorem BM {l r:KY}{o:Operator}(h:IC e=J (l,o,r)):∃p,e=.BinOp l o r p:=by
 refine e02 (bz h) λh1 h2=>?_
 cases h2
 exact ⟨_,bp h1 rfl⟩
theorem qa {o:UnaryOp}{x:KY}(h:xUn e=J (o,x)):∃p,e=.UnaryOp o x p:=by
 refine e02 (bz h) λh1 h2=>?_
 cases h2
 exact ⟨_,bp h1 rfl⟩
theorem jY {o:BoolOp}{xs:List KY}(h:yn e=J (o,xs)):∃p,e=.BoolOp o xs p:=by
 refine e02 (bz h) λh1 h2=>?_
 cases h2
 exact ⟨_,bp h1 rfl⟩
theorem jZ {l:KY}{os:List CmpOp}{rs:List KY}(h:BK e=J (l,os,rs)):∃p,e=.Compare l os rs p:=by
 refine e02 (bz h) λh1 h2=>?_
 cases h2
 exact ⟨_,bp h1 rfl⟩
theorem q8 {f:KY}{xs:List KY}{ks:List Keyword}{p:Pos}(h:yo e=J (f,xs,ks,p)):e=.Call f xs ks p:=by
 refine e02 (bz h) λh1 h2=>?_
 cases h2
 exact bp h1 rfl
theorem nn {v:KY}{n:Str}{p:Pos}(h:uW e=J (v,n,p)):e=.Attribute v n p:=by
 refine e02 (bz h) λh1 h2=>?_
 cases h2
 exact bp h1 rfl
theorem qb {v i:KY}(h:BL e=J (v,i)):∃p,e=.Subscript v i p:=by
 refine e02 (bz h) λh1 h2=>?_
 cases h2
 exact ⟨_,bp h1 rfl⟩
theorem wJ {l u st:Option KY}(h:yp e=J (l,u,st)):∃p,e=.Slice l u st p:=by
 refine e02 (bz h) λh1 h2=>?_
 cases h2
 exact ⟨_,bp h1 rfl⟩
theorem yq {xs:List KY}(h:Eo e=J xs):∃p,e=.List xs p:=by
 refine e02 (bz h) λh1 h2=>?_
 cases h2
 exact ⟨_,bp h1 rfl⟩
theorem j0 {xs:List KY}(h:tj e=J xs):∃k p,e=.Tuple xs k p:=by
 refine e02 (bz h) λh1 h2=>?_
 cases h2
 exact ⟨_,_,bp h1 rfl⟩
theorem yr {ks:List (Option KY)}{vs:List KY}(h:Ep e=J (ks,vs)):∃p,e=.Dict ks vs p:=by
 refine e02 (bz h) λh1 h2=>?_
 cases h2
 exact ⟨_,bp h1 rfl⟩
theorem qc {x:KY}{gs:List Comprehension}{sc:Scope}(h:xLC e=J (x,gs,sc)):∃p,e=.ListComp x gs sc p:=by
 refine e02 (bz h) λh1 h2=>?_
 cases h2
 exact ⟨_,bp h1 rfl⟩
end
noncomputable def xFn (e:KY):Option (Str × List KY × Pos):=(yo e).bind λq=>match q.2.2.1 with
 | []=>(fF q.1).map λx=>(x,q.2.1,q.2.2.2)
 | _=>bY
theorem jI (h:xFn e=J (x,xs,p)):∃px,e=.Call (.Name x px) xs [] p:=by
 unfold xFn at h;obtain ⟨⟨f,ys,ks,q⟩,h1,h2⟩:=KV.mp h
 cases ks with
 | nil=>
  refine e12 (EQ.mp h2) λy h3 h4=>?_;obtain ⟨px,rfl⟩:=cZ h3
  cases h4
  exact ⟨px,q8 h1⟩
 | cons=>exact aJ h2
noncomputable def o8 (e:KY):Option ((KY × Str × Pos) × List KY × Pos):=(yo e).bind λq=>match q.2.2.1 with
 | []=>(uW q.1).map λx=>(x,q.2.1,q.2.2.2)
 | _=>bY
theorem q9 (h:o8 e=J ((v,n,p),xs,q)):e=.Call (.Attribute v n p) xs [] q:=by
 unfold o8 at h;obtain ⟨⟨f,ys,ks,q⟩,h1,h2⟩:=KV.mp h
 cases ks with
 | nil=>
  refine e12 (EQ.mp h2) λy h3 h4=>?_
  cases h4
  have:=nn h3;subst this;exact q8 h1
 | cons=>exact aJ h2
noncomputable def okX (e:KY):Bool:=(view e).tag != 9&&(view e).tag != 14
theorem dX {e:KY}{P:KY->Prop}(h:okX e=aT)(h1:∀k a p,P (.Constant k a p))(h2:∀x p,P (.Name x p))(h3:∀l o r p,P (.BinOp l o r p))(h4:∀o x p,P (.UnaryOp o x p))(h5:∀o xs p,P (.BoolOp o xs p))
  (h6:∀l os rs p,P (.Compare l os rs p)) (h7:∀f xs ks p,P (.Call f xs ks p)) (h8:∀v n p,P (.Attribute v n p)) (h9:∀v i p,P (.Subscript v i p)) (h10:∀xs p,P (.List xs p)) (h11:∀xs k p,P (.Tuple xs k p)) (h12:∀ks vs p,P (.Dict ks vs p))
  (h13:∀x gs sc p,P (.ListComp x gs sc p)):P e:=by
 cases e<;>first | exact h1 _ _ _ | exact h2 _ _ | exact h3 _ _ _ _ | exact h4 _ _ _ | exact h5 _ _ _ | exact h6 _ _ _ _ | exact h7 _ _ _ _ | exact h8 _ _ _ | exact h9 _ _ _ | exact h10 _ _ | exact h11 _ _ _ | exact h12 _ _ _ | exact h13 _ _ _ _ | exact ff h
theorem bB {e:KY}(h:okX e=aT)(rest:List KY)(env:Env):starEach (e::rest) env=(Z,eval e env)::starEach rest env:=
 dX (P:=λe=>starEach (e::rest) env=(Z,eval e env)::starEach rest env) h (λ_ _ _=>rfl) (λ_ _=>rfl) (λ_ _ _ _=>rfl) (λ_ _ _=>rfl) (λ_ _ _=>rfl) (λ_ _ _ _=>rfl) (λ_ _ _ _=>rfl) (λ_ _ _=>rfl) (λ_ _ _=>rfl) (λ_ _=>rfl) (λ_ _ _=>rfl) (λ_ _ _=>rfl) (λ_ _ _ _=>rfl)
theorem i6 {e:KY}(h:okX e=aT)(op:CmpOp):behindInMarks op e=Z:=
 dX (P:=λe=>behindInMarks op e=Z) h (λ_ _ _=>rfl) (λ_ _=>rfl) (λ_ _ _ _=>rfl) (λ_ _ _=>rfl) (λ_ _ _=>rfl) (λ_ _ _ _=>rfl) (λ_ _ _ _=>rfl) (λ_ _ _=>rfl) (λ_ _ _=>rfl) (λ_ _=>rfl) (λ_ _ _=>rfl) (λ_ _ _=>rfl) (λ_ _ _ _=>rfl)
theorem nq {e:KY}(h:okX e=aT)(env:Env)(x:DO):foldedSetIterable e env x=pure x:=
 dX (P:=λe=>foldedSetIterable e env x=pure x) h (λ_ _ _=>rfl) (λ_ _=>rfl) (λ_ _ _ _=>rfl) (λ_ _ _=>rfl) (λ_ _ _=>rfl) (λ_ _ _ _=>rfl) (λ_ _ _ _=>rfl) (λ_ _ _=>rfl) (λ_ _ _=>rfl) (λ_ _=>rfl) (λ_ _ _=>rfl) (λ_ _ _=>rfl) (λ_ _ _ _=>rfl)
noncomputable def eD (e:KY):Bool:=(xLC e).isSome
theorem fZ {e:KY}(h:eD e=Z)(h':okX e=aT)(t:Option KY)(l:Nat)(env:Env):swapsWith e t l env=pure Z:=
 dX (P:=λe=>eD e=Z->swapsWith e t l env=pure Z) h' (λ_ _ _ _=>rfl) (λ_ _ _=>rfl) (λ_ _ _ _ _=>rfl) (λ_ _ _ _=>rfl) (λ_ _ _ _=>rfl) (λ_ _ _ _ _=>rfl) (λ_ _ _ _ _=>rfl) (λ_ _ _ _=>rfl) (λ_ _ _ _=>rfl) (λ_ _ _=>rfl) (λ_ _ _ _=>rfl) (λ_ _ _ _=>rfl) (λ_ _ _ _ h=>by exact tf h) h
noncomputable def nt (e:KY):Bool:=(view e).tag==1||(view e).tag==8||(view e).tag==0||(view e).tag==7
theorem oP (h:nt o=aT)(name:Str)(env:Env):attributeBase o name env (eval o env)=eval o env:=by
 simp only [nt,O0,beq_iff_eq] at h
 rcases h with ((h | h) | h) | h
 ·have e:=bp h rfl;rw [e];rfl
 ·have e:=bp h rfl;rw [e];rfl
 ·have e:=bp h rfl;rw [e];rfl
 ·have e:=bp h rfl;rw [e];rfl
theorem i7 (h:okX slice=aT):subscripted slice Z o i=operate [o,i] (getItem o i):=
 dX (P:=λe=>subscripted e Z o i=operate [o,i] (getItem o i)) h (λ_ _ _=>rfl) (λ_ _=>rfl) (λ_ _ _ _=>rfl) (λ_ _ _=>rfl) (λ_ _ _=>rfl) (λ_ _ _ _=>rfl) (λ_ _ _ _=>rfl) (λ_ _ _=>rfl) (λ_ _ _=>rfl) (λ_ _=>rfl) (λ_ _ _=>rfl) (λ_ _ _=>rfl) (λ_ _ _ _=>rfl)
theorem i8:subscripted (.Slice l u bY p) Z o i=operate [i,o] (getItem o i):=rfl
theorem nu (h:g9 k n=J j):seqIndex? k n=J j/\-(n:Int)<=k/\k<n/\(0<=k->j=k.toNat)/\(k<0->j=(k+n).toNat):=by
 unfold g9 at h;by_cases h0:0<=k
 ·by_cases h1:k<n
  ·simp only [h0,h1,decide_true] at h;obtain rfl:=By h;exact ⟨seqIndex_of h0 h1,by lia,h1,λ_=>rfl,λq=>by lia⟩
  ·simp [h0,h1] at h
 ·by_cases h1:-(n:Int)<=k
  ·simp only [h0,h1,decide_true,decide_false] at h;obtain rfl:=By h;exact ⟨seqIndex_neg (z1 (NY.mp h0)) h1,h1,by lia,λq=>absurd q h0,λ_=>rfl⟩
  ·simp [h0,h1] at h
set_option tactic.hygienic true in
theorem wK (k:Int)(n:Nat):wz k n=clipAt n k:=by
 unfold wz clipAt
 split
 ·rename_i h;replace h:=of_decide_eq_true h;rw [if_neg (MX.mpr h),OL (Int.le_min.mpr ⟨h,KZ n⟩)];refine Lm (Int.le_total k n) (λq=>?_) λq=>?_
  ·rw [O3 q,Mv (Oh.mpr q)]
  ·rw [Int.min_eq_right q,NZ ((Int.le_toNat h).mpr q)];rfl
 ·rename_i h;replace h:=NY.mp (of_decide_eq_false h);rw [if_pos h,O3 (show k+n<=n from Mp (Int.add_le_add_right (Mx h) n) (Int.le_of_eq (Int.zero_add _)))];refine Lm (Int.le_total 0 (k+n)) (λq=>?_) λq=>?_
  ·rw [OL q]
  ·rw [Int.max_eq_left q];exact Int.toNat_of_nonpos q
theorem BN (k:Int)(n:Nat):clipAt n k<=n:=by unfold clipAt;split<;>exact Oh.mpr (Int.max_le.mpr ⟨KZ _,Int.min_le_right _ _⟩)
theorem f6 (xs:List α)(lo hi:Option Int):aQ xs lo hi=(xs.drop (lo.elim 0 (clipAt xs.length))).take (hi.elim xs.length (clipAt xs.length)-lo.elim 0 (clipAt xs.length)):=by
 unfold aQ;simp only;rw [List.drop_take]
 cases lo<;>cases hi<;>simp only [Option.elim,wK]
section
theorem aL.slice (l:aL C ρ h xs vs)(lo hi:Option Int):aL C ρ h (aQ xs lo hi) (aQ vs lo hi):=by
 unfold aQ;have e:=l.length
 cases lo<;>cases hi<;>simp only [e]<;>exact (l.take _).drop _
theorem nv (xs:List α)(lo hi:Option Int):(aQ xs lo hi).length<=xs.length:=by
 rw [f6,KS,Lf];exact dO (Md _ _) (Nb _ _)
theorem fG (h:n<=line):(n:Int)<2 ^ 63:=by unfold line at h;lia
theorem qd (h:eJ xs k f):∃j v,g9 k xs.length=J j/\xs[j]?=J v/\f v:=by
 refine e12 (de h) λj hj h=>?_;refine e12 (de h) λv hv h=>?_;exact ⟨j,v,hj,hv,h⟩
inductive yt (C:Glo)(ρ:List KO)(s:Kv)(m:MS)(Q:PQ)(v:DO)(s':Kv):Prop
 | mk (y:MV) (tk:Nat) (e:s'={ s with toks:=tk }) (r:Rep C ρ s.heap y v) (h:Q y m)
theorem yt.out (o:yt C ρ s m Q v s')(R:Rel C F ρ m s)(ok:bb F):Out C F ρ s Q v s':=by
 obtain ⟨y,tk,rfl,r,h⟩:=o;exact bP R ok r h
theorem re (hns:okX slice=aT)(hl:s.heap.IsList a items.toArray)(l:aL C ρ s.heap xs items)(zl:xs.length<=line)(h:eJ xs k λv=>Q v m) :
  BY (mod C) A (subscriptTail value slice (.ref a) (.int k u)) (yt C ρ s m Q) E s:=by
 refine e23 (qd h) λj z hj hz h=>?_;refine e05 (nu hj) λe1 e2 e3 e4 e5=>?_;refine e12 (l.get hz) λr r1 r2=>?_;have:=fG zl;refine Oj hl.typeIs slot_list_getitem.lookup ?_ (i7 hns);by_cases h0:0<=k
 ·exact wpAny_getItem_list hl h0 (Po e3 this) (by rw [<-e4 h0];exact (Lj ..).trans r1) ⟨_,s.toks,rfl,r2,h⟩
 ·have h0:k<0:=NY.mp h0;exact wpAny_getItem_list_neg hl h0 (by rw [Ky,l.length];exact e2) (by lia) (by rw [Ky,l.length,<-e5 h0];exact (Lj ..).trans r1) ⟨_,s.toks,rfl,r2,h⟩
theorem rf (hns:okX slice=aT)(dk:s.heap.DictOf (strKind C.prog C.w) a kvs)(rk:gG C ρ s.heap es kvs)(h:onO (aN es k) λv=>Q v m) :
  BY (mod C) A (subscriptTail value slice (.ref a) (.str (Internal.str k) t)) (yt C ρ s m Q) E s:=by
 refine e12 (de h) λz hz h=>?_;have:=rk.get k;rw [hz] at this;refine e12 this λv e r=>?_;exact Oj dk.typeIs slot_dict_getitem.lookup (wpAny_getItem_of (hY C.prog C.w (Internal.str k) t) dk.mapOf e ⟨_,_,rfl,r,h⟩) (i7 hns)
theorem Fu (G:GOk C)(R:Rel C F ρ m s)(hx:Rep C ρ s.heap x v)(hy:Rep C ρ s.heap y w)(hns:okX slice=aT)(h:Ed x y Q m) :
  BY (mod C) A (subscriptTail value slice v w) (yt C ρ s m Q) E s:=by
 refine Kz λhn=>?_
 cases y with
 | int k=>
  obtain ⟨u,rfl⟩:=hy.inv
  cases x with
  | tup xs=>
   obtain ⟨a,n,items,rfl,g,l,zl⟩:=hx.inv;refine e23 (qd h) λj z hj hz h=>?_;refine e04 (nu hj) λe1 e2 e3 _=>?_;refine e12 (l.get hz) λr r1 r2=>?_;have:=fG zl;refine hn (Oj ⟨_,g,rfl⟩ MZ.lookup (PySem.P.getItem_tuple g (by lia) (by lia) ?_ ((Lj ..).trans r1) ⟨_,s.toks,rfl,r2,h⟩) (i7 hns));rw [Ky,l.length];exact e1
  | str xs=>
   obtain ⟨t,rfl,zl⟩:=hx.inv;refine e23 (qd h) λj z hj hz h=>?_;refine e04 (nu hj) λe1 e2 e3 _=>?_;have:=fG zl;refine hn (Oj (T:="str") (Ol s (Internal.str xs) t) slot_str_getitem.lookup (PySem.P.getItem_str ?_ ?_ ⟨_,_,rfl,.str _ _ (by simp [line]),h⟩) (i7 hns))
   ·simp only [LV,decide_eq_false_iff_not];lia
   ·rw [cD,e1];exact (Lj ..).trans hz
  | ref i=>
   obtain ⟨a,rfl,g⟩:=hx.inv;refine e12 (cY h) λxs hi h=>?_;obtain ⟨items,n,gi,l,zl⟩:=R.hp.objs _ _ _ hi g;exact hn (re hns ⟨_,gi,rfl,_,rfl⟩ l zl h)
  | scr xs=>
   obtain ⟨la,items,n,rfl,g,l,zl⟩:=hx.inv;refine hn (re (xs:=xs.map .int) hns ⟨_,R.hp.base _ _ g,rfl,_,rfl⟩ (m9 l) (by rw [iF];exact zl) ?_);refine e23 (qd h) λj z hj hz h=>?_;show onO (g9 k (xs.map MV.int).length) _;rw [iF,hj];show onO (xs.map MV.int)[j]? _;rw [ID,hz];exact h
  | _=>exact h
 | str k=>
  obtain ⟨t,rfl,_⟩:=hy.inv
  cases x with
  | ref i=>
   obtain ⟨a,rfl,g⟩:=hx.inv;refine e12 (qS h) λes hi h=>?_;obtain ⟨kvs,dk,rk,zk⟩:=R.hp.objs _ _ _ hi g;exact hn (rf hns dk rk h)
  | cdict es=>
   obtain ⟨a,kvs,rfl,hs,⟨o,ds,ep,e,r⟩,ck⟩:=hx.inv;exact hn (rf hns ⟨o,ds,ep,R.hp.base _ _ e,r⟩ ck.rep h)
  | _=>exact h
 | _=>exact h
end
section
theorem rg {a n:Nat}(ha:n<a):Nj (J (a:Int)) bY 1 (n:Int)=((n:Int),(n:Int)):=by
 unfold Nj;have h1:¬ ((1:Int)<0):=by lia
 have h2:¬ ((a:Int)<0):=by lia
 simp only [h1,h2,if_false];congr 1;lia
theorem rh (n:Nat):Mt (n:Int) (n:Int) 1=0:=by
 unfold Mt;have h1:(1:Int) > 0:=by lia
 simp only [h1,if_true,Int.ediv_one]
 split<;>lia
theorem qe {sl:KO}{a n:Nat}{u:Tok}{Q:Int × Int × Nat->Kv->Prop}(hs:s.heap.IsSliceOf sl (.int a u) .none .none)(ha:n<a)(h:Q ((n:Int),1,0) s) :
  BY (model prog w) A (Builtin.Slice.sliceApplied (.ref sl) (pure (n:Int))) Q E s:=by
 refine e13 hs λos hos hcs hds=>?_;unfold Builtin.Slice.sliceApplied Builtin.Slice.sliceFields;refine iS (iS (wpAny_field hos hds (x:=.int a u) rfl (iS (wpAny_field hos hds (x:=.none) rfl (iS (wpAny_field hos hds (x:=.none) rfl (Do ?_)))))));refine iS (slicePart_none ?_);rw [if_neg (by decide)];refine iS (slicePart_int (iS (slicePart_none (iS (Do ?_)))));show BY _ _ (match Nj (J (a:Int)) bY 1 (n:Int) with | (lo,hi)=>pure (lo,(1:Int),Mt lo hi 1)) _ _ s;rw [rg ha];show BY _ _ (pure ((n:Int),(1:Int),Mt (n:Int) (n:Int) 1)) _ _ s;rw [rh];exact Do h
theorem wL {t sl:KO}{items:Array DO}{a:Nat}{u:Tok}{Q:DO->Kv->Prop}(ht:IsTup s.heap t items)(hs:s.heap.IsSliceOf sl (.int a u) .none .none)(h1:1<=items.size)(ha:items.size<a)
  (h:Q (.ref s.heap.objs.size) { s with heap:=s.heap.push { cls:=.type "tuple",data:=.seq #[] } }):BY (model prog w) A (getItem (.ref t) (.ref sl)) Q E s:=by
 refine e13 hs λos hos hcs hds=>?_;have hTs:s.TypeIs (.ref sl) "slice":=⟨os,hos,hcs⟩
 unfold getItem
 try with_reducible refine K4 ?_
 first | refine iS (Do ?_) | skip
 refine iS (wpAny_sequenceKey ht.typeIs (by decide) ?_);refine iS (Mk (name:=Mi "__getitem__") ht.typeIs MZ
  (Mf MZ ht.typeIs entry_tuple_getitem ?_ (args_tuple_getitem _ _)))
 show BY _ _ (Builtin.Tuple.tupleItemsOf (.ref t) >>= _) _ _ s;refine iS (tupleItemsOf_ ht ?_);refine iS (OU hTs ?_);rw [if_pos (by decide)];refine iS (qe hs ha ?_);have hno:¬ (((items.size:Int)==0&&(1:Int)==1&&0==items.size)=aT):=by
  have:((items.size:Int)==0)=Z:=by rw [beq_eq_false_iff_ne];lia
  rw [this];simp
 show BY _ _ (if ((items.size:Int)==0&&(1:Int)==1&&0==items.size)=aT then _ else _) _ _ s;rw [if_neg hno]
 first
  | exact iS (m:=MF _) (Lz (Do ⟨_,rfl,Do h⟩) (Ko _))
  | exact iS (m:=MF _) (Lz (iS (Do (Do ⟨_,rfl,Do h⟩))) (Ko _))
  | exact iS (iS (m:=MF _) (Lz (Do (Do ⟨_,rfl,Do h⟩)) (Ko _)))
  | exact iS (iS (m:=MF _) (Lz (Do ⟨_,rfl,Do h⟩) (Ko _)))
end
section
theorem Fv (R:Rel C F ρ m s)(ok:bb F){b a:KO}{n:Nat}{xs:List MV}{items:List DO}{value:KY}{l u:Option KY}{p:Pos}{k:Int}{t:Tok}(g:s.heap.get? b=J (pX items n))(rl:aL C ρ s.heap xs items)(z:xs.length<=line)(hs:s.heap.IsSliceOf a (.int k t) .none .none)
  (hk:D7=aT/\1<=k/\1<=xs.length) (hq:Q (.tup (xs.drop k.toNat)) m):BY (mod C) A (subscriptTail value (.Slice l u bY p) (.ref b) (.ref a)) (Out C F ρ s Q) E s:=by
 refine e03 hk λ_ k1 k2=>?_;obtain ⟨j,rfl⟩:=K3 (show 0<=k from z1 k1 (by simp +arith only));have e:=rl.length;refine Lm (LO xs.length j) (λhp=>?_) λhp=>?_
 ·refine Oj (T:="tuple") ⟨_,g,rfl⟩ MZ.lookup (wL ⟨_,g,rfl,_,rfl⟩ hs (by rw [Ky,e];exact k2) (by rw [Ky,e];exact hp) ?_) i8;have e0:xs.drop ((j:Int)).toNat=[]:=NN (LA hp);rw [e0] at hq;exact pY R ok .nil (Ko _) hq
 refine Oj (T:="tuple") ⟨_,g,rfl⟩ MZ.lookup (getItem_tuple_from ⟨_,g,rfl,_,rfl⟩ hs (by lia) (by rw [Ky];lia) ?_ (by rw [Ky,e];exact z)) i8;exact pY R ok (rl.drop j) (dO (by rw [Lf];exact Nb ..) z) hq
end
section
variable {s:Kv}
noncomputable def j4 (C:Glo)(ρ:List KO)(h:KR):Option MV->DO->Prop
 | none,v=>v=.none
 | some x,v=>Rep C ρ h x v
theorem uX {lo:Option MV}{v:DO}(h:j4 C ρ s.heap lo v){k:Option Int}(e:sQ lo=J k):IsPart v k/\∃l:Option (Int × Tok),v=partValue l/\l.map (·.1)=k:=by
 cases lo with
 | none=>
  obtain rfl:=By e;obtain rfl:v=.none:=h;exact ⟨.none,bY,rfl,rfl⟩
 | some x=>
  cases x with
  | int i=>
   obtain ⟨t,rfl⟩:=Rep.inv h;obtain rfl:=By e;exact ⟨.int i t,J (i,t),rfl,rfl⟩
  | _=>exact aJ e
theorem yu (h:IsPart v (J k)):∃t,v=.int k t:=by cases h;exact ⟨_,rfl⟩
theorem wM (h:IsPart v bY):v=.none:=by cases h;rfl
theorem rj (x:List Nat)(lo hi:Option Int):((LB lo hi 1 x.length).filterMap (x.toArray[·]?))=aQ x lo hi/\(LB lo hi 1 x.length).length=(aQ x lo hi).length:=by
 have e:LB lo hi 1 x.length=(LH (hi.elim x.length (clipAt x.length)-lo.elim 0 (clipAt x.length))).map (lo.elim 0 (clipAt x.length) + ·):=by
  have h1:LB lo hi 1 x.length=sliceRange (sliceBounds lo hi bY x.length).1 (sliceBounds lo hi bY x.length).2.1 (sliceBounds lo hi bY x.length).2.2:=rfl;rw [h1,sliceBounds_plain,sliceRange_one]
 rw [e];constructor
 ·rw [pick_run,f6]
 ·rw [f6,iF,List.length_range,KS,Lf];have:hi.elim x.length (clipAt x.length)<=x.length:=by cases hi<;>simp [BN]
  exact (Mv (N6 this _)).symm
theorem tq {y:List Nat}{lo hi:Option Int}(h:(aQ y lo hi).length=y.length):aQ y lo hi=y:=by
 rw [f6] at h ⊢;rw [KS,Lf] at h
 cases y with
 | nil=>simp
 | cons a b=>
  have h3:lo.elim 0 (clipAt (a::b).length)=0:=Ou.mp (Nat.le_of_not_lt λq=>Nt _ (KG (Nat.sub_lt (Mq _) q) (dO (Km h.symm) (Md _ _))));rw [h3] at h ⊢;rw [List.drop_zero,Nat.sub_zero];exact M0 (dO (Km h.symm) (L8 _ _))
section
variable {lo hi:Option Int}
set_option tactic.hygienic true in
theorem Fw (R:Rel C F ρ m s)(ok:bb F)(z:y.length<=line)(hsl:s.heap.IsSlice a l1 l2 bY)(ml1:l1.map (·.1)=lo)(ml2:l2.map (·.1)=hi)(hq:Q (.str (aQ y lo hi)) m) :
  BY (mod C) A (subscriptTail value (.Slice l u bY p) (.str (Internal.str y) t) (.ref a)) (Out C F ρ s Q) E s:=by
 refine Oj (T:="str") (Ol _ (Internal.str y) t) slot_str_getitem.lookup (wpAny_getItem_str_slice hsl rfl ?_) i8;unfold sliceMade slicePicked;rw [ml1,ml2,cD];refine e02 (rj y lo hi) λf1 f2=>?_;have hz:=nv y lo hi
 split
 ·rename_i hc;simp only [Option.map_none,Option.getD_none,IT,beq_iff_eq] at hc;rw [tq (f2.symm.trans hc.2)] at hq;exact cR R (.str y t z) hq
 ·refine ⟨?_,?_⟩
  ·show ((LB lo hi 1 y.length).filterMap (y.toArray[·]?)).toArray.size<=sizeLine;rw [f1,Ky];exact dO hz z
  ·show Out C F ρ s Q (.str ⟨((LB lo hi 1 y.length).filterMap (y.toArray[·]?)).toArray⟩ _) _;rw [f1];exact bP R ok (.str _ _ (dO hz z)) hq
theorem uY (R:Rel C F ρ m s)(ok:bb F)(g:s.heap.IsList b items.toArray)(rl:aL C ρ s.heap xs items)(z:xs.length<=line)(hs:s.heap.IsSliceOf a vl vu .none)(p1:IsPart vl lo)(p2:IsPart vu hi)
  (hq:Q (.ref m.heap.length) (m.push (.list (aQ xs lo hi)))):BY (mod C) A (subscriptTail value (.Slice l u bY p) (.ref b) (.ref a)) (Out C F ρ s Q) E s:=by
 refine Oj (T:="list") g.typeIs slot_list_getitem.lookup (wpAny_getItem_list_slice g hs p1 p2 .none (by simp) ?_ (by rw [Ky,rl.length];exact z)) i8;have e:slicePick items.toArray lo hi bY=(aQ items lo hi).toArray:=by
  rw [slicePick_plain,f6];simp
 rw [e];exact mF R ok (rl.slice _ _) (dO (nv _ _ _) z) hq
theorem Fx (R:Rel C F ρ m s)(ok:bb F)(hx:Rep C ρ s.heap x v)(hsl:s.heap.IsSlice a l1 l2 bY)(ml1:l1.map (·.1)=lo)(ml2:l2.map (·.1)=hi)(hs:s.heap.IsSliceOf a vl vu .none)(p1:IsPart vl lo)(p2:IsPart vu hi)
  (hq:Ee x lo hi Q m):BY (mod C) A (subscriptTail value (.Slice l u bY p) v (.ref a)) (Out C F ρ s Q) E s:=by
 refine Kz λhn=>?_
 cases x with
 | str y=>
  obtain ⟨t,rfl,z⟩:=hx.inv;exact hn (Fw R ok z hsl ml1 ml2 hq)
 | tup xs=>
  obtain ⟨b,n,items,rfl,g,l,z⟩:=hx.inv;obtain ⟨k,rfl,⟨j1,rfl,j2⟩,hk⟩:=de hq;obtain ⟨t,rfl⟩:=yu p1;obtain rfl:=wM p2;exact hn (Fv R ok g l z hs ⟨j1,j2⟩ hk)
 | scr xs=>
  obtain ⟨b,items,n,rfl,g,l,z⟩:=hx.inv;exact hn (uY R ok ⟨_,R.hp.base _ _ g,rfl,_,rfl⟩ (m9 l) (by rw [iF];exact z) hs p1 p2 hq)
 | ref i=>
  obtain ⟨b,rfl,g⟩:=hx.inv;refine e12 (cY hq) λxs hi hq=>?_;obtain ⟨items,n,gi,l,z⟩:=R.hp.objs _ _ _ hi g;exact hn (uY R ok ⟨_,gi,rfl,_,rfl⟩ l z hs p1 p2 hq)
 | _=>exact hq
end
theorem IE (R:Rel C F ρ m s)(ok:bb F){x:MV}{v:DO}(hx:Rep C ρ s.heap x v){lo hi:Option MV}{vl vu:DO}(hl:j4 C ρ s.heap lo vl)(hu:j4 C ρ s.heap hi vu){value:KY}{l u:Option KY}{p:Pos}
  (hq:HY x lo hi Q m):BY (mod C) A (subscriptTail value (.Slice l u bY p) v (.ref s.heap.objs.size)) (Out C F ρ s Q) E { s with heap:=s.heap.push { cls:=.type "slice",data:=.fields #[vl,vu,.none] } }:=by
 refine e02 (R.grow (s':={ s with heap:=s.heap.push { cls:=.type "slice",data:=.fields #[vl,vu,.none] } }) ok (λa o e=>Kt _ e) rfl rfl) λR' st=>?_;refine e12 (de hq) λlo' e1 hq=>?_;refine e12 (de hq) λhi' e2 hq=>?_;obtain ⟨p1,l1,rfl,ml1⟩:=uX hl e1;obtain ⟨p2,l2,rfl,ml2⟩:=uX hu e2;exact Kq (Fx R' ok (hx.step st) ⟨_,KM _ rfl,rfl,rfl⟩ ml1 ml2 (KR.IsSliceOf.new _ _ _ _) p1 p2 hq) (Out.back st) λ_ _ e=>e
noncomputable def mu:TS->Option String
 | .int=>J "int" | .bool=>J "bool" | .str=>J "str" | .list=>J "list" | .tuple=>J "tuple" | .dict=>J "dict" | _=>bY
noncomputable def IG:TS->String
 | .int=>"int" | .bool=>"bool" | .str=>"str" | .list=>"list" | .tuple=>"tuple" | .dict=>"dict" | _=>""
theorem BO (e:mu t=J T):T=IG t:=by
 cases t<;>first | exact (By e).symm | exact aJ e
noncomputable def wN:Kd->String
 | .none=>"NoneType" | .bool=>"bool" | .int=>"int" | .str=>"str" | .tuple=>"tuple" | .list=>"list" | .dict=>"dict" | .exc _=>""
noncomputable def IH (t:TS):Prop:=mu t≠bY->typeOf (.type (IG t))=pure (.type "type")
theorem BP (t:TS):IH t:=TS.casesOn (motive:=IH) t (λ_=>F.isi_meta_int) (λ_=>F.isi_meta_bool) (λ_=>F.isi_meta_str) (λ_=>F.isi_meta_list) (λ_=>F.isi_meta_tuple) (λ_=>F.isi_meta_dict) (λ_ e=>(e rfl).elim) (λe=>(e rfl).elim)
noncomputable def oQ (k:Kd)(t:TS):Prop:=match mu t with
 | some T=>isSubtype (.type (wN k)) (.type T)=pure ((wB k t).getD aT)
 | none=>True
theorem BQ (k:Kd)(t:TS)(he:∀c,k≠.exc c):oQ k t:=by
 revert he;exact Kd.casesOn (motive:=λk=>(∀c,k≠.exc c)->oQ k t) k (λ_=>TS.casesOn (motive:=oQ .none) t F.sub_NoneType_int F.sub_NoneType_bool F.sub_NoneType_str F.sub_NoneType_list F.sub_NoneType_tuple F.sub_NoneType_dict (λ_=>trivial) trivial) (λ_=>TS.casesOn (motive:=oQ .bool) t F.sub_bool_int F.sub_bool_bool F.sub_bool_str F.sub_bool_list F.sub_bool_tuple F.sub_bool_dict (λ_=>trivial) trivial) (λ_=>TS.casesOn (motive:=oQ .int) t F.sub_int_int F.sub_int_bool F.sub_int_str F.sub_int_list F.sub_int_tuple F.sub_int_dict (λ_=>trivial) trivial) (λ_=>TS.casesOn (motive:=oQ .str) t F.sub_str_int F.sub_str_bool F.sub_str_str F.sub_str_list F.sub_str_tuple F.sub_str_dict (λ_=>trivial) trivial) (λ_=>TS.casesOn (motive:=oQ .tuple) t F.sub_tuple_int F.sub_tuple_bool F.sub_tuple_str F.sub_tuple_list F.sub_tuple_tuple F.sub_tuple_dict (λ_=>trivial) trivial) (λ_=>TS.casesOn (motive:=oQ .list) t F.sub_list_int F.sub_list_bool F.sub_list_str F.sub_list_list F.sub_list_tuple F.sub_list_dict (λ_=>trivial) trivial) (λ_=>TS.casesOn (motive:=oQ .dict) t F.sub_dict_int F.sub_dict_bool F.sub_dict_str F.sub_dict_list F.sub_dict_tuple F.sub_dict_dict (λ_=>trivial) trivial) (λc h=>(h c rfl).elim)
noncomputable def NeP (k:Kd)(t:TS):Prop:=match mu t with
 | some T=>(wB k t).getD aT=Z->(M1 (wN k)==M1 T)=Z
 | none=>True
theorem Fy (k:Kd)(t:TS)(he:∀c,k≠.exc c):NeP k t:=by
 revert he;exact Kd.casesOn (motive:=λk=>(∀c,k≠.exc c)->NeP k t) k (λ_=>TS.casesOn (motive:=NeP .none) t (λ_=>rfl) (λ_=>rfl) (λ_=>rfl) (λ_=>rfl) (λ_=>rfl) (λ_=>rfl) (λ_=>trivial) trivial) (λ_=>TS.casesOn (motive:=NeP .bool) t tf tf (λ_=>rfl) (λ_=>rfl) (λ_=>rfl) (λ_=>rfl) (λ_=>trivial) trivial) (λ_=>TS.casesOn (motive:=NeP .int) t tf (λ_=>rfl) (λ_=>rfl) (λ_=>rfl) (λ_=>rfl) (λ_=>rfl) (λ_=>trivial) trivial) (λ_=>TS.casesOn (motive:=NeP .str) t (λ_=>rfl) (λ_=>rfl) tf (λ_=>rfl) (λ_=>rfl) (λ_=>rfl) (λ_=>trivial) trivial) (λ_=>TS.casesOn (motive:=NeP .tuple) t (λ_=>rfl) (λ_=>rfl) (λ_=>rfl) (λ_=>rfl) tf (λ_=>rfl) (λ_=>trivial) trivial) (λ_=>TS.casesOn (motive:=NeP .list) t (λ_=>rfl) (λ_=>rfl) (λ_=>rfl) tf (λ_=>rfl) (λ_=>rfl) (λ_=>trivial) trivial) (λ_=>TS.casesOn (motive:=NeP .dict) t (λ_=>rfl) (λ_=>rfl) (λ_=>rfl) (λ_=>rfl) (λ_=>rfl) tf (λ_=>trivial) trivial) (λc h=>(h c rfl).elim)
noncomputable def JY (v:DO)(Tx:String):Prop:=∀T,(M1 Tx==M1 T)=Z->typeOf (.type T)=pure (.type "type")->isSubtype (.type Tx) (.type T)=pure Z->Answers (λs=>s.TypeIs v Tx) v (.type T) Z
theorem Fz (H:Hp C ρ hp s.heap)(hx:Rep C ρ s.heap x v)(hk:yb hp x=J k)(he:∀c,k≠.exc c):s.TypeIs v (wN k)/\JY v (wN k):=by
 refine Kz λhn=>?_
 cases x with
 | none=>obtain rfl:=hx.inv;obtain rfl:=By hk;exact hn ⟨rfl,λ_=>.of_false_none⟩
 | bool _=>obtain rfl:=hx.inv;obtain rfl:=By hk;exact hn ⟨rfl,λ_=>.of_false_bool⟩
 | int _=>obtain ⟨_,rfl⟩:=hx.inv;obtain rfl:=By hk;exact hn ⟨rfl,λ_=>.of_false_int⟩
 | str _=>obtain ⟨_,rfl,_⟩:=hx.inv;obtain rfl:=By hk;exact hn ⟨rfl,λ_=>.of_false_str⟩
 | tup _=>
  obtain ⟨a,n,items,rfl,g,_⟩:=hx.inv;obtain rfl:=By hk;exact hn ⟨⟨_,g,rfl⟩,λ_=>.of_false_tuple⟩
 | ref i=>
  obtain ⟨a,rfl,g⟩:=hx.inv;replace hk:kdO hp[i]?=J k:=hk
  cases hi:hp[i]? with
  | none=>rw [hi] at hk;exact aJ hk
  | some o=>
   rw [hi] at hk
   cases o with
   | list xs=>
    obtain ⟨items,n,gi,_⟩:=H.objs _ _ _ hi g;obtain rfl:=By hk;exact hn ⟨⟨_,gi,rfl⟩,λ_=>.of_false_list⟩
   | dict es=>
    obtain ⟨kvs,dk,_⟩:=H.objs _ _ _ hi g;obtain rfl:=By hk;exact hn ⟨dk.typeIs,λ_=>.of_false_dict⟩
   | attrs es=>exact aJ hk
   | exc c=>exact he c (By hk).symm
 | _=>exact aJ hk
theorem yw (e:mu t=J T)(h:wB k t=J b)(c:Nat):k≠.exc c:=λq=>by
 subst q;cases t<;>first | exact aJ e | exact aJ h
theorem lg (H:Hp C ρ hp s.heap)(hx:Rep C ρ s.heap x v)(hk:yb hp x=J k)(eT:mu t=J T)(h:wB k t=J b):s.TypeIs v (wN k)/\Answers (λs=>s.TypeIs v (wN k)) v (.type T) b:=by
 have he:=yw eT h;refine e02 (Fz H hx hk he) λh1 h2=>?_;refine ⟨h1,?_⟩;have hm:=BP t (by rw [eT];exact λq=>jF q);rw [<-BO eT] at hm;have h3:=BQ k t he;have h4:=Fy k t he;unfold oQ at h3;unfold NeP at h4;rw [eT,h] at h3 h4
 cases b with
 | true=>exact .of_true hm h3
 | false=>exact h2 T (h4 rfl) hm h3
theorem yx {prog:Nz}{w:Mw}{v:DO}{Tx T:String}{b:Bool}{Q:DO->Kv->Prop}(ha:Answers (λs=>s.TypeIs v Tx) v (.type T) b)(hT:s.TypeIs v Tx)(h:∀tk,Q (.bool b) { s with toks:=tk }):BY (model prog w) A (call (.builtin "isinstance") [v,.type T]) Q E s:=by
 refine call_isinstance (S:=λ_ R s'=>s'=s/\∀tk,R (.ok (.ret (.bool b))) { s with toks:=tk }) (λ_ _ _ _ s' hs=>?_) ⟨rfl,h⟩;obtain ⟨rfl,hs⟩:=hs;exact isinstance_outer (ha _ _ _ _ _ _ _ ⟨hT,hs⟩) (Kv.TypeIs.not_mainsLoader hT)
theorem FA (H:Hp C ρ hp s.heap){x:MV}{v:DO}(hx:Rep C ρ s.heap x v){t:TS}{b:Bool}(h:kY hp x t=J b){P:Bool->Prop}(hq:P b) :
  ∀T,mu t=J T->BY (mod C) A (call (.builtin "isinstance") [v,.type T]) (hX s P) E s:=by
 intro T eT;refine e12 (mD h) λk hk h=>?_;obtain ⟨h1,h2⟩:=lg H hx hk eT h;exact yx h2 h1 λtk=>⟨_,tk,rfl,rfl,hq⟩
theorem BR (H:Hp C ρ hp s.heap)(hx:Rep C ρ s.heap x v)(eT:mu t=J T)(eU:mu u=J U)(h:kY hp x t=J b)(h':kY hp x u=J b')(hq:P (b||b'))
  (ht:s.heap.get? tp=J { cls:=.type "tuple",data:=.seq #[.type T,.type U] }):BY (mod C) A (call (.builtin "isinstance") [v,.ref tp]) (hX s P) E s:=by
 refine e12 (mD h) λk hk h=>?_;refine e12 (mD h') λk' hk' h'=>?_;obtain rfl:=same hk hk';obtain ⟨h1,h2⟩:=lg H hx hk eT h;refine e02 (lg H hx hk eU h') λ_ h3=>?_;refine IsiPair.tupleOfB (vs:=[b,b']) (b:=b||b') (.cons h2 (.cons h3 .nil)) h1 ht ?_ λtk=>⟨_,tk,rfl,rfl,hq⟩
 show (b||(b'||false))=_;rw [Bool.or_false]
noncomputable def oS:Bi->Option (Str × DO)
 | .len=>J ("len",.builtin "len")
 | .int=>J ("int",.type "int")
 | .str=>J ("str",.type "str")
 | .list=>J ("list",.type "list")
 | .tuple=>J ("tuple",.type "tuple")
 | .dict=>J ("dict",.type "dict")
 | .all=>if EN then J ("all",.builtin "all") else bY
 | .min=>if Ea then J ("min",.builtin "min") else bY
 | .max=>if Ea then J ("max",.builtin "max") else bY
 | .sum=>if EO then J ("sum",.builtin "sum") else bY
 | .sorted=>if ER then J ("sorted",.builtin "sorted") else bY
 | _=>bY
noncomputable def mI:Bi->Bool
 | .len=>aT
 | .int=>aT
 | .str=>aT
 | _=>Z
theorem i9 (R:Rel C F ρ m s)(ok:bb F)(hk:∀b o,s.heap.get? b=J o->h'.get? b=J o)(hr:Rep C ρ h' x v)(h:Q x m):Out C F ρ s Q v { s with heap:=h',toks:=t }:=by
 refine e02 (R.grow (s':={ s with heap:=h',toks:=t }) ok hk rfl rfl) λR' st=>?_;exact ⟨ρ,m,x,st,R',hr,h⟩
theorem FB (G:GOk C)(R:Rel C F ρ m s)(ok:bb F)(hx:Rep C ρ s.heap x v)(h:Eg x Q m):BY (mod C) A (call (.builtin "len") [v]) (Out C F ρ s Q) E s:=by
 refine Kz λhn=>?_
 cases x with
 | tup xs=>
  obtain ⟨a,n,items,rfl,g,l,z⟩:=hx.inv;refine hn (PySem.P.len_tuple g ?_ ?_)
  ·rw [Ky,l.length];have:=fG z;lia
  ·rw [Ky,l.length];exact bP R ok (.int _ _) h
 | str xs=>
  obtain ⟨t,rfl,z⟩:=hx.inv;refine hn (PySem.P.len_str ?_ ?_)
  ·rw [cD];have:=fG z;lia
  ·rw [cD];exact bP R ok (.int _ _) h
 | scr is=>
  obtain ⟨a,items,n,rfl,g,l,z⟩:=hx.inv;have hlen:=(m9 (C:=C) (ρ:=ρ) (h:=s.heap) l).length;rw [iF] at hlen;refine hn (PySem.Calls.call_len_list ⟨_,R.hp.base _ _ g,rfl,_,rfl⟩ ?_ ?_)
  ·rw [Ky,hlen];exact fG z
  ·rw [Ky,hlen];exact bP R ok (.int _ _) h
 | ref i=>
  obtain ⟨a,rfl,g⟩:=hx.inv;obtain ⟨ys,hi,h⟩ | ⟨ys,hi,h⟩:=jW h
  ·obtain ⟨items,n,gi,l,z⟩:=R.hp.objs _ _ _ hi g;refine hn (PySem.Calls.call_len_list ⟨_,gi,rfl,_,rfl⟩ ?_ ?_)
   ·rw [Ky,l.length];exact fG z
   ·rw [Ky,l.length];exact bP R ok (.int _ _) h
  ·obtain ⟨kvs,dk,rk,z⟩:=R.hp.objs _ _ _ hi g;refine hn (call_len_dict (mG G R.hp (rW g)) dk ?_ ?_)
   ·rw [rk.length];exact fG z
   ·rw [rk.length];exact bP R ok (.int _ _) h
 | _=>exact h
theorem yy (R:Rel C F ρ m s):(ρ++[a])[m.heap.length]?=J a:=by rw [<-R.hp.len,K7 (oF _)];simp
theorem tr (R:Rel C F ρ m s)(ok:bb F)(hx:Rep C ρ s.heap (.ref i) v)(hi:m.heap[i]?=J (.list ys))(h:Q (.tup ys) m):BY (mod C) A (call (.type "tuple") [v]) (Out C F ρ s Q) E s:=by
 obtain ⟨a,rfl,g⟩:=hx.inv;obtain ⟨items,n,gi,l,z⟩:=R.hp.objs _ _ _ hi g;refine call_tuple_list ⟨_,gi,rfl,_,rfl⟩ (λh' hk=>?_) (by rw [Ky,l.length];exact z);have hk':∀b o,s.heap.get? b=J o->(h'.push (pX items 0)).get? b=J o:=λb o e=>Kt _ (hk b o e);exact i9 R ok hk' (.tup (KM _ rfl) (l.up (λa o e _=>hk' a o e) (Kw _)) z) h
theorem wO (G:GOk C)(R:Rel C F ρ m s)(ok:bb F)(hx:Rep C ρ s.heap (.ref i) v)(hi:m.heap[i]?=J (.dict ys))(h:Q (.ref m.heap.length) (m.push (.dict ys))):BY (mod C) A (call (.type "dict") [v]) (Out C F ρ s Q) E s:=by
 obtain ⟨a,rfl,g⟩:=hx.inv;obtain ⟨kvs,dk,rk,z⟩:=R.hp.objs _ _ _ hi g;refine kt_call_dict (mG G R.hp (rW g)) dk (by rw [rk.length];exact z) λh' hd hs=>?_;have hk:∀a o,s.heap.get? a=J o->h'.get? a=J o:=λa o e=>(hs.2 a (KA (Ln e))).trans (Kt _ e);obtain ⟨R',st⟩:=R.alloc (s':={ s with heap:=h' }) ok hk rfl rfl (o:=.dict ys) (a:=s.heap.objs.size) (bZ (oF _))
  ⟨kvs,hd,rk.up (λa o e _=>hk a o e) (Lb _ _),z⟩
 exact ⟨_,_,_,st,R',.ref (yy R),h⟩
theorem II:∀{i:Int},-1<=i/\i<1000000->i.natAbs<1000000
 | .ofNat n,h=>LN.mp h.2
 | .negSucc 0,_=>by decide
 | .negSucc (n+1),h=>absurd (show Int.NonNeg (.negSucc n) from h.1) nofun
theorem BS (h:-1<=i/\i<1000000):i.natAbs.log2<1920:=by
 have:i.natAbs<1000000:=II h
 rcases Om i.natAbs with q | q
 ·rw [q];decide
 ·have:=(Nat.log2_lt (n:=i.natAbs) (k:=20) (Lg q)).mpr (dO this (nb rfl));exact dO this (nb rfl)
end
section
theorem rm (G:GOk C)(hn:A.handled=bY)(R:Rel C F ρ m s)(ok:bb F)(hx:Rep C ρ s.heap (.ref i) v)(hi:m.heap[i]?=J (.dict ys))(hu:D9=aT)(h:Q (.ref m.heap.length) (m.push (.list (ys.map λp=>.str p.1)))) :
  BY (mod C) A (call (.type "list") [v]) (Out C F ρ s Q) E s:=absurd hu (by decide)
end
section
theorem FC (hn:A.handled=bY)(R:Rel C F ρ m s)(ok:bb F)(hb:oS .min=J (n,f))(h:sW .min i j Q m):BY (mod C) A (call f [.int i t,.int j u]) (Out C F ρ s Q) E s:=by
 have hb:(J ("min",.builtin "min"):Option (Str × DO))=J (n,f):=hb
 cases hb
 refine min_two_ints hn λh' tk hk=>?_;have h:Q (.int (min i j)) m:=h;by_cases q:j<i
 ·rw [if_pos q];rw [Int.min_eq_right (Mx q)] at h;exact i9 R ok hk (.int _ _) h
 ·rw [if_neg q];rw [O3 (MX.mp q)] at h;exact i9 R ok hk (.int _ _) h
theorem FD (hn:A.handled=bY)(R:Rel C F ρ m s)(ok:bb F)(hb:oS .max=J (n,f))(h:sW .max i j Q m):BY (mod C) A (call f [.int i t,.int j u]) (Out C F ρ s Q) E s:=by
 have hb:(J ("max",.builtin "max"):Option (Str × DO))=J (n,f):=hb
 cases hb
 refine max_two_ints hn λh' tk hk=>?_;have h:Q (.int (max i j)) m:=h;by_cases q:j > i
 ·rw [if_pos q];rw [OL (Mx q)] at h;exact i9 R ok hk (.int _ _) h
 ·rw [if_neg q];rw [Int.max_eq_left (MX.mp q)] at h;exact i9 R ok hk (.int _ _) h
theorem wQ {bs:List Bool}{items:List DO}{h:KR}(l:aL C ρ h (bs.map .bool) items){j:Nat}{v:DO}(e:items[j]?=J v):∃b,bs[j]?=J b/\v=.bool b:=by
 have hj:j<bs.length:=by have:=(iN.mp e).1;rw [l.length,iF] at this;exact this
 obtain ⟨v',e',r⟩:=l.get (i:=j) (x:=.bool bs[j]) (by rw [ID,KC hj];rfl);obtain rfl:=same e e';exact ⟨_,KC hj,r.inv⟩
theorem wR (bs:List Bool):(LH bs.length).all (λj=>(bs[j]?).getD Z)=bs.all id:=by
 rw [Oa,K2,K2];constructor
 ·intro h b hb;obtain ⟨j,hj,e⟩:=List.getElem_of_mem hb;have:=h j (List.mem_range.mpr hj);rw [KC hj,e] at this;exact this
 ·intro h j hj;have hj:=List.mem_range.mp hj;rw [KC hj];exact h _ (La hj)
theorem FE (hn:A.handled=bY)(R:Rel C F ρ m s)(ok:bb F){i:Nat}{v:DO}(hx:Rep C ρ s.heap (.ref i) v){n:Str}{f:DO}(hb:oS .all=J (n,f))(h:gE .all (.ref i) Q m):BY (mod C) A (call f [v]) (Out C F ρ s Q) E s:=by
 have hb:(J ("all",.builtin "all"):Option (Str × DO))=J (n,f):=hb
 cases hb
 obtain ⟨a,rfl,g⟩:=hx.inv;obtain ⟨xs,hi,bs,rfl,_,hq⟩:=cY h;obtain ⟨items,k,gi,l,z⟩:=R.hp.objs _ _ _ hi g;have hl:s.heap.IsList _ items.toArray:=⟨_,gi,rfl,_,rfl⟩
 refine call_all_walk (Ov hl ?_);have hne:=KA (Ln gi);refine ⟨_,_,_,_,_,_,λj=>(bs[j]?).getD Z,rfl,Walks.list (A:=A.in1) hn _ _ hne items.toArray,⟨⟨_,KM _ rfl,rfl,rfl⟩,hl.push _⟩,λj v s Q E hP hQ=>?_,λh' tk hk=>?_⟩
 ·obtain ⟨b,e1,rfl⟩:=wQ l (j:=j) (v:=v) ((Lj ..).symm.trans hP);have hQ:Q ((bs[j]?).getD Z) s:=hQ;rw [e1] at hQ;exact LJ hQ
 ·rw [Ky,l.length,iF,wR];exact i9 R ok (λb o e=>hk b o (λhm=>KA (Ln e) (iD.mp hm)) (Kt _ e)) (.bool _) hq
end
section
theorem BU (hn:A.handled=bY)(R:Rel C F ρ m s)(ok:bb F)(hx:Rep C ρ s.heap (.ref i) v)(hb:oS .min=J (n,f))(h:gE .min (.ref i) Q m):BY (mod C) A (call f [v]) (Out C F ρ s Q) E s:=by
 obtain ⟨xs,hi,h0,_⟩:=cY h;exact ff h0
end
section
theorem FF (hn:A.handled=bY)(R:Rel C F ρ m s)(ok:bb F)(hx:Rep C ρ s.heap (.ref i) v)(hb:oS .sum=J (n,f))(h:gE .sum (.ref i) Q m):BY (mod C) A (call f [v]) (Out C F ρ s Q) E s:=aJ hb
end
section
variable {C:Glo}{F:Fm}{X:XM}{ρ:List KO}{m:MS}{s:Kv}{Q:PQ}{E:DO->Kv->Prop}{A:M9}{h:KR}{hp:List MO}
theorem qf (hn:A.handled=bY)(R:Rel C F ρ m s)(ok:bb F){i:Nat}{xs:List MV}{v:DO}(hx:Rep C ρ s.heap (.ref i) v)(hi:m.heap[i]?=J (.list xs))(h:x8 xs λes=>Q (.ref m.heap.length) (m.push (.dict es))):BY (mod C) A (call (.type "dict") [v]) (Out C F ρ s Q) E s:=by
 obtain ⟨hu,_⟩:=h;exact absurd hu (by decide)
end
section
set_option maxRecDepth 100000
theorem dY (n:Nat):NumText.AllDigits (dec n):=by
 intro c hc;rw [i0] at hc;obtain ⟨ch,h,rfl⟩:=KW.mp hc;exact digit_range (Nat.isDigit_of_mem_toDigits (by decide) (by decide) h)
theorem ro {n:Nat}(h:10<=n):dec n=dec (n / 10:Nat)++[48+n % 10]:=by
 have hm:n % 10<10:=PD n (by decide);have t:OS 10 (n / 10)++OS 10 (n % 10)=OS 10 (10 * (n / 10)+n % 10):=Nat.toDigits_append_toDigits (by decide) (by lia) hm;rw [Nat.div_add_mod] at t;have d:∀d:Nat,d<10->(Nat.digitChar d).toNat=48+d:=by decide
 rw [i0,i0,<-t,KB,Nat.toDigits_of_lt_base hm,List.map_singleton,d _ hm]
theorem uZ {n:Nat}(h:n<10):dec n=[48+n]:=by
 have d:∀d:Nat,d<10->(Nat.digitChar d).toNat=48+d:=by decide
 rw [i0,Nat.toDigits_of_lt_base h,List.map_singleton,d _ h]
theorem BV (n:Nat):NumText.digitsVal (dec n)=n:=by
 induction n using Nat.strongRecOn with
 | _ n ih=>
  rcases LO n 10 with h | h
  ·rw [uZ h];show 0 * 10+(48+n-48)=n;lia
  ·rw [ro h,NumText.digitsVal_snoc,ih _ (by lia)];lia
theorem yz (h:0<=i/\i<1000000):intText? (str (dec i))=J i:=by
 obtain ⟨n,rfl⟩:=K3 h.1;have hl:=fE h;have e:=intText_digits (x:=str (dec n)) (dY n) (λe=>by
  have e':dec n=[]:=e;rw [e'] at hl;exact absurd hl.1 (by decide)) (by
  show (dec n).toArray.size<=4300;rw [Ky];exact n1 hl.2)
 have e':NumText.digitsVal (str (dec n)).cps.toList=n:=BV n;rw [e'] at e;exact e
theorem FG:typeLookup (.type "str") "__int__"=pure bY:=by rw [Ml,Lx];kernel_rfl
theorem BW:typeLookup (.type "str") "__index__"=pure bY:=by rw [Ml,Lx];kernel_rfl
theorem yA:typeLookup (.type "str") "__trunc__"=pure bY:=by rw [Ml,Lx];kernel_rfl
theorem wU
  (hs:(text.takeWhile (· != 0)).length<=640) (hr:(int_private% "readNumeral") 0 10 (text.takeWhile (· != 0))=(int_private% "Numeral.value") n)
  (ha:((text.takeWhile (· != 0)).length==text.length)=aT) (h:Q (.int n s.toks) { s with toks:=s.toks+1 }):BY M A ((int_private% "intFromText") v text 10) Q E s:=by
 obtain ⟨hp,g,d,tk,os⟩:=s;have hs':=decide_eq_true hs;have ha':=decide_eq_true ha
 repeat (any_goals (first | assumption | (with_reducible refine On hs' ?_) | (with_reducible refine On ha' ?_) | wp_step))
 all_goals (try rw [hr])
 all_goals (try dsimp only)
 repeat (any_goals (first | assumption | (with_reducible refine On hs' ?_) | (with_reducible refine On ha' ?_) | wp_step))
structure IJ (p:Prop):Prop where
 it:p
set_option maxHeartbeats 4000000 in
theorem yB (hl:x.length<=640)(hn:intText? x=J n):Gives (Builtin.«int.__new__» ⟨[.type "int",.str x u],[]⟩) (.int n):=
 .of_wp λM A E s Q h=>by
  obtain ⟨hp,g,d,tk,os⟩:=s;have f1:=PySem.F.conv_sub_int;have f2:=PySem.F.madeHere_int;have f3:=FG;have f4:=BW;have f5:=yA;have hs:(numSeenOf x).length<=640:=dO (seen_length x) hl;have hk:=IJ.mk (show (int_private% "readNumeral") 0 10 (numSeenOf x)=(int_private% "Numeral.value") n/\((numSeenOf x).length==(numTextOf x).length)=aT from by
   rcases read0 x hs with ⟨m,h1,h2,h3⟩ | ⟨h1,_⟩
   ·rw [hn] at h1;cases h1;exact ⟨h3,h2⟩
   ·rw [hn] at h1;cases h1)
  have hs':=IJ.mk hs;clear hs hl hn
  repeat (any_goals (first
   | assumption
   | ((with_reducible show BY _ _ ((int_private% "intFromText") _ _ _) _ _ _);refine wU hs'.it hk.it.1 hk.it.2 ?_)
   | wp_step))
  all_goals first | exact ⟨_,rfl,h⟩ | skip
theorem yC (h:0<=i/\i<1000000)(hp:P (.int i s.toks) { s with toks:=s.toks+1 }):BY (mod C) A (call (.type "int") [.str (str (dec i)) t]) P E s:=
 call_int_1 (yB (by show (dec i).toArray.size<=640;rw [Ky];exact dO (fE h).2 (by decide)) (yz h)).meets (show (Made.int i).post _ s from ⟨rfl,hp⟩)
section
theorem IL (R:Rel C F ρ m s)(ok:bb F)(h:gE .int (.str z) Q m):BY (mod C) A (call (.type "int") [.str (str z) t]) (Out C F ρ s Q) E s:=by
 obtain ⟨_,k,rfl,hk,hq⟩:=h;exact yC hk (bP R ok (.int _ _) hq)
end
end
section
theorem wV (G:GOk C)(hn:A.handled=bY)(R:Rel C F ρ m s)(ok:bb F)(hx:Rep C ρ s.heap x v)(h:qT x Q m):BY (mod C) A (call (.type "list") [v]) (Out C F ρ s Q) E s:=by
 have key:∀{a:KO} {ys:List MV} {items:List DO} {k:Nat} {T:String},(T="list"\/T="tuple")->s.heap.get? a=J { cls:=.type T,dict:=none,data:=.seq items.toArray k,slots:=#[] }->aL C ρ s.heap ys items->ys.length<=line->Q (.ref m.heap.length) (m.push (.list ys))->BY (mod C) A (call (.type "list") [.ref a]) (Out C F ρ s Q) E s:=λ{a ys items k T} hT gi l z h=>by
  refine call_list_seq _ hT gi rfl rfl (λh' c' hk hn=>?_) (by rw [Ky,l.length];exact z);obtain ⟨R',st⟩:=R.alloc (s':={ s with heap:=h' }) ok hk rfl rfl (o:=.list ys) (a:=s.heap.objs.size) (bZ (oF _))
   ⟨items,c',hn,l.up (λa o e _=>hk a o e) (Lb _ _),z⟩
  exact ⟨_,_,_,st,R',.ref (yy R),h⟩
 refine Kz λhc=>?_
 cases x with
 | ref i=>
  obtain ⟨ys,hi,h⟩ | ⟨ys,hi,h⟩:=jW h
  ·obtain ⟨a,rfl,g⟩:=hx.inv;obtain ⟨items,n,gi,l,z⟩:=R.hp.objs _ _ _ hi g;exact hc (key (.inl rfl) gi l z h)
  ·exact hc (rm G hn R ok hx hi h.1 h.2)
 | tup ys=>
  obtain ⟨a,n,items,rfl,gi,l,z⟩:=hx.inv;exact hc (key (.inr rfl) gi l z h)
 | _=>exact h
theorem yD (R:Rel C F ρ m s)(ok:bb F)(hx:Rep C ρ s.heap x v)(h:gE .int x Q m):BY (mod C) A (call (.type "int") [v]) (Out C F ρ s Q) E s:=by
 refine Kz λhn=>?_
 cases x with
 | bool c=>obtain rfl:=hx.inv;exact hn (call_int_bool (bP R ok (.int _ _) (by cases c<;>exact h)))
 | str z=>
  obtain ⟨t,rfl,_⟩:=hx.inv;exact hn (IL R ok h)
 | _=>exact h
theorem yE (R:Rel C F ρ m s)(ok:bb F)(hx:Rep C ρ s.heap x v)(h:gE .str x Q m):BY (mod C) A (call (.type "str") [v]) (Out C F ρ s Q) E s:=by
 refine Kz λhn=>?_
 cases x with
 | str z=>obtain ⟨t,rfl,_⟩:=hx.inv;exact hn (PySem.P.str_of_str (cR R hx h))
 | int i=>
  obtain ⟨t,rfl⟩:=hx.inv;refine hn (PySem.P.str_of_int (BS h.1) ?_);have e:(Mi (toString i):Str)=str (dec i):=by rw [Str.ofString_eq_toList];rfl
  rw [e];exact bP R ok (.str _ _ (dO (BI h.1) (by decide))) h.2
 | _=>exact h
theorem FH (G:GOk C)(R:Rel C F ρ m s)(ok:bb F)(hh:mI b=aT\/A.handled=bY)(hl:aL C ρ s.heap xs vs)(hb:oS b=J (n,f))(hns:b≠.sorted)(h:o0 b xs Q m) :
  BY (mod C) A (call f vs) (Out C F ρ s Q) E s:=by
 have hf:∀{f':DO} {n':Str},J (n',f')=J (n,f)->BY (mod C) A (call f' vs) (Out C F ρ s Q) E s->BY (mod C) A (call f vs) (Out C F ρ s Q) E s:=λe k=>by
  obtain rfl:_=f:=congrArg Prod.snd (By e);exact k
 obtain ⟨x,rfl,h⟩ | ⟨x,y,rfl,h⟩:=x6 h
 ·obtain ⟨v,rfl,hx⟩:=hl.one;refine Kz λhn=>?_
  cases b with
  | len=>exact hn (hf hb (FB G R ok hx h))
  | list=>exact hn (hf hb (wV G (hh.resolve_left (by decide)) R ok hx h))
  | all=>
   obtain ⟨i,rfl,h1⟩:=fD h;exact hn (FE (hh.resolve_left (by decide)) R ok hx hb h)
  | sum=>
   obtain ⟨i,rfl,h1⟩:=fD h;exact hn (FF (hh.resolve_left (by decide)) R ok hx hb h)
  | int=>exact hn (hf hb (yD R ok hx h))
  | str=>exact hn (hf hb (yE R ok hx h))
  | tuple=>
   obtain ⟨i,rfl,h1⟩:=fD h;refine e12 (cY h1) λys hi h1=>?_;exact hn (hf hb (tr R ok hx hi h1))
  | dict=>
   obtain ⟨i,rfl,h1⟩:=fD h;obtain ⟨ys,hi,h1⟩ | ⟨ys,hi,h1⟩:=jW h1
   ·exact hn (hf hb (qf (hh.resolve_left (by decide)) R ok hx hi h1))
   ·exact hn (hf hb (wO G R ok hx hi h1))
  | min=>
   obtain ⟨i,rfl,h1⟩:=fD h;exact hn (BU (hh.resolve_left (by decide)) R ok hx hb h)
  | max=>exact h
  | sorted=>exact hns rfl
  | _=>exact aJ hb
 ·obtain ⟨v,w,rfl,hx,hy⟩:=hl.two;obtain ⟨i,j,t,u,rfl,rfl,h⟩:=iZ hx hy h;refine Kz λhn=>?_
  cases b with
  | min=>exact hn (FC (hh.resolve_left (by decide)) R ok hb h)
  | max=>exact hn (FD (hh.resolve_left (by decide)) R ok hb h)
  | _=>exact h
end
set_option genCtorIdx false in
structure Cx where
 kind:Str->Option NameKind
 nm:Nat->Option Str
 fn:Nat->Option Str
 gl:Nat->Option (Str × MV)
 wr:Bool
 fr:Nat->Bool
 nh:Bool
 hf:Nat->Bool
 cn:Nat->Option Str
 xn:Nat->Option Str
 mt:Nat->Option (Nat × Str)
 at_:Nat->Str->Bool
noncomputable def dbg (x:Str):Bool:=x==("__debug__":Str)
noncomputable def cdc (x:Str):Bool:=x==("__classdict__":Str)
noncomputable def c0:List (Str × DO):=[("len",.builtin "len"),("int",.type "int"),("str",.type "str"),("list",.type "list"),("tuple",.type "tuple"),("dict",.type "dict"),
 ("bool",.type "bool"),("isinstance",.builtin "isinstance"),("range",.type "range"),("enumerate",.type "enumerate"),("sorted",.builtin "sorted"),("set",.type "set"),("all",.builtin "all"),("min",.builtin "min"),("max",.builtin "max"),("ValueError",.type "ValueError"),("sum",.builtin "sum"),("reversed",.type "reversed")]
inductive yF (C:Glo)(g b:KO)(fn:Nat->Option Str)(gl:Nat->Option (Str × MV))(cn xn:Nat->Option Str):Prop
 | mk (mg mb:Str->Option DO) (h1:C.base.Ns g mg) (h2:C.base.Ns b mb) (hf:∀f x,fn f=J x->∃a,C.fa f=J a/\mg x=J (.ref a)) (hg:∀g x v,gl g=J (x,v)->∃w,mg x=J w/\∀ρ h,C.base.StaysIn h->Rep C ρ h v w)
   (hb:∀x v,(x,v)∈c0->mg x=bY/\mb x=J v) (hc:∀k x,cn k=J x->∃K,C.ca k=J K/\mg x=J (.ref K)) (hx:∀k x,xn k=J x->∃K,C.xa k=J K/\mg x=J (.ref K))
structure aC (C:Glo)(c:Cx)(F:Fm)(n:Nat):Prop where
 fm:bb F
 kind:∀x,F.env.kindOf x=c.kind x
 nm:∀i x,c.nm i=J x->(F.env.kindOf x=J .local/\F.lay i=J (.nm F.env.locals x))\/
  (∃a,(F.env.kindOf x=J .cell\/(F.env.kindOf x=J .free/\cdc x=Z))/\F.env.cells.lookup x=J a/\F.lay i=J (.cl a))
 glob:yF C F.env.globals F.env.builtins c.fn c.gl c.cn c.xn
 meth:∀f k x,c.mt f=J (k,x)->∃a,C.fa f=J a/\C.cm k x=J (.ref a)/\∃o,C.base.get? a=J o/\o.cls=.type "function"
 attr:∀k x,c.at_ k x=aT->C.cm k x=bY
 hn:c.nh=aT->F.A.handled=bY
 hf:c.hf=C.hf
 units:F.A.units<=3 * F.A.depth+4
 room:F.A.depth+n<=999
 inter:interactive F.env=Z
 wr:∀i a,F.lay i=J (.cl a)->c.wr=aT->a∈F.W
 fr:∀i,c.fr i=aT->F.lay i=bY
theorem aC.u (x:aC C c F n):F.A.units+1001<cLine:=by
 exact Kn (Lq (dO x.units (Lq (KP 3 (dO (K5 _ n) x.room)) 4)) 1001) (show 3 * 999+4+1001<9900 by decide)
section
variable {m:MS}{s:Kv}
theorem ja (H:Hp C ρ m.heap s.heap)(h:C.base.Ns a f):s.heap.Ns a f:=mE h λo e=>⟨o,H.base a o e,rfl⟩
theorem BX (cx:aC C c F n)(R:Rel C F ρ m s)(hx:c.nm i=J x)(hv:m.get i=J v)(hd:dbg x=Z)(hq:∀w,Rep C ρ s.heap v w->P w s) :
  BY (mod C) A (eval (.Name x p) F.env) P E s:=by
 refine e12 (R.vars i v hv) λl h1 h2=>?_;refine wpAny_Name ?_ hd
 rcases cx.nm i x hx with ⟨k,e⟩ | ⟨a,k,e1,e⟩
 ·obtain rfl:=same e h1;obtain ⟨f,w,hn,hw,r⟩:=h2;exact wpAny_loadName_local cx.fm.kind k hn hw (hq _ r)
 ·obtain rfl:=same e h1;obtain ⟨w,hc,r⟩:=h2
  rcases k with k | ⟨k,kd⟩
  ·exact wpAny_loadName_cell cx.fm.kind k e1 hc (hq _ r)
  ·exact wpAny_loadName_free cx.fm.kind k e1 hc (hq _ r) kd
theorem yG (cx:aC C c F n)(R:Rel C F ρ m s)(hx:c.nm i=J x)(hv:m.get i=J v)(hd:dbg x=Z)(hq:Q v m) :
  BY (mod C) A (eval (.Name x p) F.env) (Out C F ρ s Q) E s:=BX cx R hx hv hd λ_ r=>cR R r hq
theorem dC (cx:aC C c F n)(R:Rel C F ρ m s)(hm:(x,v)∈c0)(hk:c.kind x=J .globalImplicit)(hd:dbg x=Z)(h:P v s) :
  BY (mod C) A (eval (.Name x p) F.env) P E s:=by
 obtain ⟨mg,mb,h1,h2,_,_,h3,_⟩:=cx.glob;exact LZ cx.fm.kind ((cx.kind x).trans hk) (Calls.loadGlobal_builtin (ja R.hp h1) (h3 x v hm).1 (ja R.hp h2) (h3 x v hm).2 h) hd
theorem BZ (cx:aC C c F n)(R:Rel C F ρ m s)(hm:c.fn f=J x)(hk:c.kind x=J .globalImplicit)(hd:dbg x=Z)(h:∀a,C.fa f=J a->P (.ref a) s) :
  BY (mod C) A (eval (.Name x p) F.env) P E s:=by
 obtain ⟨mg,mb,h1,h2,h3,_⟩:=cx.glob;obtain ⟨a,e1,e2⟩:=h3 f x hm;exact LZ cx.fm.kind ((cx.kind x).trans hk) (MJ (ja R.hp h1) e2 (h a e1)) hd
theorem B1 (cx:aC C c F n)(R:Rel C F ρ m s)(hm:c.gl g=J (x,v))(hk:c.kind x=J .globalImplicit)(hd:dbg x=Z)(hq:Q v m) :
  BY (mod C) A (eval (.Name x p) F.env) (Out C F ρ s Q) E s:=by
 obtain ⟨mg,mb,h1,h2,_,h3,_⟩:=cx.glob;refine e12 (h3 g x v hm) λw e1 e2=>?_;exact LZ cx.fm.kind ((cx.kind x).trans hk) (MJ (ja R.hp h1) e1 (cR R (e2 ρ s.heap R.hp.base) hq)) hd
theorem yH (cx:aC C c F n)(R:Rel C F ρ m s)(hm:c.cn k=J x)(hk:c.kind x=J .globalImplicit)(hd:dbg x=Z)(h:∀a,C.ca k=J a->P (.ref a) s) :
  BY (mod C) A (eval (.Name x p) F.env) P E s:=by
 obtain ⟨mg,mb,h1,h2,_,_,_,h3,_⟩:=cx.glob;obtain ⟨a,e1,e2⟩:=h3 k x hm;exact LZ cx.fm.kind ((cx.kind x).trans hk) (MJ (ja R.hp h1) e2 (h a e1)) hd
theorem yI (cx:aC C c F n)(R:Rel C F ρ m s)(hm:c.xn k=J x)(hk:c.kind x=J .globalImplicit)(hd:dbg x=Z)(h:∀a,C.xa k=J a->P (.ref a) s) :
  BY (mod C) A (eval (.Name x p) F.env) P E s:=by
 obtain ⟨mg,mb,h1,h2,_,_,_,_,h3⟩:=cx.glob;obtain ⟨a,e1,e2⟩:=h3 k x hm;exact LZ cx.fm.kind ((cx.kind x).trans hk) (MJ (ja R.hp h1) e2 (h a e1)) hd
theorem jb (cx:aC C c F n)(R:Rel C F ρ m s)(hx:c.nm i=J x)(hk:c.kind x=J .local\/(c.wr=aT/\c.kind x≠J .free))(hr:Rep C ρ s.heap v w)
  (h:∀s',aB F.W ρ s ρ s'->Rel C F ρ (m.set i v) s'->(∀a∈ρ,∀o,s.heap.get? a=J o->s'.heap.get? a=J o)->P () s'):BY (mod C) A (storeName F.env x w) P E s:=by
 rcases cx.nm i x hx with ⟨k,e⟩ | ⟨a,k,e1,e⟩
 ·obtain ⟨f,hf⟩:=R.ns;refine wpAny_storeName_local k hf (λh' hn hs=>?_) (by rw [cx.fm.kind];rfl);refine e02 (R.setName (s':={ s with heap:=h',toks:=s.toks+1 }) cx.fm e hf hn hs rfl rfl hr) λR' st=>?_;exact h _ st R' λb hb o e=>(hs.2 b λq=>(R.w _ (tO _ cx.fm.loc)).1 (q▸hb)).trans e
 ·rcases k with k | ⟨k,_⟩
  ·obtain ⟨v₀,hc⟩:=R.cells i a e;refine wpAny_storeName_cell cx.fm.kind k e1 hc λh' hn hs=>?_;have hwr:c.wr=aT:=hk.elim (λq=>absurd ((cx.kind x).symm.trans k) (by rw [q];decide)) (·.1);refine e02 (R.setCell (s':={ s with heap:=h' }) cx.fm e (cx.wr i a e hwr) hc hn hs rfl rfl hr) λR' st=>?_;exact h _ st R' λb hb o eb=>(hs.2 b λq=>(R.w _ (tO _ (cx.wr i a e hwr))).1 (q▸hb)).trans eb
  ·exact hk.elim (λq=>absurd ((cx.kind x).symm.trans k) (by rw [q];decide)) λq=>absurd ((cx.kind x).symm.trans k) q.2
noncomputable def yJ:Me->Option Str
 | .append=>J "append"
 | .find=>J "find"
 | .extend=>J "extend"
 | .pop=>J "pop"
 | .split=>J "split"
 | .join=>J "join"
 | .count=>J "count"
 | .dpop=>J "pop"
 | .dclear=>J "clear"
 | .get=>J "get"
 | _=>bY
inductive JZ (C:Glo)(ρ:List KO)(hp:List MO)(h:KR)(x:MV)(v:DO)(r:Nat)(xs:List MV):Prop
 | mk (a:KO) (items:List DO) (k:Nat) (hv:v=.ref a) (hx:x=.ref r) (g:ρ[r]?=J a) (hi:hp[r]?=J (.list xs)) (gi:h.get? a=J (eh items k)) (rl:aL C ρ h xs items) (z:xs.length<=line)
inductive J0 (C:Glo)(ρ:List KO)(hp:List MO)(h:KR)(x:MV)(v:DO)(r:Nat)(es:List (List Nat × MV)):Prop
 | mk (a:KO) (kvs:List (Str × DO)) (hv:v=.ref a) (hx:x=.ref r) (g:ρ[r]?=J a) (hi:hp[r]?=J (.dict es)) (dk:h.DictOf (strKind C.prog C.w) a kvs) (rk:gG C ρ h es kvs) (z:es.length<=line)
theorem j5 (H:Hp C ρ m.heap s.heap)(hx:Rep C ρ s.heap x v)(h:lst x m.heap=J (r,xs)):JZ C ρ m.heap s.heap x v r xs:=by
 obtain ⟨rfl,hi⟩:=Bz h;obtain ⟨a,rfl,g⟩:=hx.inv;obtain ⟨items,k,gi,rl,z⟩:=H.objs _ _ _ hi g;exact ⟨a,items,k,rfl,rfl,g,hi,gi,rl,z⟩
theorem yK (h:(lst x hp).isSome=aT):∃r xs,lst x hp=J (r,xs):=by
 obtain ⟨⟨r,xs⟩,h⟩:=K6.mp h;exact ⟨r,xs,h⟩
theorem nw (ok:bb F)(st₀:aB F.W ρ₀ s₀ ρ s)(R:Rel C F ρ m s)(g:ρ[r]?=J a)(hi:m.heap[r]?=J (.list xs))
  (hk:∀b ob,b≠a->s.heap.get? b=J ob->h'.get? b=J ob) (e:h'.get? a=J (eh items k)) (hr:aL C ρ s.heap ys items) (hz:ys.length<=line) (hw:Rep C ρ s.heap z w) (hq:Q z (m.put r (.list ys))) :
  Out C F ρ₀ s₀ Q w { s with heap:=h',toks:=t }:=by
 have hsol:bg s.heap h':=dW hk (dB (R.hp.objs _ _ _ hi g));refine e02 (R.put (s':={ s with heap:=h',toks:=t }) ok g hi (o:=.list ys) hk rfl rfl ⟨items,k,e,hr.up hsol (Kw _),hz⟩) λR₂ st₂=>?_;exact ⟨_,_,z,st₀.trans st₂,R₂,hw.up hsol (Kw _),hq⟩
theorem lQ (e:f items.toArray=ys.toArray):∃k',MG f (eh items k)=eh ys k':=
 ⟨if (f items.toArray).size==items.toArray.size then k else k+1,congrArg (λz=>({ cls:=.type "list",data:=.seq z (if (f items.toArray).size==items.toArray.size then k else k+1) }:OO)) e⟩
theorem yL {id:String}{v:DO}{trees:List (Bool × Sem DO)}{pos:Pos}{P:DO->Kv->Prop}(hp:trees.any (·.1)=Z)
  (h:BY (mod C) A (spliced trees) (λvs s₁=>BY (mod C) A (call (.builtin id) (v::vs)) P E s₁) E s):BY (mod C) A (callWith pos (.builtin id) [v] trees []) P E s:=by
 refine Calls.callWith_builtin hp ?_
 cases trees with
 | nil=>exact iS (Kq h (λvs s' h'=>K4 (iS (Do (iS (Do (Do h')))))) λ_ _ x=>x)
 | cons q trees=>
  obtain ⟨b,t⟩:=q;simp only [N0,LV] at hp;obtain ⟨rfl,_⟩:=hp;exact My h
end
section
set_option tactic.hygienic true in
theorem tu (xs:List α):(xs.toArray.eraseIdxIfInBounds (xs.toArray.size-1))=xs.dropLast.toArray:=by
 rw [Ky];apply Array.ext';simp [Array.eraseIdxIfInBounds]
 split
 ·simp [NT]
 ·rename_i h;have:xs=[]:=by
   cases xs with
   | nil=>rfl
   | cons a r=>simp at h
  subst this;rfl
theorem FI (ok:bb F)(st₀:aB F.W ρ₀ s₀ ρ s)(R:Rel C F ρ m s)(hx:Rep C ρ s.heap x v)(rl:aL C ρ s.heap xs vs)(h:dt .pop x xs Q m) :
  BY (mod C) A (call (.builtin "list.pop") (v::vs)) (Out C F ρ₀ s₀ Q) E s:=by
 replace h:=h.2;obtain ⟨r,ys,hl,rfl,j1⟩:=mC h;refine e12 (de j1) λy hy j2=>?_;obtain ⟨a,items,k,rfl,rfl,g,hi,gi,ri,z⟩:=j5 R.hp hx hl
 cases rl with | nil=>
 refine e12 (ri.get hy) λw hw rw'=>?_;have hsz:items.toArray.size=ys.length:=by rw [Ky,ri.length]
 refine OV PySem.F.slot_list_pop ⟨_,gi,rfl⟩ PySem.F.entry_list_pop (PySem.F.args_list_pop_1 _) (PySem.MeetsSeq.list_pop_last a items.toArray k w (by rw [hsz];simpa using hw) (by rw [hsz];exact z)) ⟨gi,?_⟩;have hs:=Lu s.heap a (MG λxs=>xs.eraseIdxIfInBounds (items.toArray.size-1));have hg:=Ll (MG λxs=>xs.eraseIdxIfInBounds (items.toArray.size-1)) gi rfl;obtain ⟨k₂,e₂⟩:=lQ (k:=k) (f:=λxs=>xs.eraseIdxIfInBounds (items.toArray.size-1)) (tu items);refine nw ok st₀ R g hi (t:=s.toks) (λb ob q e=>(hs.2 b q).trans e) (items:=items.dropLast) (k:=k₂) (hg.trans (congrArg J e₂)) ?_ (dO (by rw [List.length_dropLast];exact Nb ..) z) rw' j2;rw [NT,NT,ri.length];exact ri.take _
end
section
variable {s:Kv}
theorem rq:(Pv x y).length<=x.length+2:=by
 unfold Pv
 split
 ·exact L9 1 (x.length+1)
 ·split
  ·exact L9 1 (x.length+1)
  ·have e:=StrLaws.occ_length_le x y 0 x.length (x.length+1);rw [length_partsBetween];lia
theorem o9 (c:Nat):∀l:List Str,(Str.join ⟨#[c]⟩ l).cps.toList=d9 c (l.map (·.cps.toList))
 | []=>rfl
 | [x]=>rfl
 | x::y::r=>by
  have e:=o9 c (y::r);show (x.cps++#[c]++(Str.join ⟨#[c]⟩ (y::r)).cps).toList=x.cps.toList++c::d9 c ((y::r).map (·.cps.toList));rw [<-e];simp
theorem nz:∀{l:List (Str × Tok)},(∀x∈l.map (·.1),x.length<=line)->aL C ρ s.heap ((l.map (·.1)).map λx=>.str x.cps.toList) (strValues l)
 | [],_=>.nil
 | (x,t)::r,h=>by
  have e:x=str x.cps.toList:=by simp
  refine .cons ?_ (nz λy hy=>h y (.tail _ hy));have hl:=h x (.head _);exact e▸.str x.cps.toList t hl
theorem tv (hy:(y.length==0)=Z)(hx:x.length+2<=sizeLine)
  (h:∀l k,l.map (·.1)=Pv x y->P (.ref s.heap.objs.size) { s with heap:=s.heap.push (eh (strValues l) 0),toks:=k }):BY (mod C) A (call (.builtin "str.split") [.str x t,.str y u]) P E s:=by
 have hn:(Nu x (ML x y 0 x.length (x.length+1)) y.length).length<=sizeLine:=by
  have e:=StrLaws.occ_length_le x y 0 x.length (x.length+1);rw [length_partsBetween];lia
 cases h1:(decide (x.length<y.length)||decide (Builtin.Str.strKind x<Builtin.Str.strKind y)) with
 | true=>exact OV M2 (Ol _ _ _) NG (Nv _ _) (meets_str_split_cannot_occur x y t u h1) (h [(x,t)] s.toks (if_pos h1).symm)
 | false=>
  cases hf:(ML x y 0 x.length (x.length+1)).isEmpty with
  | true=>exact OV M2 (Ol _ _ _) NG (Nv _ _) (meets_str_split_not_found x y t u h1 hy hf) (h [(x,t)] s.toks ((if_neg (ne_true_of_eq_false h1)).trans (if_pos hf)).symm)
  | false=>
   refine OV M2 (Ol _ _ _) NG (Nv _ _) (meets_str_split_sep x y t u h1 hy hf (Nat.le_of_add_right_le hx) hn) ?_;have e:=h (numbered s.toks (Nu x (ML x y 0 x.length (x.length+1)) y.length)) (s.toks+(Nu x (ML x y 0 x.length (x.length+1)) y.length).length) ((numbered_texts _ _).trans ((if_neg (ne_true_of_eq_false h1)).trans (if_neg (ne_true_of_eq_false hf))).symm);rw [<-strsFrom_eq] at e;exact e
theorem yM (ok:bb F)(st₀:aB F.W ρ₀ s₀ ρ s)(R:Rel C F ρ m s)(rl:aL C ρ s.heap xs vs)(h:dt .split (.str x) xs Q m) :
  BY (mod C) A (call (.builtin "str.split") (.str (str x) t::vs)) (Out C F ρ₀ s₀ Q) E s:=by
 simp only [dt] at h;replace h:=h.2;obtain ⟨_,e,j1⟩:=iR h
 cases e
 obtain ⟨y,rfl,j2⟩:=jU j1;obtain ⟨z,rfl,c,rfl,hl,j3⟩:=iR j2
 cases rl with | cons ra rn=>cases rn with | nil=>cases ra with | str _ u zu=>
 have hx:(str x).length+2<=sizeLine:=by
  rw [cD];exact dO (Lq (LA hl) 2) (by decide)
 refine tv rfl hx λl k e=>Out.back st₀ _ _ (mF R ok (xs:=(l.map (·.1)).map λx=>.str x.cps.toList) (nz λa ha=>?_) ?_ ?_)
 ·rw [e] at ha;exact dO (part_short ha) (Nat.le_of_add_right_le hx)
 ·rw [e,iF];exact dO (rq (x:=str x) (y:=str [c])) hx
 ·have e2:(l.map (·.1)).map (λx=>MV.str x.cps.toList)=((Pv (str x) (str [c])).map (·.cps.toList)).map .str:=by rw [e,OW];rfl
  rw [e2];refine j3 _ ?_ ?_ ?_
  ·intro e3;have:=split_pos (str x) (str [c]);rw [List.map_eq_nil_iff.mp e3] at this
   cases this
  ·intro w hw;obtain ⟨a,ha,rfl⟩:=KW.mp hw;exact StrLaws.split_free (str x) c a ha
  ·have e3:=congrArg (λz:Str=>z.cps.toList) (StrLaws.join_split (str x) (str [c]));exact (o9 c _).symm.trans (e3.trans (BH x))
end
theorem B4 (ok:bb F)(st₀:aB F.W ρ₀ s₀ ρ s)(R:Rel C F ρ m s)(rl:aL C ρ s.heap xs vs)(h:dt .join (.str x) xs Q m) :
  BY (mod C) A (call (.builtin "str.join") (.str (str x) t::vs)) (Out C F ρ₀ s₀ Q) E s:=absurd (show ux=aT/\_ from h).1 (by decide)
section
variable {m:MS}{s:Kv}
noncomputable def B5:Me->String
 | .append=>"list.append"
 | .extend=>"list.extend"
 | .pop=>"list.pop"
 | .find=>"str.find"
 | .count=>"list.count"
 | .dpop=>"dict.pop"
 | .dclear=>"dict.clear"
 | .get=>"dict.get"
 | .join=>"str.join"
 | _=>"str.split"
noncomputable def B6:Me->String
 | .dpop=>"dict"
 | .dclear=>"dict"
 | .get=>"dict"
 | .join=>"str"
 | .find=>"str"
 | .split=>"str"
 | _=>"list"
inductive MeF (T:String)(name:Str)(id:String):Prop
 | mk (pa:PlainAttrs T) (sl:Slot T name id) (ty:typeOf (.builtin id)=pure (.type "method_descriptor"))
noncomputable def MeP (k:Me):Prop:=match yJ k with
 | some name=>MeF (B6 k) name (B5 k)
 | none=>True
theorem J1 (k:Me):MeP k:=by
 cases k with
 | append=>exact ⟨MM,slot_list_append,rfl⟩
 | extend=>exact ⟨MM,PySem.F.slot_list_extend,rfl⟩
 | pop=>exact ⟨MM,PySem.F.slot_list_pop,rfl⟩
 | dpop=>exact ⟨NH,PySem.F.slot_dict_pop,PySem.F.type_dict_pop⟩
 | dclear=>exact ⟨NH,PySem.F.slot_dict_clear,PySem.F.type_dict_clear⟩
 | count=>exact ⟨MM,PySem.F.slot_list_count,PySem.F.type_list_count⟩
 | find=>exact ⟨NO,PySem.F.slot_str_find,PySem.F.type_str_find⟩
 | split=>exact ⟨NO,M2,PySem.F.type_str_split⟩
 | join=>exact ⟨NO,PySem.F.slot_str_join,PySem.F.type_str_join⟩
 | get=>exact ⟨NH,PySem.F.slot_dict_get,PySem.F.type_dict_get⟩
 | _=>exact trivial
theorem FJ (ok:bb F)(st₀:aB F.W ρ₀ s₀ ρ s)(R:Rel C F ρ m s)(hx:Rep C ρ s.heap x v)(rl:aL C ρ s.heap xs vs)(h:dt .append x xs Q m) :
  BY (mod C) A (call (.builtin "list.append") (v::vs)) (Out C F ρ₀ s₀ Q) E s:=by
 dsimp only [dt] at h;refine e22 (mC h) λr ys hl j1=>?_;obtain ⟨y,rfl,h1,h2⟩:=jU j1;obtain ⟨a,items,k,rfl,rfl,g,hi,gi,ri,z⟩:=j5 R.hp hx hl;obtain ⟨w1,rfl,ra⟩:=rl.one;refine PySem.wpAny_list_append_plain ⟨_,gi⟩ (λh' hl hs=>?_) (by rw [Ky,ri.length];exact z);obtain ⟨n,hl⟩:=hl;exact nw ok st₀ R g hi (t:=s.toks) (λb ob q e=>(hs.2 b q).trans e) (items:=items++[_]) (k:=n) (by rw [hl];simp) (ri.append (.cons ra .nil)) (by rw [eQ];exact h1) .none h2
theorem FK (ok:bb F)(st₀:aB F.W ρ₀ s₀ ρ s)(R:Rel C F ρ m s)(hx:Rep C ρ s.heap x v)(rl:aL C ρ s.heap xs vs)(h:dt .extend x xs Q m) :
  BY (mod C) A (call (.builtin "list.extend") (v::vs)) (Out C F ρ₀ s₀ Q) E s:=by
 dsimp only [dt] at h;refine e22 (mC h) λr ys hl j1=>?_;obtain ⟨y,rfl,j2⟩:=jU j1;refine e23 (mC j2) λr' zs hl' h1 h2=>?_;obtain ⟨a,items,k,rfl,rfl,g,hi,gi,ri,z⟩:=j5 R.hp hx hl;obtain ⟨w1,rfl,ra⟩:=rl.one;obtain ⟨a',items',k',rfl,rfl,g',hi',gi',ri',z'⟩:=j5 R.hp ra hl';have hlen:items.toArray.size+items'.toArray.size<=sizeLine:=by rw [Ky,Ky,ri.length,ri'.length];exact h1
 have hlong:¬(!items.toArray.isEmpty&&Nw (items.toArray.size+items'.toArray.size))=aT:=by
  have:Nw (items.toArray.size+items'.toArray.size)=Z:=by
   unfold Nw
   simpa using hlen
  rw [this,Bool.and_false];decide
 refine OV PySem.F.slot_list_extend ⟨_,gi,rfl⟩ PySem.F.entry_list_extend (PySem.F.args_list_extend_2 _ _) (PySem.AutoSeq1.list_extend_list_list_0 a items.toArray k a' items'.toArray k' hlong (dO (K5 ..) hlen) (Mz hlen)) ⟨gi,gi',?_⟩;have hs:=Lu s.heap a (MG λx=>x++items'.toArray);have hg:=Ll (MG λx=>x++items'.toArray) gi rfl;have e:items.toArray++items'.toArray=(items++items').toArray:=List.append_toArray ..;obtain ⟨k₂,e₂⟩:=lQ (k:=k) (f:=λx=>x++items'.toArray) e;exact nw ok st₀ R g hi (t:=s.toks) (λb ob q e=>(hs.2 b q).trans e) (items:=items++items') (k:=k₂) (hg.trans (congrArg J e₂)) (ri.append ri') (by rw [eQ];exact h1) .none h2
theorem B7 (ok:bb F)(st₀:aB F.W ρ₀ s₀ ρ s)(R:Rel C F ρ m s)(rl:aL C ρ s.heap xs vs)(h:dt .find (.str x) xs Q m) :
  BY (mod C) A (call (.builtin "str.find") (.str (str x) t::vs)) (Out C F ρ₀ s₀ Q) E s:=by
 dsimp only [dt] at h;obtain ⟨y,rfl,j1⟩:=jU h;obtain ⟨z,rfl,j2⟩:=iR j1;obtain ⟨_,rfl,ra⟩:=rl.one;obtain ⟨u,rfl,zu⟩:=ra.inv;refine PySem.SC.find ?_;refine e02 (R.tok ok (s.toks+1)) λR₂ st₂=>?_;refine ⟨_,_,_,st₀.trans st₂,R₂,.int _ _,j2 _ ?_⟩;unfold Txt.find
 split<;>exact KZ _
theorem u0 (H:Hp C ρ m.heap s.heap)(hx:Rep C ρ s.heap x v)(h:dct x m.heap=J (r,es)):J0 C ρ m.heap s.heap x v r es:=by
 obtain ⟨rfl,hi⟩:=BB h;obtain ⟨a,rfl,g⟩:=hx.inv;obtain ⟨kvs,dk,rk,z⟩:=H.objs _ _ _ hi g;exact ⟨a,kvs,rfl,rfl,g,hi,dk,rk,z⟩
theorem yO (h:(dct x hp).isSome=aT):∃r xs,dct x hp=J (r,xs):=by
 obtain ⟨⟨r,xs⟩,h⟩:=K6.mp h;exact ⟨r,xs,h⟩
end
section
theorem B8 (ok:bb F)(st₀:aB F.W ρ₀ s₀ ρ s)(R:Rel C F ρ m s)(hx:Rep C ρ s.heap x v)(rl:aL C ρ s.heap xs vs)(h:dt .dpop x xs Q m) :
  BY (mod C) A (call (.builtin "dict.pop") (v::vs)) (Out C F ρ₀ s₀ Q) E s:=by
 exact absurd (show kU=aT/\_ from h).1 (by decide)
theorem wW (ok:bb F)(st₀:aB F.W ρ₀ s₀ ρ s)(R:Rel C F ρ m s)(hx:Rep C ρ s.heap x v)(rl:aL C ρ s.heap xs vs)(h:dt .dclear x xs Q m) :
  BY (mod C) A (call (.builtin "dict.clear") (v::vs)) (Out C F ρ₀ s₀ Q) E s:=by
 exact absurd (show kU=aT/\_ from h).1 (by decide)
theorem yP (ok:bb F)(st₀:aB F.W ρ₀ s₀ ρ s)(R:Rel C F ρ m s)(hx:Rep C ρ s.heap x v)(rl:aL C ρ s.heap xs vs)(h:dt .count x xs Q m) :
  BY (mod C) A (call (.builtin "list.count") (v::vs)) (Out C F ρ₀ s₀ Q) E s:=by
 exact absurd (show kU=aT/\_ from h).1 (by decide)
end
section
theorem B9 (G:GOk C)(ok:bb F)(st₀:aB F.W ρ₀ s₀ ρ s)(R:Rel C F ρ m s)(hx:Rep C ρ s.heap x v)(rl:aL C ρ s.heap xs vs)(h:dt .get x xs Q m) :
  BY (mod C) A (call (.builtin "dict.get") (v::vs)) (Out C F ρ₀ s₀ Q) E s:=by
 obtain ⟨r,es,hl,j1⟩:=Bv (show x0=aT/\onD (dct x m.heap) _ from h).2;obtain ⟨y,d,rfl,j2⟩:=Bw j1;obtain ⟨k,rfl,j3⟩:=iR j2;obtain ⟨a,kvs,rfl,rfl,g,hi,dk,rk,zl⟩:=u0 R.hp hx hl;obtain ⟨_,dv,rfl,ra,rd⟩:=rl.two;obtain ⟨t,rfl,zt⟩:=ra.inv;have hg:=rk.get k;refine call_meetsIn PySem.F.slot_dict_get dk.typeIs PySem.F.entry_dict_get (PySem.F.args_dict_get_3 _ _ _) (meets_dict_get_default (strKind C.prog C.w) a (k:=str k) (hY C.prog C.w (str k) t) (mG G R.hp (rW g)) dv) ⟨_,dk.mapOf,?_⟩;obtain ⟨R₂,st₂⟩:=R.tok ok (s.toks+1)
 cases e:aN es k with
 | none=>
  rw [e] at hg j3;rw [hg];exact ⟨_,_,_,st₀.trans st₂,R₂,rd,j3⟩
 | some z=>
  rw [e] at hg j3;obtain ⟨w,e',rw'⟩:=hg;rw [e'];exact ⟨_,_,_,st₀.trans st₂,R₂,rw',j3⟩
end
section
theorem yQ (G:GOk C)(ok:bb F)(st₀:aB F.W ρ₀ s₀ ρ s)(R:Rel C F ρ m s)(hx:Rep C ρ s.heap x v)(rl:aL C ρ s.heap xs vs)(h:dt k x xs Q m)(hk:(yJ k).isSome=aT)
  (hs:meK k=.str->∃y,x=.str y) :
  BY (mod C) A (call (.builtin (B5 k)) (v::vs)) (Out C F ρ₀ s₀ Q) E s:=by
 refine Kz λhn=>?_
 cases k with
 | append=>exact hn (FJ ok st₀ R hx rl h)
 | extend=>exact hn (FK ok st₀ R hx rl h)
 | pop=>exact hn (FI ok st₀ R hx rl h)
 | dpop=>exact hn (B8 ok st₀ R hx rl h)
 | dclear=>exact hn (wW ok st₀ R hx rl h)
 | count=>exact hn (yP ok st₀ R hx rl h)
 | get=>exact hn (B9 G ok st₀ R hx rl h)
 | find=>
  obtain ⟨y,rfl⟩:=hs rfl;obtain ⟨t,rfl,_⟩:=hx.inv;exact hn (B7 ok st₀ R rl h)
 | split=>
  obtain ⟨y,rfl⟩:=hs rfl;obtain ⟨t,rfl,_⟩:=hx.inv;exact hn (yM ok st₀ R rl h)
 | join=>
  obtain ⟨y,rfl⟩:=hs rfl;obtain ⟨t,rfl,_⟩:=hx.inv;exact hn (B4 ok st₀ R rl h)
 | _=>exact ff hk
theorem Ca (k:Me):B6 k=match meK k with
  | .list=>"list"
  | .dict=>"dict"
  | .str=>"str":=by cases k<;>rfl
theorem FL (G:GOk C)(ok:bb F)(hn:yJ k=J name)(st₀:aB F.W ρ₀ s₀ ρ s)(R:Rel C F ρ m s)(hx:Rep C ρ s.heap x v)(hm:jX k x m.heap=aT)
  (hp:trees.any (·.1)=Z)
  (h:BY (mod C) F.A (spliced trees) (λvs s₁=>∃ρ₁ m₁ xs,aB F.W ρ s ρ₁ s₁/\Rel C F ρ₁ m₁ s₁/\aL C ρ₁ s₁.heap xs vs/\dt k x xs Q m₁) E s) :
  MethodOn C.prog C.w F.A name pos v trees (Out C F ρ₀ s₀ Q) E s:=by
 have hk:(yJ k).isSome=aT:=by rw [hn];rfl
 have hf:=J1 k;unfold MeP at hf;rw [hn] at hf;obtain ⟨pa,sl,ty⟩:=hf;have go:(meK k=.str->∃y,x=.str y)->BY (mod C) F.A (callWith pos (.builtin (B5 k)) [v] trees []) (Out C F ρ₀ s₀ Q) E s:=λhs=>yL hp (Kq h (λvs s₁ hr=>by obtain ⟨ρ₁,m₁,xs,st,R₁,rl,hw⟩:=hr;exact yQ G ok (st₀.trans st) R₁ (hx.step st) rl hw hk hs) λ_ _ e=>e);have key:s.TypeIs v (B6 k)/\(∀a,v=.ref a->∃o,s.heap.get? a=J o/\o.dict=bY)/\(meK k=.str->∃y,x=.str y):=by
  have ht:=Ca k;unfold jX at hm
  cases q:meK k with
  | list=>
   rw [q] at hm ht;refine e21 (yK hm) λr ys e=>?_;obtain ⟨a,items,k,rfl,_,_,_,gi,_⟩:=j5 R.hp hx e;exact ⟨by rw [ht];exact ⟨_,gi,rfl⟩,λb e=>(by cases e;exact ⟨_,gi,rfl⟩),λq=>nomatch q⟩
  | dict=>
   rw [q] at hm ht;refine e21 (yO hm) λr ys e=>?_;obtain ⟨a,kvs,rfl,_,_,_,dk,_⟩:=u0 R.hp hx e;exact ⟨by rw [ht];exact dk.typeIs,dk.mapOf.noDict,λq=>nomatch q⟩
  | str=>
   rw [q] at hm ht;obtain ⟨y,rfl⟩:=sX hm;obtain ⟨t,rfl,_⟩:=hx.inv;exact ⟨by rw [ht];exact Ol _ _ _,λa e=>(nomatch e),λ_=>⟨y,rfl⟩⟩
 exact ⟨B6 k,B5 k,pa,sl,ty,key.1,key.2.1,go key.2.2⟩
end
noncomputable def IM (v:MV)(k:Const):Bool:=match v with
 | .none=>match k with
  | .none=>aT
  | _=>Z
 | .bool b=>match k with
  | .bool c=>b==c
  | _=>Z
 | .int i=>match k with
  | .int j=>i==j
  | _=>Z
 | .str s=>match k with
  | .str x=>x.cps.toList==s&&decide (s.length<=1000)
  | _=>Z
 | _=>Z
theorem au (h:(a&&b)=aT):a=aT/\b=aT:=by rwa [IT] at h
theorem Cb (h:(!a||b)=aT):¬ a=aT\/b=aT:=by
 cases a with
 | true=>exact .inr h
 | false=>exact .inl (by decide)
theorem lR (h:(!a)=aT):a=Z:=by cases a with
 | true=>exact ff h
 | false=>rfl
noncomputable def dD (c:Cx)(x:Str):Bool:=c.kind x==J .globalImplicit&&!dbg x
noncomputable def nA (c:Cx)(t:TS)(e:KY):Bool:=ax (fF e) λx=>ax (mu t) λT=>x==Mi T&&c.kind x==J .globalImplicit&&!dbg x
noncomputable def pb (c:Cx)(x:Str):Bool:=c.kind x==J .local||(c.wr&&!(c.kind x==J .free))
theorem j6 (h:pb c x=aT):c.kind x=J .local\/(c.wr=aT/\c.kind x≠J .free):=by
 simpa [pb] using h
noncomputable def fc (c:Cx):List Nat->List KY->Bool
 | [],xs=>xs.isEmpty
 | i::t,xs=>match xs with
  | []=>Z
  | e::r=>ax (fF e) (λx=>c.nm i==J x&&pb c x)&&fc c t r
noncomputable def oU (c:Cx)(t:List Nat)(many:Bool)(e:KY):Bool:=match many with
 | false=>ax (fF e) λx=>ax (one t) λi=>c.nm i==J x&&pb c x
 | true=>ax (tj e) (fc c t)
noncomputable def cc (e:KY):List Str:=match tj e with
 | some elts=>elts.filterMap fF
 | none=>(fF e).toList
noncomputable def nC (kind:Str->Option NameKind)(names:List (Str × NameKind)):List (Str × NameKind):=names.map λ(n,k)=>if (k==.free&&kind n==J .cell) then (n,.cell) else (n,k)
noncomputable def Es (c:Cx)(sc:Scope)(i:Nat):Option Str:=match c.nm i with
 | some x=>if sc.names.lookup x==J .free then J x else bY
 | none=>bY
noncomputable def f7 (c:Cx)(sc:Scope)(t:List Nat)(tn:List Str):Cx where
 kind x:=(nC c.kind sc.names).lookup x
 nm i:=match (t.zip tn).lookup i with
  | some x=>J x
  | none=>Es c sc i
 fn:=c.fn
 gl:=c.gl
 wr:=false
 fr i:=c.fr i&&!t.contains i
 nh:=c.nh
 hf:=c.hf
 cn:=c.cn
 xn:=c.xn
 mt:=c.mt
 at_:=c.at_
noncomputable def yR (c:Cx)(x:Str):Bool:=(LH 64).any (λi=>c.nm i==J x)&&c.kind x != J .local&&!cdc x
noncomputable def qg (c:Cx)(sc:Scope)(t:List Nat)(tn:List Str):Bool:=
 sc.kind==.function&&sc.names.all (λp=>p.2 != .cell&&(p.2 != .local||sc.names.lookup p.1==J .local)&&(p.2 != .free||yR c p.1))&&
  decide (t.length=tn.length)&&decide t.Nodup&&decide tn.Nodup&&t.all c.fr&&tn.all (λx=>sc.names.lookup x==J .local)
noncomputable def yS:IK->Str
 | .enum=>"enumerate"
 | _=>"range"
noncomputable def u1:IK->Bool
 | .val=>aT
 | .keys=>aT
 | _=>Z
noncomputable def nE:IK->Bool
 | .keys=>aT
 | _=>Z
noncomputable def vr:ME->Option Nat
 | .var i=>J i
 | _=>bY
noncomputable def lt2:ME->Option (ME × ME)
 | .cmp .lt a b=>J (a,b)
 | _=>bY
noncomputable def ix2:ME->Option (ME × ME)
 | .idx a b=>J (a,b)
 | _=>bY
noncomputable def yT (elt:ME)(t:List Nat)(many:Bool)(ifs:List ME):Bool:=!many&&ax (vr elt) λi=>t==[i]&&ax (one ifs) λe=>ax (lt2 e) λp=>ax (ix2 p.1) λq=>(vr q.1).isSome&&(vr q.2).isSome&&(vr p.2).isSome
noncomputable def nF (c:Cx)(k:IK)(e:KY):Option (List KY):=if u1 k then J [e] else (xFn e).bind λq=>if dD c q.1&&q.1==yS k&&!q.2.1.isEmpty then J q.2.1 else bY
noncomputable def FM:Bi->Str->Str->Bool
 | .sortedSet,x,y=>Im&&x==("sorted":Str)&&y==("set":Str)
 | .listRev,x,y=>EP&&x==("list":Str)&&y==("reversed":Str)
 | _,_,_=>Z
noncomputable def xSS (c:Cx)(b:Bi)(e:KY):Option Expr:=(xFn e).bind λq=>(one q.2.1).bind λy=>(xFn y).bind λr=>if FM b q.1 r.1&&dD c q.1&&dD c r.1 then one r.2.1 else bY
noncomputable def Cc:Bi->Bool
 | .sortedSet=>aT
 | .listRev=>aT
 | _=>Z
noncomputable def nG:IK->Bool
 | .enum=>aT
 | _=>Z
noncomputable abbrev GV:=Nat × Int × List (List Nat) × List (List Nat × Int)
noncomputable def mvC (v:MV):Option GV:=match v with
 | .int i=>J (0,i,[],[])
 | .str s=>J (1,0,[s],[])
 | .gt ss=>J (2,0,ss,[])
 | .cdict es=>J (3,0,[],es)
 | _=>bY
noncomputable def mvB (q:GV):MV:=match q.1 with
 | 0=>.int q.2.1
 | 1=>.str (q.2.2.1.headD [])
 | 2=>.gt q.2.2.1
 | _=>.cdict q.2.2.2
theorem rt (h:mvC v=J q):v=mvB q:=by
 cases v with
 | int i=>obtain rfl:=By h;rfl
 | str s=>obtain rfl:=By h;rfl
 | gt ss=>obtain rfl:=By h;rfl
 | cdict es=>obtain rfl:=By h;rfl
 | _=>exact aJ h
noncomputable def IO (c:Cx)(g:Nat)(v:MV)(x:Str):Bool:=ax (c.gl g) λq=>q.1==x&&ax (mvC q.2) λa=>mvC v==J a
noncomputable def dZ:List Str:=["opens","secrets","rows","numbers","turns","said"]
noncomputable def f9:List Str:=["names","kind","told","block","many","do_rows","do_row","do_loop"]
noncomputable def Et (c:Cx)(t:TS)(e:KY):Bool:=match t with
 | .cls k=>ax (fF e) λx=>dD c x&&c.xn k==J x
 | .valueError=>ax (fF e) λx=>dD c x&&x==("ValueError":Str)
 | t=>nA c t e
noncomputable def J2:TS->Bool
 | .cls _=>aT
 | .valueError=>aT
 | _=>Z
noncomputable def yU (c:Cx)(ts:List TS)(e:KY):Bool:=match ts with
 | [t]=>Et c t e
 | [t,u]=>ax (tj e) λus=>ax (two us) λw=>nA c t w.1&&nA c u w.2
 | _=>Z
mutual
noncomputable def aX:Cx->ME->KY->Bool
 | c,.cst v,e=>ax (p9 e) (IM v)
 | c,.var i,e=>ax (fF e) λx=>c.nm i==J x&&!dbg x
 | c,.glob g v,e=>ax (fF e) λx=>dD c x&&IO c g v x
 | c,.bin op a b,e=>ax (IC e) λp=>p.2.1==wH op&&aX c a p.1&&aX c b p.2.2
 | c,.neg a,e=>ax (xUn e) λp=>p.1==.USub&&aX c a p.2
 | c,.not a,e=>ax (xUn e) λp=>p.1==.Not&&aX c a p.2
 | c,.and es,e=>ax (yn e) λp=>p.1==.And&&bq c es p.2
 | c,.or es,e=>ax (yn e) λp=>p.1==.Or&&bq c es p.2
 | c,.cmp op a b,e=>ax (BK e) λp=>ax (one p.2.1) λo=>ax (one p.2.2) λr=>o==jr op&&okX r&&aX c a p.1&&aX c b r
 | c,.cmp2 op op' a b d,e=>ax (BK e) λp=>ax (two p.2.1) λo=>ax (two p.2.2) λr=>o.1==jr op&&o.2==jr op'&&okX r.1&&okX r.2&&aX c a p.1&&aX c b r.1&&aX c d r.2
 | c,.isN q a,e=>ax (BK e) λp=>ax (one p.2.1) λo=>ax (one p.2.2) λr=>o==(if q then .Is else .IsNot)&&p9 r==J .none&&aX c a p.1
 | c,.call f args,e=>ax (xFn e) λq=>dD c q.1&&c.fn f==J q.1&&!q.2.1.isEmpty&&(c.nh||c.hf f)&&bq c args q.2.1
 | c,.blt b args,e=>if Cc b then ax (xSS c b e) λz=>c.nh&&bq c args [z] else ax (xFn e) λq=>(c.nh||mI b)&&dD c q.1&&ax (oS b) (λp=>q.1==p.1)&&!q.2.1.isEmpty&&bq c args q.2.1
 | c,.mth k o args,e=>ax (o8 e) λq=>yJ k==J q.1.2.1&&nt q.1.1&&(q.1.2.2.endLine==q.2.2.line)&&decide (q.2.1.length<20)&&aX c o q.1.1&&bq c args q.2.1
 | c,.umth k f x o args,e=>ax (o8 e) λq=>q.1.2.1.cps.toList==x&&f9.contains q.1.2.1&&c.mt f==J (k,q.1.2.1)&&(view q.1.1).tag==1&&(q.1.2.2.endLine==q.2.2.line)&&decide (q.2.1.length<20)&&(c.nh||c.hf f)&&aX c o q.1.1&&bq c args q.2.1
 | c,.new k f args,e=>ax (xFn e) λq=>dD c q.1&&c.cn k==J q.1&&c.mt f==J (k,("__init__":Str))&&!q.2.1.isEmpty&&c.nh&&bq c args q.2.1
 | c,.attr k o x,e=>ax (uW e) λq=>q.2.1.cps.toList==x&&dZ.contains q.2.1&&c.at_ k q.2.1&&(view q.1).tag==1&&aX c o q.1
 | c,.idx o i,e=>ax (BL e) λp=>okX p.2&&aX c o p.1&&aX c i p.2
 | c,.sl o lo hi,e=>ax (BL e) λp=>ax (yp p.2) λq=>q.2.2.isNone&&aX c o p.1&&FN c lo q.1&&FN c hi q.2.1
 | c,.list es,e=>ax (Eo e) λxs=>decide (es.length<=1000)&&bq c es xs
 | c,.tup es,e=>ax (tj e) λxs=>decide (es.length<=1000)&&bq c es xs
 | c,.dict0,e=>ax (Ep e) λp=>p.1.isEmpty&&p.2.isEmpty
 | c,.comp elt t many k src ifs,e=>ax (xLC e) λp=>ax (one p.2.1) λg=>c.nh&&g.is_async==0&&okX g.iter&&(!nG k||many)&&(!nE k||(uy&&yT elt t many ifs))&&qg c p.2.2 t (cc g.target)&&ax (nF c k g.iter) (λxs=>bq c src xs)&&
   oU (f7 c p.2.2 t (cc g.target)) t many g.target&&bq (f7 c p.2.2 t (cc g.target)) ifs g.ifs&&aX (f7 c p.2.2 t (cc g.target)) elt p.1
 | c,.isi a ts,e=>ax (xFn e) λq=>ax (two q.2.1) λv=>dD c q.1&&q.1==("isinstance":Str)&&okX v.1&&aX c a v.1&&yU c ts v.2
noncomputable def bq:Cx->List ME->List KY->Bool
 | c,[],xs=>xs.isEmpty
 | c,e::es,xs=>match xs with
  | []=>Z
  | x::xs=>okX x&&aX c e x&&bq c es xs
noncomputable def FN:Cx->Option ME->Option KY->Bool
 | c,bY,x=>x.isNone
 | c,J e,x=>match x with
  | some x=>aX c e x
  | none=>Z
end
noncomputable def Call (C:Glo):KT:=λn f vs Q X h=>∀(F:Fm) (m:MS) (s:Kv) (ρ:List KO) (ws:List DO) (a:KO),bb F->(F.A.handled=bY\/C.hf f=aT)->m.heap=h->Rel C F ρ m s->aL C ρ s.heap vs ws->
 F.A.depth+n<=999->F.A.units<=3 * F.A.depth+4->C.fa f=J a->
  BY (mod C) F.A (call (.ref a) ws) (Out C F ρ s (λv m'=>m'.vars=m.vars/\Q v m'.heap)) (Er C F (λc m'=>m'.vars=m.vars/\X c m'.heap) ρ s) s
section
theorem WPv.go (h:WPv C F X t Q m)(R:Rel C F ρ m s)(st₀:aB F.W ρ₀ s₀ ρ s)
  (k:∀ρ₁ s₁ m₁ x v,aB F.W ρ s ρ₁ s₁->aB F.W ρ₀ s₀ ρ₁ s₁->Rel C F ρ₁ m₁ s₁->Rep C ρ₁ s₁.heap x v->Q x m₁->P v s₁):BY (mod C) F.A t P (Er C F X ρ₀ s₀) s:=
 Kq (h s ρ R) (λv s₁ ⟨ρ₁,m₁,x,a,b,c,d⟩=>k ρ₁ s₁ m₁ x v a (st₀.trans a) b c d) (Er.back st₀)
inductive IP (C:Glo)(F:Fm)(k:Nat)(ρ:List KO)(s:Kv)(Q:List MV->MS->Prop)(vs:List DO)(s':Kv):Prop
 | mk (ρ':List KO) (m':MS) (xs:List MV) (st:aB F.W ρ s ρ' s') (R:Rel C F ρ' m' s') (rl:aL C ρ' s'.heap xs vs) (hl:xs.length=k) (hq:Q xs m'):IP C F k ρ s Q vs s'
noncomputable def WPl (C:Glo)(F:Fm)(X:XM)(k:Nat)(t:Sem (List DO))(Q:List MV->MS->Prop)(m:MS):Prop:=
 ∀s ρ,Rel C F ρ m s->BY (mod C) F.A t (IP C F k ρ s Q) (Er C F X ρ s) s
theorem WPl.go {t:Sem (List DO)}{P:List DO->Kv->Prop}{Q:List MV->MS->Prop}{l:Nat}(h:WPl C F X l t Q m)(R:Rel C F ρ m s)(st₀:aB F.W ρ₀ s₀ ρ s)
  (k:∀ρ₁ s₁ m₁ xs vs,aB F.W ρ s ρ₁ s₁->aB F.W ρ₀ s₀ ρ₁ s₁->Rel C F ρ₁ m₁ s₁->aL C ρ₁ s₁.heap xs vs->xs.length=l->Q xs m₁->P vs s₁):BY (mod C) F.A t P (Er C F X ρ₀ s₀) s:=
 Kq (h s ρ R) (λv s₁ ⟨ρ₁,m₁,x,a,b,c,e,d⟩=>k ρ₁ s₁ m₁ x v a (st₀.trans a) b c e d) (Er.back st₀)
inductive FO (C:Glo)(F:Fm)(ρ:List KO)(s:Kv)(Q:Bool->MS->Prop)(b:Bool)(s':Kv):Prop
 | mk (ρ':List KO) (m':MS) (st:aB F.W ρ s ρ' s') (R:Rel C F ρ' m' s') (hq:Q b m'):FO C F ρ s Q b s'
noncomputable def WPt (C:Glo)(F:Fm)(X:XM)(t:Sem Bool)(Q:Bool->MS->Prop)(m:MS):Prop:=
 ∀s ρ,Rel C F ρ m s->BY (mod C) F.A t (FO C F ρ s Q) (Er C F X ρ s) s
theorem WPt.go {t:Sem Bool}{P:Bool->Kv->Prop}{Q:Bool->MS->Prop}(h:WPt C F X t Q m)(R:Rel C F ρ m s)(st₀:aB F.W ρ₀ s₀ ρ s)
  (k:∀ρ₁ s₁ m₁ b,aB F.W ρ s ρ₁ s₁->aB F.W ρ₀ s₀ ρ₁ s₁->Rel C F ρ₁ m₁ s₁->Q b m₁->P b s₁):BY (mod C) F.A t P (Er C F X ρ₀ s₀) s:=
 Kq (h s ρ R) (λv s₁ ⟨ρ₁,m₁,a,b,d⟩=>k ρ₁ s₁ m₁ v a (st₀.trans a) b d) (Er.back st₀)
theorem yV (R:Rel C F ρ m s)(ok:bb F){P:Bool->MS->Prop}{v:DO}{s':Kv}(h:hX s (λb=>P b m) v s'):∃b,v=.bool b/\∃m',aB F.W ρ s ρ s'/\Rel C F ρ m' s'/\P b m':=by
 obtain ⟨b,t,rfl,rfl,h⟩:=h;obtain ⟨R',st⟩:=R.tok ok t;exact ⟨b,rfl,m,st,R',h⟩
theorem yW (R:Rel C F ρ m s)(ok:bb F)(hc:IM v k=aT)(hq:Q v m):BY (mod C) A (eval (.Constant k kd p) env) (Out C F ρ s Q) E s:=by
 refine Kz λhn=>?_
 cases v with
 | none=>
  cases k with
  | none=>exact hn (wpAny_Constant_none (cR R .none hq))
  | _=>exact ff hc
 | bool b=>
  cases k with
  | bool c=>obtain rfl:=eq_of_beq hc;exact hn (wpAny_Constant_bool (cR R (.bool _) hq))
  | _=>exact ff hc
 | int i=>
  cases k with
  | int j=>obtain rfl:=eq_of_beq hc;exact hn (wpAny_Constant_int (bP R ok (.int _ _) hq))
  | _=>exact ff hc
 | str s'=>
  cases k with
  | str x=>
   refine e02 (au hc) λe hl=>?_;obtain rfl:x=str s':=by rw [<-eq_of_beq e]
   exact hn (wpAny_Constant_str (bP R ok (.str _ _ (dO (of_decide_eq_true hl) (by decide))) hq))
  | _=>exact ff hc
 | _=>exact ff hc
theorem bu (i:Nat)(h:c0[i]?=J p):p∈c0:=rW h
theorem FP (h:oS b=J (x,f)):(x,f)∈c0:=by
 cases b<;>cases h<;>first | exact bu 0 rfl | exact bu 1 rfl | exact bu 2 rfl | exact bu 3 rfl | exact bu 4 rfl | exact bu 5 rfl | exact bu 12 rfl | exact bu 13 rfl | exact bu 14 rfl | exact bu 16 rfl | exact bu 10 rfl
theorem tw (h:mu t=J T):(Mi T,M1 T)∈c0:=by
 cases t<;>(first | exact aJ h | obtain rfl:=By h)<;>first | exact bu 1 rfl | exact bu 2 rfl | exact bu 3 rfl | exact bu 4 rfl | exact bu 5 rfl | exact bu 6 rfl
theorem aW (h:dD c x=aT):c.kind x=J .globalImplicit/\dbg x=Z:=by
 refine e02 (au h) λh1 h2=>?_;exact ⟨eq_of_beq h1,by cases e:dbg x with
  | true=>rw [e] at h2;exact ff h2
  | false=>rfl⟩
theorem FQ (h:oS b=J (x,f)):(∃id,f=.builtin id)\/∃T,f=.type T:=by
 cases b<;>cases h<;>first | exact .inl ⟨_,rfl⟩ | exact .inr ⟨_,rfl⟩
theorem cF (h:bq c es xs=aT)(pos:Pos)(env:Env):(backTo pos (starEach xs env)).any (·.1)=Z:=by
 induction es generalizing xs with
 | nil=>cases xs with
  | nil=>rfl
  | cons=>exact ff h
 | cons e es ih=>
  cases xs with
  | nil=>exact ff h
  | cons x xs=>
   refine e02 (KU.mp h) λh1 h2=>?_;rw [bB (KU.mp h1).1];show (Z||(backTo pos (starEach xs env)).any (·.1))=Z;rw [ih h2];rfl
theorem gc (hf:(∃id,f=.builtin id)\/∃T,f=.type T)(hp:trees.any (·.1)=Z)(hne:trees≠[])
  (h:BY (mod C) A (spliced trees) (λvs s₁=>BY (mod C) A (call f vs) P E s₁) E s):BY (mod C) A (callWith pos f [] trees []) P E s:=by
 obtain ⟨⟨b,t⟩,trees,rfl⟩:=Nc hne;simp only [N0,LV] at hp;obtain ⟨rfl,hp⟩:=hp
 rcases hf with ⟨id,rfl⟩ | ⟨T,rfl⟩
 ·exact Calls.callWith_builtin (by simp [hp]) (My h)
 ·exact PyProof.Rows.callWith_type (by simp [hp]) (My h)
end
noncomputable def Shp (h:KR)(a:KO):Prop:=∃o,h.get? a=J o/\¬ jp o/\¬ IsD o
noncomputable def dS (C:Glo)(F:Fm)(ρ:List KO)(h:KR)(S:List KO):Prop:=
 ∀a∈S,a∉ρ/\a∉F.W++F.V/\C.base.get? a=bY/\Shp h a
noncomputable def hZ (S:List KO)(s s':Kv):Prop:=(∀b o,b∉S->s.heap.get? b=J o->s'.heap.get? b=J o)/\s'.gens=s.gens/\s'.os=s.os
section
variable {S:List KO}
theorem aB.side (x:aB W ρ₀ s₀ ρ s)(y:hZ S s s')(hS:∀a∈S,s₀.heap.get? a=bY):aB W ρ₀ s₀ ρ s' where
 pre:=x.pre
 new:=x.new
 keep:=λa o e h1 h2=>by
  have ha:a∉S:=λh=>by rw [hS a h] at e;exact aJ e
  rcases x.keep a o e h1 h2 with e1 | ⟨hc,sl,e1⟩
  ·exact .inl (y.1 a _ ha e1)
  ·exact .inr ⟨hc,sl,y.1 a _ ha e1⟩
 solid:=λa o e h=>y.1 a o (λq=>by rw [hS a q] at e;exact aJ e) (x.solid a o e h)
 alive:=λa o e=>let ⟨o',e'⟩:=x.alive a o e;⟨o',y.1 a o' (λq=>by rw [hS a q] at e;exact aJ e) e'⟩
 gens:=y.2.1.trans x.gens
 os:=y.2.2.trans x.os
theorem fe (x:∀a∈S,Shp s.heap a)(y:hZ S s s'):bg s.heap s'.heap:=λa o e h=>y.1 a o (λq=>by
 refine e13 (x a q) λo' e' h' _=>?_;obtain rfl:=same e e';exact h' h) e
theorem dS.solids (x:dS C F ρ s.heap S)(y:hZ S s s'):bg s.heap s'.heap:=fe (λa ha=>(x a ha).2.2.2) y
theorem Rel.side0 (R:Rel C F ρ m s)(ok:bb F)(hs:bg s.heap s'.heap)(x:∀a∈S,a∉ρ/\a∉F.W++F.V/\C.base.get? a=bY)(hout:∀L∈F.frs,L∉S)(y:hZ S s s'):Rel C F ρ m s':=
 R.up ok hs (Kw _) (R.hp.up hs (λa ha o e=>y.1 a o (λq=>(x a q).1 ha) e) λb o e=>y.1 b o (λq=>by rw [(x b q).2.2] at e;exact aJ e) (R.hp.base b o e)) (λa h=>.inl h)
  (λa ha o e=>⟨o,y.1 a o (λq=>(x a q).2.1 ha) e,rfl,rfl⟩) (λL hL o eo=>⟨o,y.1 L o (hout L hL) eo,rfl,rfl⟩) y.2.1
theorem wX (R:Rel C F ρ m s)(x:∀a∈S,Shp s.heap a):∀L∈F.frs,L∉S:=λL hL q=>by
 obtain ⟨_,_,o,h1,h2⟩:=R.out L hL;refine e13 (x L q) λo2 g1 _ g2=>?_;obtain rfl:=same h1 g1;exact g2 h2
theorem Rel.side (R:Rel C F ρ m s)(ok:bb F)(x:dS C F ρ s.heap S)(y:hZ S s s'):Rel C F ρ m s':=
 R.side0 ok (x.solids y) (λa ha=>⟨(x a ha).1,(x a ha).2.1,(x a ha).2.2.1⟩) (wX R λa ha=>(x a ha).2.2.2) y
theorem dS.step (x:dS C F ρ s.heap S)(st:aB F.W ρ s ρ' s'):dS C F ρ' s'.heap S/\∀a∈S,∀o,s.heap.get? a=J o->s'.heap.get? a=J o:=by
 have keep:∀a∈S,∀o,s.heap.get? a=J o->s'.heap.get? a=J o:=λa ha o e=>by
  obtain ⟨h1,h2,h3,o',e',h4,h6⟩:=x a ha;obtain rfl:=same e e'
  rcases st.keep a o e h1 (λq=>h2 (tO _ q)) with q | ⟨q,_⟩
  ·exact q
  ·exact absurd q h6
 refine ⟨λa ha=>?_,keep⟩;obtain ⟨h1,h2,h3,o',e',h4,h6⟩:=x a ha;refine ⟨λq=>(st.new a q).elim h1 λq=>?_,h2,h3,o',keep a ha _ e',h4,h6⟩;exact bc q e'
theorem dS.shape (x:dS C F ρ h S)(y:∀a∈S,Shp h' a):dS C F ρ h' S:=λa ha=>⟨(x a ha).1,(x a ha).2.1,(x a ha).2.2.1,y a ha⟩
structure qh (C:Glo)(A:M9)(target:KY)(itv:DO)(items:List MV)(g:Gd)(S U:List KO)(It:Nat->List KO->Kv->Prop):Prop where
 shape:∀i ρ s,It i ρ s->∀a∈S,Shp s.heap a
 keep:∀i ρ ρ' s s',It i ρ s->ρ<+:ρ'->bg s.heap s'.heap->(∀a∈S++U,∀o,s.heap.get? a=J o->s'.heap.get? a=J o)->It i ρ' s'
 item:∀i ρ hp s x,Hp C ρ hp s.heap->aS g hp->It i ρ s->items[i]?=J x->∀(E:DO->Kv->Prop) (N:Kv->Prop) (P:DO->Kv->Prop),
  (∀v s₂,hZ S s s₂->It (i+1) ρ s₂->Rep C ρ s₂.heap x v->P v s₂)->
   BY (mod C) A (pyNext itv) (λr s₁=>match r with
    | none=>N s₁
    | some v=>BY (mod C) A (letOwnedTupleGo target itv v) (λ_ s₂=>P v s₂) E s₁) E s
 done:∀i ρ hp s,Hp C ρ hp s.heap->aS g hp->It i ρ s->items[i]?=bY->∀(E:DO->Kv->Prop) (P:Kv->Prop),
  (∀s₂,hZ S s s₂->P s₂)->BY (mod C) A (pyNext itv) (λr s₁=>r=bY/\P s₁) E s
 self:∀i ρ s,It i ρ s->∀(E:DO->Kv->Prop) (P:DO->Kv->Prop),P itv s->BY (mod C) A (pyIter itv) P E s
theorem pc (R:Rel C F ρ m s)(ha:s.heap.get? a=bY)(e:h.get? a=J o)(h1:¬ jp o)(h3:¬ IsD o) :
  a∉ρ/\a∉F.W++F.V/\C.base.get? a=bY/\Shp h a:=by
 refine ⟨λq=>?_,λq=>?_,cA R.hp ha,o,e,h1,h3⟩
 ·obtain ⟨o',e'⟩:=R.hp.there q;exact bc ha e'
 ·obtain ⟨_,_,o',e',_⟩:=R.w a q;exact bc ha e'
theorem gh (hc:o.cls=.type T)(hT:T≠"tuple"):¬ jp o:=λh=>by
 unfold jp at h;rw [hc] at h;have hs:∀d,jH (.type T) d=aT->T="tuple":=λd h=>by
  cases d with
  | seq=>exact eq_of_beq h
  | _=>exact ff h
 exact hT (hs _ h)
theorem dE (e:h.get? a=J o)(hc:o.cls=.type T)(hT:T≠"tuple")(hF:¬ IsD o):∀b∈[a],Shp h b:=by
 intro b hb;have:b=a:=by exact iD.mp hb
 subst this;exact ⟨o,e,gh hc hT,hF⟩
noncomputable def FR (it l:KO)(r:Nat):Nat->List KO->Kv->Prop:=λi ρ s=>s.heap.IsListIter it l i/\ρ[r]?=J l
theorem jc (hs:K8 a s.heap h'):hZ [a] s { s with heap:=h',toks:=t }:=⟨λb o hb e=>(hs.2 b (by exact λq=>hb (iD.mpr q))).trans e,rfl,rfl⟩
theorem j7 (hs:Ow a s.heap h'):hZ [a] s { s with heap:=h',toks:=t }:=⟨λb o hb e=>hs b o (by exact λq=>hb (iD.mpr q)) e,rfl,rfl⟩
noncomputable def bC (e:KY):Bool:=(fF e).isSome||(tj e).isSome
theorem fH (ht:bC target=aT)(e:s.heap.get? it=J o)(hc:o.cls=.type T)
  (hT:(["enumerate","zip","dict_itemiterator","dict_reverseitemiterator","odict_iterator","itertools.zip_longest","itertools.pairwise"].contains T)=Z) (h:P () s):BY (mod C) A (letOwnedTupleGo target (.ref it) v) P E s:=by
 unfold bC at ht;rw [O0,K6,K6] at ht
 rcases ht with ⟨x,hx⟩ | ⟨xs,hx⟩
 ·obtain ⟨p,rfl⟩:=cZ hx;exact Do h
 ·obtain ⟨k,p,rfl⟩:=j0 hx;unfold letOwnedTupleGo
  cases v with
  | ref a=>
   refine iS (wpAny_load e ?_);rw [hc]
   cases o.data with
   | fields vs=>
    simp only [hT,Bool.false_and,Bool.false_eq_true,if_false];exact Do h
   | _=>exact Do h
  | _=>exact Do h
theorem wY (hn:A.handled=bY)(ht:bC target=aT):qh C A target (.ref it) xs (J (r,.list xs)) [it] [] (FR it l r) where
 shape:=λi ρ s h=>by obtain ⟨⟨o,e,hc,hd⟩,_⟩:=h;exact dE e hc (by decide) (λ⟨_,_,q⟩=>by rw [hd] at q;cases q)
 keep:=λi ρ ρ' s s' h hp hs k=>by
  obtain ⟨⟨o,e,r1,r2⟩,e2⟩:=h;exact ⟨⟨o,k it (by exact iD.mpr rfl) o e,r1,r2⟩,iY hp e2⟩
 item:=λi ρ hp s x R hg h hx E N P k=>by
  refine e02 h λhit e2=>?_;obtain ⟨items,c,gi,rl,z⟩:=R.objs _ _ _ hg e2;refine e12 (rl.get hx) λv hv rv=>?_;have sh:∀a∈[it],Shp s.heap a:=by obtain ⟨o,e,hc,hd⟩:=id hit;exact dE e hc (by decide) (λ⟨_,_,q⟩=>by rw [hd] at q;cases q)
  refine wpAny_pyNext_list_item hit ⟨_,gi,rfl,_,rfl⟩ (by exact (Lj ..).trans hv) λh' hit' hs=>?_;have sd:=jc (t:=s.toks) hs;refine e13 hit' λo eo hc hd=>?_;refine fH ht (s:={ s with heap:=h' }) eo hc (by decide) (k v _ sd ⟨hit',e2⟩ (rv.up (fe sh sd) (Kw _)))
 done:=λi ρ hp s R hg h hx E P k=>by
  refine e02 h λhit e2=>?_;obtain ⟨items,c,gi,rl,z⟩:=R.objs _ _ _ hg e2;refine wpAny_pyNext_list_end hn hit ⟨_,gi,rfl,_,rfl⟩ (i:=i) ?_ λh' he=>⟨rfl,k _ (j7 (t:=s.toks) he)⟩
  rw [Lr] at hx;simp [rl.length,hx]
 self:=λi ρ s h E P hp=>wpAny_pyIter_listiter h.1 hp
noncomputable def IQ (C:Glo)(it t:KO)(xs:List MV):Nat->List KO->Kv->Prop:=
 λi ρ s=>s.heap.IsTupleIter it t i/\∃items n,s.heap.get? t=J (pX items n)/\aL C ρ s.heap xs items
theorem yX (hn:A.handled=bY)(ht:bC target=aT):qh C A target (.ref it) xs bY [it] [] (IQ C it t xs) where
 shape:=λi ρ s h=>by obtain ⟨⟨o,e,hc,hd⟩,_⟩:=h;exact dE e hc (by decide) (λ⟨_,_,q⟩=>by rw [hd] at q;cases q)
 keep:=λi ρ ρ' s s' h hp hs k=>by
  obtain ⟨⟨o,e,r1,r2⟩,items,n,e2,rl⟩:=h;exact ⟨⟨o,k it (by exact iD.mpr rfl) o e,r1,r2⟩,items,n,hs _ _ e2 iW,rl.up hs hp⟩
 item:=λi ρ hp s x R hg h hx E N P k=>by
  obtain ⟨hit,items,n,e2,rl⟩:=h;refine e12 (rl.get hx) λv hv rv=>?_;have sh:∀a∈[it],Shp s.heap a:=by obtain ⟨o,e,hc,hd⟩:=id hit;exact dE e hc (by decide) (λ⟨_,_,q⟩=>by rw [hd] at q;cases q)
  refine wpAny_pyNext_tuple_item hit ⟨_,e2,rfl,_,rfl⟩ (by exact (Lj ..).trans hv) λh' hit' hs=>?_;have sd:=jc (t:=s.toks) hs;have hsol:=fe sh sd;refine e13 hit' λo eo hc hd=>?_;refine fH ht (s:={ s with heap:=h' }) eo hc (by decide) (k v _ sd ⟨hit',items,n,hsol _ _ e2 iW,rl.up hsol (Kw _)⟩ (rv.up hsol (Kw _)))
 done:=λi ρ hp s R hg h hx E P k=>by
  obtain ⟨hit,items,n,e2,rl⟩:=h;refine wpAny_pyNext_tuple_end hn hit ⟨_,e2,rfl,_,rfl⟩ (i:=i) ?_ λh' he=>⟨rfl,k _ (j7 (t:=s.toks) he)⟩
  rw [Lr] at hx;simp [rl.length,hx]
 self:=λi ρ s h E P hp=>wpAny_pyIter_tupleiter h.1 hp
noncomputable def Cd (it:KO)(a:Int)(k:Nat):Nat->List KO->Kv->Prop:=λi ρ s=>IsRangeIter s.heap it (a+i) ((k:Int)-i) 1
theorem tx (hn:A.handled=bY)(ht:bC target=aT):qh C A target (.ref it) ((LH k).map (λ(i:Nat)=>.int (a+i))) bY [it] [] (Cd it a k) where
 shape:=λi ρ s h=>dE h rfl (by decide) (λ⟨_,_,q⟩=>by cases q)
 keep:=λi ρ ρ' s s' h hp hs k=>k it (by exact iD.mpr rfl) _ h
 item:=λi ρ hp s x R hg hit hx E N P kk=>by
  simp only [ID,EQ] at hx;obtain ⟨j,hj,rfl⟩:=hx;obtain ⟨hlt,hj⟩:=iN.mp hj;simp at hj hlt;subst hj;refine wpAny_pyNext_range_item hit (by lia) λh' hit' hs=>?_;have sd:=jc (t:=s.toks+1) hs;have hit'':IsRangeIter h' it (a+((i+1:Nat):Int)) ((k:Int)-((i+1:Nat):Int)) 1:=by
   have e1:a+((i+1:Nat):Int)=a+i+1:=by lia
   have e2:(k:Int)-((i+1:Nat):Int)=k-i-1:=by lia
   rw [e1,e2];exact hit'
  exact fH ht (s:={ s with heap:=h',toks:=s.toks+1 }) hit' rfl (by decide) (kk _ _ sd hit'' (.int _ _))
 done:=λi ρ hp s R hg hit hx E P kk=>by
  have hit:IsRangeIter s.heap it (a+i) ((k:Int)-i) 1:=hit;rw [Lr] at hx;simp at hx;exact wpAny_pyNext_range_end hn hit (by lia) λh' he=>⟨rfl,kk _ (j7 (t:=s.toks) he)⟩
 self:=λi ρ s h E P hp=>wpAny_pyIter_rangeiter h hp
noncomputable def FS (e it l:KO)(r:Nat):Nat->List KO->Kv->Prop:=
 λi ρ s=>(∃old,IsEnum s.heap e it i old)/\s.heap.IsListIter it l i/\ρ[r]?=J l
theorem qi (h1:IsEnum h' e it j old)(h2:h'.IsListIter it l i):∀a∈[e,it],Shp h' a:=by
 intro a ha;have:a=e\/a=it:=by simpa using ha
 rcases this with rfl | rfl
 ·exact dE h1 rfl (by decide) (λ⟨_,_,q⟩=>by cases q) a (by exact iD.mpr rfl)
 ·refine e13 h2 λo e1 e2 e3=>?_;exact dE e1 e2 (by decide) (λ⟨_,_,q⟩=>by rw [e3] at q;cases q) a (by exact iD.mpr rfl)
theorem wZ (hn:A.handled=bY){x1}(hne:e≠it):qh C A (.Tuple elts x1 pos) (.ref e) (xs.zipIdx.map (λp=>.tup [.int p.2,p.1])) (J (r,.list xs)) [e,it] [] (FS e it l r) where
 shape:=λi ρ s h=>by obtain ⟨⟨old,h1⟩,h2,_⟩:=h;exact qi h1 h2
 keep:=λi ρ ρ' s s' h hp hs k=>by
  obtain ⟨⟨old,h1⟩,⟨o,e',r1,r2⟩,e2⟩:=h;exact ⟨⟨old,k e (by exact IS ..) _ h1⟩,⟨o,k it (by exact IN _ (IS ..)) o e',r1,r2⟩,iY hp e2⟩
 item:=λi ρ hp s x R hg h hx E N P kk=>by
  obtain ⟨⟨old,h1⟩,hit,e2⟩:=h;have sh:=qi h1 hit;obtain ⟨items,c,gi,rl,z⟩:=R.objs _ _ _ hg e2;simp only [ID,EQ] at hx;obtain ⟨⟨y,j⟩,hj,rfl⟩:=hx;rw [List.getElem?_zipIdx] at hj;simp only [EQ,L5] at hj;obtain ⟨y',hy,hj⟩:=hj
  cases hj
  refine e12 (rl.get hy) λv hv rv=>?_;refine wpAny_pyNext_enum_item h1 hit ⟨_,gi,rfl,_,rfl⟩ (by exact (Lj ..).trans hv) hne λh' he hit' ht hsz hk=>?_;refine wpAny_letOwnedTupleGo_enum (s:={ s with heap:=h',toks:=s.toks+1 }) he λh2 he2 hs2=>?_;have hlt:s.heap.objs.size≠e:=λq=>absurd (Ln h1) (by rw [<-q];exact Nt _);have ht2:h2.get? s.heap.objs.size=J (pX [.int i s.toks,v] 0):=(hs2.2 _ hlt).trans ht;have hit2:h2.IsListIter it l (i+1):=by
   refine e12 hit' λo e1 r=>?_;exact ⟨o,(hs2.2 it (λq=>hne q.symm)).trans e1,r⟩
  have sd:hZ [e,it] s { s with heap:=h2,toks:=s.toks+1 }:=⟨λb o hb eb=>by
   simp at hb;exact (hs2.2 b hb.1).trans (hk b o hb.1 hb.2 eb),rfl,rfl⟩
  refine kk _ _ sd ⟨⟨v,?_⟩,hit2,e2⟩ (.tup ht2 (.cons (.int _ _) (.cons (rv.up (fe sh sd) (Kw _)) .nil)) (by unfold line;simp));have:(((i+1:Nat)):Int)=(i:Int)+1:=rfl;rw [this];exact he2
 done:=λi ρ hp s R hg h hx E P kk=>by
  obtain ⟨⟨old,h1⟩,hit,e2⟩:=h;obtain ⟨items,c,gi,rl,z⟩:=R.objs _ _ _ hg e2;rw [Lr] at hx;simp at hx;refine wpAny_pyNext_enum_end hn h1 hit ⟨_,gi,rfl,_,rfl⟩ (by simp [rl.length,hx]) λh' he=>⟨rfl,kk _ ⟨λb o hb eb=>he b o (by simp at hb;exact hb.2) eb,rfl,rfl⟩⟩
 self:=λi ρ s h E P hp=>by obtain ⟨⟨old,h1⟩,_⟩:=h;exact wpAny_pyIter_enum h1 hp
noncomputable def IR (it:KO)(x:List Nat)(t:Tok):Nat->List KO->Kv->Prop:=λi ρ s=>s.heap.IsStrIter it "str_ascii_iterator" (str x) t i
theorem yY (hn:A.handled=bY)(ht:bC target=aT):qh C A target (.ref it) (x.map (λc=>.str [c])) bY [it] [] (IR it x t) where
 shape:=λi ρ s h=>by obtain ⟨o,e,hc,hd⟩:=h;exact dE e hc (by decide) (λ⟨_,_,q⟩=>by rw [hd] at q;cases q)
 keep:=λi ρ ρ' s s' h hp hs k=>by
  refine e12 h λo e r=>?_;exact ⟨o,k it (by exact iD.mpr rfl) _ e,r⟩
 item:=λi ρ hp s y R hg hit hx E N P kk=>by
  simp only [ID,EQ] at hx;obtain ⟨j,hj,rfl⟩:=hx;refine wpAny_pyNext_ascii_item hit (c:=j) (by exact (Lj ..).trans hj) λh' hit' hs=>?_;have sd:=jc (t:=s.toks+1) hs;refine e13 hit' λo eo hc hd=>?_;exact fH ht (s:={ s with heap:=h',toks:=s.toks+1 }) eo hc (by decide) (kk _ _ sd hit' (.str [j] _ (by unfold line;simp)))
 done:=λi ρ hp s R hg hit hx E P kk=>by
  rw [Lr] at hx;simp at hx;exact wpAny_pyNext_ascii_end hn hit (by simp [hx]) λh' he=>⟨rfl,kk _ (j7 (t:=s.toks) he)⟩
 self:=λi ρ s h E P hp=>wpAny_pyIter_striter_ascii h hp
end
noncomputable def SV (C:Glo)(X:XM)(n:Nat)(c:Cx)(F:Fm)(me:ME):Prop:=
 ∀(e:KY),aX c me e=aT->∀(Q:PQ) (m:MS),wpE (Call C) n me Q X m->WPv C F X (eval e F.env) Q m
section
theorem lT (h:oU c t many e=aT):bC e=aT:=by
 unfold bC
 cases many with
 | false=>obtain ⟨x,hx,_⟩:=ah h;rw [hx];rfl
 | true=>obtain ⟨x,hx,_⟩:=ah h;rw [hx];exact Bool.or_true _
theorem jd (h:oU c t aT e=aT):∃elts k p,e=.Tuple elts k p/\fc c t elts=aT:=by
 refine e12 (ah h) λelts hx h=>?_;refine e21 (j0 hx) λk p e=>?_;exact ⟨elts,k,p,e,h⟩
theorem rA (h:oU c t Z e=aT):∃i x p,t=[i]/\e=.Name x p/\c.nm i=J x/\pb c x=aT:=by
 refine e12 (ah h) λx hx h=>?_;refine e12 (ah h) λi hi h=>?_;obtain ⟨p,e⟩:=cZ hx;rw [IT,beq_iff_eq] at h;exact ⟨i,x,p,cU hi,e,h.1,h.2⟩
inductive oV (kd:Bool)(C:Glo)(F:Fm)(target:KY)(ρ:List KO)(s:Kv)(P:List MV->Gd->MS->Prop)(itv:DO)(s₂:Kv):Prop
 | mk (ρ₂:List KO) (m₂:MS) (items:List MV) (g:Gd) (S U:List KO) (It:Nat->List KO->Kv->Prop) (st:aB F.W ρ s ρ₂ s₂) (R:Rel C F ρ₂ m₂ s₂) (wk:qh C F.A target itv items g S U It) (h0:It 0 ρ₂ s₂) (as:dS C F ρ₂ s₂.heap S) (hS:∀a∈S,s.heap.get? a=bY) (hl:items.length<=line) (hp:P items g m₂) (hU:kd=Z->U=[]) (hUr:∀a∈U,a∈ρ₂):oV kd C F target ρ s P itv s₂
theorem d5 (st:aB W ρ s ρ' s')(h:s'.heap.get? a=bY):s.heap.get? a=bY:=by
 cases e:s.heap.get? a with
 | none=>rfl
 | some o=>obtain ⟨o',e'⟩:=st.alive a o e;exact bc h e'
theorem Ce (cx:aC C c F n)(R:Rel C F ρ m s)(st₀:aB F.W ρ₀ s₀ ρ s)
  (hc:o.cls=.type T) (hT:T≠"tuple") (hF:¬ IsD o) (hf:o.isFreed=Z) (wk:qh C F.A target (.ref s.heap.objs.size) items g [s.heap.objs.size] U It) (h0:∀s₂:Kv,s₂.heap=s.heap.push o->It 0 ρ s₂) (hl:items.length<=line) (hp:P items g m) (hU:kd=Z->U=[]:=by exact λ_=>rfl) (hUr:∀a∈U,a∈ρ:=by exact λ_ h=>aO h) :
  oV kd C F target ρ₀ s₀ P (.ref s.heap.objs.size) { s with heap:=s.heap.push o,toks:=tk }:=by
 have hk:∀q ob,s.heap.get? q=J ob->(s.heap.push o).get? q=J ob:=λq ob e=>Kt _ e;refine e02 (R.grow (s':={ s with heap:=s.heap.push o,toks:=tk }) cx.fm hk rfl rfl) λR' st=>?_;have hnew:s.heap.get? s.heap.objs.size=bY:=bZ (oF _);refine ⟨ρ,m,items,g,_,U,It,st₀.trans st,R',wk,h0 _ rfl,?_,λq hq=>?_,hl,hp,hU,hUr⟩
 ·intro q hq;have:q=s.heap.objs.size:=by exact iD.mp hq
  subst this;exact pc R hnew (KM _ hf) (gh hc hT) hF
 ·have:q=s.heap.objs.size:=by exact iD.mp hq
  subst this;exact d5 st₀ hnew
theorem yZ (cx:aC C c F n)(hnh:c.nh=aT)(R:Rel C F ρ m s)(st₀:aB F.W ρ₀ s₀ ρ s)(ht:bC target=aT)(hr:IsRange s.heap r a b 1 t u v)
  (h1:-16777216<=a) (h2:a<=16777216) (h3:-16777216<=b) (h4:b<=16777216) (h5:(b-a).toNat<=line) (h:P ((LH (b-a).toNat).map (λ(i:Nat)=>.int (a+i))) bY m) :
  BY (mod C) A (pyIter (.ref r)) (oV kd C F target ρ₀ s₀ P) E s:=by
 refine wpAny_pyIter_range hr (small_one (by lia) (by lia) (by lia) (by lia)) ?_;refine Ce cx R st₀ (T:="range_iterator") rfl (by decide) (λ⟨_,_,q⟩=>by cases q) rfl (tx (a:=a) (k:=(b-a).toNat) (cx.hn hnh) ht) (λs₂ e=>?_) (by simpa using h5) h;have e1:a+((0:Nat):Int)=a:=Ni a;have e2:(((b-a).toNat:Nat):Int)-((0:Nat):Int)=Builtin.Range.rangeSize a b 1:=by
  rw [rangeSize_one];split
  ·rw [Nn (Int.sub_nonneg_of_le (Mx ‹_›))];exact Int.sub_zero _
  ·rw [Int.toNat_eq_zero.mpr (Int.sub_nonpos_of_le (MX.mp ‹_›))];rfl
 show IsRangeIter _ _ _ _ _;rw [e1,e2,e];exact KM _ rfl
theorem bf (h:bq c (e::es) (x::xs)=aT):(okX x=aT/\aX c e x=aT)/\bq c es xs=aT:=by
 have h:(okX x&&aX c e x&&bq c es xs)=aT:=h
 rwa [IT,IT] at h
theorem y0 (h:bq c src [y]=aT):∃a,src=[a]/\okX y=aT/\aX c a y=aT:=by
 cases src with
 | nil=>exact ff h
 | cons a r=>
  have h:=bf h
  cases r with
  | nil=>exact ⟨a,rfl,h.1⟩
  | cons=>cases h.2
theorem qj (G:GOk C)(cx:aC C c F n):∀{es:List ME},(∀a∈es,SV C X n c F a)->∀(xs:List KY),bq c es xs=aT->∀(Q:List MV->MS->Prop) (m:MS),jm (Call C) n es Q X m->∀pos,WPl C F X es.length (spliced (backTo pos (starEach xs F.env))) Q m
 | [],ih,xs,hc,Q,m,h,pos=>by
  cases xs with
  | nil=>intro s ρ R;exact wpAny_items_nil ⟨_,_,_,.refl _ _ _,R,.nil,rfl,h⟩
  | cons=>exact ff hc
 | e::es,ih,xs,hc,Q,m,h,pos=>by
  cases xs with
  | nil=>exact ff hc
  | cons x xs=>
   obtain ⟨⟨hx,he⟩,hes⟩:=bf hc;intro s ρ R;refine OM ((ih e (by exact IS ..) x he _ m h).go R (.refl _ _ _) λρ₁ s₁ m₁ x v st t1 R₁ rx h₁=>?_) (bB hx _ _);refine (qj G cx (λa ha=>ih a (IN _ ha)) xs hes _ m₁ h₁ pos).go R₁ t1 λρ₂ s₂ m₂ ys vs st2 t2 R₂ rl el h₂=>?_;exact ⟨_,_,_,t2,R₂,.cons (rx.step st2) rl,by simp [el],h₂⟩
theorem je (h:bq c es xs=aT)(hn:xs.isEmpty=Z)(pos:Pos)(env:Env):backTo pos (starEach xs env)≠[]:=by
 cases xs with
 | nil=>exact tf hn
 | cons x xs=>
  cases es with
  | nil=>exact ff h
  | cons e es=>
   rw [bB (bf h).1.1];exact KX _ _
theorem pd {hp:List MO}{r:Nat}{f:List MV->Its}{q:List MV × Gd}(h:(match hp[r]? with
  | some (.list xs)=>f xs
  | _=>bY)=J q):∃xs,hp[r]?=J (.list xs)/\f xs=J q:=by
 cases e:hp[r]? with
 | none=>rw [e] at h;exact aJ h
 | some o=>
  rw [e] at h
  cases o with
  | list xs=>exact ⟨xs,rfl,h⟩
  | _=>exact aJ h
theorem pe (h:(match b with
  | true=>J x
  | false=>bY)=J y):b=aT/\x=y:=by
 cases b with
 | true=>exact ⟨rfl,By h⟩
 | false=>exact aJ h
theorem y5 {kd:Bool}(cx:aC C c F n)(hnh:c.nh=aT)(R:Rel C F ρ m s)(st₀:aB F.W ρ₀ s₀ ρ s){target:KY}(ht:bC target=aT){x:MV}{v:DO}(rx:Rep C ρ s.heap x v){items:List MV}{g:Gd}(hi:Eh m.heap x=J (items,g))
  {P:List MV->Gd->MS->Prop}(h:P items g m):BY (mod C) A (pyIter v) (oV kd C F target ρ₀ s₀ P) E s:=by
 have noD:∀{o:OO} {vs:Array DO},o.data=.fields vs->¬ IsD o:=λe ⟨_,_,q⟩=>nomatch e.symm.trans q;refine Kz λhn=>?_
 cases x with
 | ref r=>
  obtain ⟨la,rfl,gr⟩:=rx.inv;refine e12 (pd (r:=r) (f:=λxs=>J (xs,J (r,.list xs))) hi) λxs hj e=>?_
  cases e
  obtain ⟨items,n',gi,rl,z⟩:=R.hp.objs _ _ _ hj gr;refine hn (Ov ⟨_,gi,rfl,_,rfl⟩ ?_);exact Ce cx R st₀ (T:="list_iterator") rfl (by decide) (noD rfl) rfl (wY (cx.hn hnh) ht) (λs₂ e=>⟨⟨_,by rw [e];exact KM _ rfl,rfl,rfl⟩,gr⟩) z h
 | tup xs=>
  obtain ⟨ta,k,its,rfl,gi,rl,z⟩:=rx.inv
  cases hi
  refine hn (wpAny_pyIter_tuple ⟨_,gi,rfl,_,rfl⟩ ?_);have hk:∀q ob,s.heap.get? q=J ob->(s.heap.push { cls:=.type "tuple_iterator",data:=.fields #[.ref ta,.int 0 0] }).get? q=J ob:=λq o e=>Kt _ e;exact Ce cx R st₀ (T:="tuple_iterator") rfl (by decide) (noD rfl) rfl (yX (cx.hn hnh) ht) (λs₂ e=>⟨⟨_,by rw [e];exact KM _ rfl,rfl,rfl⟩,_,_,by rw [e];exact hk _ _ gi,by rw [e];exact rl.up (λa o e _=>hk a o e) (Kw _)⟩) z h
 | str y=>
  obtain ⟨u,rfl,z⟩:=rx.inv;refine e02 (pe hi) λha e=>?_
  cases e
  refine hn (wpAny_pyIter_ascii (by rw [<-ha];simp) ?_);exact Ce cx R st₀ (T:="str_ascii_iterator") rfl (by decide) (noD rfl) rfl (yY (cx.hn hnh) ht) (λs₂ e=>⟨_,by rw [e];exact KM _ rfl,rfl,rfl⟩) (by rw [iF];exact z) h
 | _=>exact aJ hi
noncomputable def tz:IK->DO
 | .enum=>.type "enumerate"
 | _=>.type "range"
theorem y6 (h:Fa x=J q):∃i,x=.int i:=by
 cases x with
 | int i=>exact ⟨i,rfl⟩
 | _=>exact aJ h
theorem Cf (cx:aC C c F n)(hnh:c.nh=aT)(R:Rel C F ρ m s)(st₀:aB F.W ρ₀ s₀ ρ s)(ht:bC target=aT)(rx:Rep C ρ s.heap x v)(hi:Fa x=J (items,g))
  (h:P items g m):BY (mod C) A (call (.type "range") [v]) (λxv s₁=>BY (mod C) A (pyIter xv) (oV kd C F target ρ₀ s₀ P) E s₁) E s:=by
 obtain ⟨i,rfl⟩:=y6 hi;obtain ⟨t,rfl⟩:=rx.inv;obtain ⟨hd,e⟩:=pe hi
 cases e
 have hd:=of_decide_eq_true hd;refine call_range_1 ?_;have hk:∀q o,s.heap.get? q=J o->(s.heap.push { cls:=.type "range",data:=.fields #[.int 0 s.toks,.int i t,.int 1 (s.toks+1)] }).get? q=J o:=λq o e=>Kt _ e;obtain ⟨R',st'⟩:=R.grow (s':={ s with heap:=s.heap.push { cls:=.type "range",data:=.fields #[.int 0 s.toks,.int i t,.int 1 (s.toks+1)] },toks:=s.toks+1+1 }) cx.fm hk rfl rfl;refine yZ cx hnh R' (st₀.trans st') ht (IsRange.new _ _ _ _ _ _ _) (by decide) (by decide) hd.1 hd.2 (by unfold line;lia) ?_
 simpa using h
theorem tC (h:sY hp x=J q):∃i,x=.ref i:=by
 cases x with
 | ref i=>exact ⟨i,rfl⟩
 | _=>exact aJ h
theorem w9 {kd:Bool}(cx:aC C c F n)(hnh:c.nh=aT)(R:Rel C F ρ m s)(st₀:aB F.W ρ₀ s₀ ρ s){elts:List KY}{k':Nat}{p':Pos}{x:MV}{v:DO}(rx:Rep C ρ s.heap x v){items:List MV}{g:Gd}(hi:sY m.heap x=J (items,g))
  {P:List MV->Gd->MS->Prop}(h:P items g m):BY (mod C) A (call (.type "enumerate") [v]) (λxv s₁=>BY (mod C) A (pyIter xv) (oV kd C F (.Tuple elts k' p') ρ₀ s₀ P) E s₁) E s:=by
 have hnew:s.heap.get? s.heap.objs.size=bY:=bZ (oF _);have hnew':s.heap.get? (s.heap.objs.size+1)=bY:=bZ (Ma _);obtain ⟨r,rfl⟩:=tC hi;obtain ⟨la,rfl,gr⟩:=rx.inv;refine e12 (pd (r:=r) (f:=λxs=>J (xs.zipIdx.map (λ(p:MV × Nat)=>.tup [.int p.2,p.1]),J (r,.list xs))) hi) λxs hj e=>?_
 cases e
 obtain ⟨items,n',gi,rl,z⟩:=R.hp.objs _ _ _ hj gr;refine call_enumerate_1 gi λh' he hit hsz hk=>?_;refine e02 (R.grow (s':={ s with heap:=h' }) cx.fm hk rfl rfl) λR' st'=>?_;refine wpAny_pyIter_enum he ?_;have hne:s.heap.objs.size+1≠s.heap.objs.size:=MN _;have hmem:∀q∈[s.heap.objs.size+1,s.heap.objs.size],s.heap.get? q=bY:=λq hq=>by
  rcases IF.mp hq with rfl | hq
  ·exact hnew'
  ·rw [iD.mp hq];exact hnew
 refine ⟨ρ,m,_,_,_,[],_,st₀.trans st',R',wZ (e:=s.heap.objs.size+1) (it:=s.heap.objs.size) (cx.hn hnh) hne,⟨⟨_,he⟩,hit,gr⟩,λq hq=>?_,λq hq=>d5 st₀ (hmem q hq),by rw [iF,List.length_zipIdx];exact z,h,λ_=>rfl,λ_ h=>aO h⟩;refine e13 (qi he hit q hq) λo e1 e2 e3=>?_;exact pc R (hmem q hq) e1 e2 e3
end
section
theorem Cg (cx:aC C c F n)(hnh:c.nh=aT)(R:Rel C F ρ m s)(st₀:aB F.W ρ₀ s₀ ρ s)(ht:bC target=aT)(rx:Rep C ρ s.heap x v)(ry:Rep C ρ s.heap y w)(hi:H0 x y=J (items,g))
  (h:P items g m):BY (mod C) A (call (.type "range") [v,w]) (λxv s₁=>BY (mod C) A (pyIter xv) (oV kd C F target ρ₀ s₀ P) E s₁) E s:=by
 exact aJ hi
end
section
theorem xb (G:GOk C)(cx:aC C c F n)(hnh:c.nh=aT)(R:Rel C F ρ m s)(st₀:aB F.W ρ₀ s₀ ρ s)(ht:bC target=aT)(rx:Rep C ρ s.heap x v)(hi:dz .keys [x] m.heap=J (items,g))
  (h:P items g m):BY (mod C) A (pyIter v) (oV aT C F target ρ₀ s₀ P) E s:=aJ hi
end
section
theorem xc (cx:aC C c F n)(hnh:c.nh=aT)(R:Rel C F ρ m s)(st₀:aB F.W ρ₀ s₀ ρ s)(hk:u1 k=Z)(ht:bC target=aT)(hm:nG k=aT->∃elts k p,target=.Tuple elts k p/\True)(rl:aL C ρ s.heap xs vs)
  (hi:dz k xs m.heap=J (items,g)) (h:P items g m):BY (mod C) A (call (tz k) vs) (λxv s₁=>BY (mod C) A (pyIter xv) (oV kd C F target ρ₀ s₀ P) E s₁) E s:=by
 refine Kz λhn=>?_
 rcases xs with _ | ⟨x,_ | ⟨y,_ | ⟨z,r⟩⟩⟩
 ·exact aJ hi
 ·obtain ⟨v,rfl,rx⟩:=rl.one
  cases k with
  | val=>exact tf hk
  | range1=>exact hn (Cf cx hnh R st₀ ht rx hi h)
  | range2=>exact aJ hi
  | enum=>obtain ⟨_,_,_,rfl,_⟩:=hm rfl;exact hn (w9 cx hnh R st₀ rx hi h)
  | keys=>exact tf hk
 ·obtain ⟨v,w,rfl,rx,ry⟩:=rl.two
  cases k with
  | range2=>exact hn (Cg cx hnh R st₀ ht rx ry hi h)
  | _=>exact aJ hi
 ·exact aJ hi
theorem FT (hk:u1 k=Z):(yS k,tz k)∈c0:=by
 cases k with
 | val=>exact tf hk
 | range1=>exact bu 8 rfl
 | range2=>exact bu 8 rfl
 | enum=>exact bu 9 rfl
 | keys=>exact tf hk
theorem Ci (k:IK):∃T,tz k=.type T:=by
 cases k<;>exact ⟨_,rfl⟩
set_option tactic.hygienic true in
theorem u2 (G:GOk C)(cx:aC C c F n)(hnh:c.nh=aT)(hsrc:∀a∈src,SV C X n c F a)(hxs:nF c k e=J xs)(hc:bq c src xs=aT)(htt:bC target=aT)
  (hm:nG k=aT->∃elts k p,target=.Tuple elts k p/\True)
  (h:jm (Call C) n src (λvs m=>wC (dz k vs m.heap) λitems g=>P items g m) X m) (R:Rel C F ρ m s) :
  BY (mod C) F.A (eval e F.env) (λxv s₁=>BY (mod C) F.A (pyIter xv) (oV (nE k) C F target ρ s P) (Er C F X ρ s) s₁) (Er C F X ρ s) s:=by
 unfold nF at hxs
 cases hv:u1 k with
 | true=>
  rw [hv] at hxs;obtain rfl:=By hxs;obtain ⟨a,rfl,hx,hc⟩:=y0 hc;refine (hsrc a (.head _) e hc _ m h).go R (.refl _ _ _) λρ₁ s₁ m₁ x v st t1 R₁ rx h₁=>?_;refine e22 (qU h₁) λitems g hi hp=>?_
  cases k with
  | val=>exact y5 cx hnh R₁ t1 htt rx hi hp
  | keys=>exact xb G cx hnh R₁ t1 htt rx hi hp
  | _=>exact ff hv
 | false=>
  rw [hv] at hxs;obtain ⟨⟨x,ys,pos⟩,hx,hq⟩:=KV.mp hxs;obtain ⟨px,rfl⟩:=jI hx
  split at hq
  ·rename_i hg;obtain rfl:=By hq;simp only [IT,beq_iff_eq,Lh] at hg;obtain ⟨⟨hg,rfl⟩,hne⟩:=hg;refine LG rfl (dC cx R (FT hv) (aW hg).1 (aW hg).2 ?_);refine gc (.inr (Ci k)) (cF hc _ _) (je hc hne _ _) ?_;refine (qj G cx hsrc _ hc _ m h pos).go R (.refl _ _ _) λρ₁ s₁ m₁ xs vs st t1 R₁ rl el h₁=>?_;refine e22 (qU h₁) λitems g hi hp=>?_;exact xc cx hnh R₁ t1 hv htt hm rl hi hp
  ·exact aJ hq
end
section
set_option backward.match.sparseCases true
section
theorem gI (h:bX Q x m):∃b,x=.bool b/\Q b m:=by
 cases x with
 | bool b=>exact ⟨b,rfl,h⟩
 | _=>exact h.elim
theorem Cj {K:KT}{i:Nat}{Q:PQ}{m:MS}(h:wpE K n (.var i) Q X m):∃v,m.get i=J v/\Q v m:=by
 have h:(match m.get i with | some v=>Q v m | none=>False):=h
 cases hv:m.get i with
 | some v=>rw [hv] at h;exact ⟨v,rfl,h⟩
 | none=>rw [hv] at h;exact h.elim
theorem svO (G:GOk C)(cx:aC C c F n):∀{o:Option ME},(∀a,o=J a->SV C X n c F a)->∀(x:Option KY),FN c o x=aT->∀(Q:Option MV->MS->Prop) (m:MS),wpO (Call C) n o Q X m->∀(s:Kv) (ρ:List KO),Rel C F ρ m s->
  ∀(s₀:Kv) (ρ₀:List KO) (P:DO->Kv->Prop),aB F.W ρ₀ s₀ ρ s->(∀ρ₁ s₁ m₁ x v,aB F.W ρ s ρ₁ s₁->aB F.W ρ₀ s₀ ρ₁ s₁->Rel C F ρ₁ m₁ s₁->j4 C ρ₁ s₁.heap x v->Q x m₁->P v s₁)->
   BY (mod C) F.A (evalPart x F.env) P (Er C F X ρ₀ s₀) s
 | none,ih,x,hc,Q,m,h,s,ρ,R,s₀,ρ₀,P,st,k=>by
  cases x with
  | none=>rw [evalPart_none];exact Do (k ρ s m bY .none (.refl _ _ _) st R rfl h)
  | some=>exact ff hc
 | some e,ih,x,hc,Q,m,h,s,ρ,R,s₀,ρ₀,P,st,k=>by
  cases x with
  | some x=>
   rw [evalPart_some];exact (ih e rfl _ hc _ m h).go R st λρ₁ s₁ m₁ x v st1 t1 R₁ rx h₁=>k ρ₁ s₁ m₁ (J x) v st1 t1 R₁ rx h₁
  | none=>exact ff hc
theorem Eu (G:GOk C)(cx:aC C c F n):∀{es:List ME},(∀a∈es,SV C X n c F a)->∀(xs:List KY),bq c es xs=aT->∀(Q:PQ) (m:MS),uR (Call C) n es Q X m->∀pos,WPv C F X (boolOp pos .And (evalEach xs F.env)) Q m
 | [],ih,xs,hc,Q,m,h,pos=>h.elim
 | [e],ih,xs,hc,Q,m,h,pos=>by
  cases xs with
  | nil=>exact ff hc
  | cons x xs=>
   replace hc:=bf hc
   cases xs with
   | nil=>exact ih e (by simp) x hc.1.2 Q m h
   | cons=>cases hc.2
 | e::e'::es,ih,xs,hc,Q,m,h,pos=>by
  cases xs with
  | nil=>exact ff hc
  | cons x xs=>
   replace hc:=bf hc
   cases xs with
   | nil=>cases hc.2
   | cons x' xs=>
    intro s ρ R;show BY (mod C) F.A (do let v <-eval x F.env;standAt pos;let t <-holding [v] (truthy v);match BoolOp.And,t with | .And,Z | .Or,aT=>pure v | _,_=>boolOp pos .And (evalEach (x'::xs) F.env)) _ _ s;refine iS ((ih e (by simp) x hc.1.2 _ m h).go R (.refl _ _ _) λρ₁ s₁ m₁ y v st t1 R₁ rx h₁=>?_);obtain ⟨b,rfl,h₁⟩:=gI h₁
    ·obtain rfl:=rx.inv;refine iS (Mr (iS (K4 (LJ ?_))))
     cases b with
     | true=>exact Kq (Eu G cx (λa ha=>ih a (IN _ ha)) (x'::xs) hc.2 Q m₁ h₁ pos s₁ ρ₁ R₁) (Out.back t1) (Er.back t1)
     | false=>exact Do (Out.back t1 _ _ (cR R₁ (.bool _) h₁))
theorem IU (G:GOk C)(cx:aC C c F n):∀{es:List ME},(∀a∈es,SV C X n c F a)->∀(xs:List KY),bq c es xs=aT->∀(Q:PQ) (m:MS),BG (Call C) n es Q X m->∀pos,WPv C F X (boolOp pos .Or (evalEach xs F.env)) Q m
 | [],ih,xs,hc,Q,m,h,pos=>h.elim
 | [e],ih,xs,hc,Q,m,h,pos=>by
  cases xs with
  | nil=>exact ff hc
  | cons x xs=>
   replace hc:=bf hc
   cases xs with
   | nil=>exact ih e (by simp) x hc.1.2 Q m h
   | cons=>cases hc.2
 | e::e'::es,ih,xs,hc,Q,m,h,pos=>by
  cases xs with
  | nil=>exact ff hc
  | cons x xs=>
   replace hc:=bf hc
   cases xs with
   | nil=>cases hc.2
   | cons x' xs=>
    intro s ρ R;show BY (mod C) F.A (do let v <-eval x F.env;standAt pos;let t <-holding [v] (truthy v);match BoolOp.Or,t with | .And,Z | .Or,aT=>pure v | _,_=>boolOp pos .Or (evalEach (x'::xs) F.env)) _ _ s;refine iS ((ih e (by simp) x hc.1.2 _ m h).go R (.refl _ _ _) λρ₁ s₁ m₁ y v st t1 R₁ rx h₁=>?_);obtain ⟨b,rfl,h₁⟩:=gI h₁
    ·obtain rfl:=rx.inv;refine iS (Mr (iS (K4 (LJ ?_))))
     cases b with
     | false=>exact Kq (IU G cx (λa ha=>ih a (IN _ ha)) (x'::xs) hc.2 Q m₁ h₁ pos s₁ ρ₁ R₁) (Out.back t1) (Er.back t1)
     | true=>exact Do (Out.back t1 _ _ (cR R₁ (.bool _) h₁))
theorem FU (G:GOk C)(cx:aC C c F n) :SV C X n c F (.cst v):=by
 intro e hc Q m h;replace hc:=ah hc;obtain ⟨k,hx,hc⟩:=hc;obtain ⟨_,_,rfl⟩:=lc hx;intro s ρ R;exact yW R cx.fm hc h
theorem FV (G:GOk C)(cx:aC C c F n){i:Nat} :SV C X n c F (.var i):=by
 intro e hc Q m h;replace hc:=ah hc;obtain ⟨x,hx,hc⟩:=hc;obtain ⟨_,rfl⟩:=cZ hx;simp only [IT,beq_iff_eq,Lh] at hc;refine e12 (Cj h) λv hv h=>?_;intro s ρ R;exact yG cx R hc.1 hv hc.2 h
theorem Ck (G:GOk C)(cx:aC C c F n) :SV C X n c F (.glob g v):=by
 intro e hc Q m h;replace hc:=ah hc;obtain ⟨x,hx,hc⟩:=hc;obtain ⟨_,rfl⟩:=cZ hx;simp only [IT] at hc;obtain ⟨h1,h2⟩:=hc;unfold IO at h2;replace h2:=ah h2;obtain ⟨⟨y,w⟩,hg,h2⟩:=h2;rw [IT] at h2;obtain ⟨h3,h4⟩:=h2;refine e12 (ah h4) λa ha h4=>?_
 cases eq_of_beq h3
 have e:v=w:=(rt (eq_of_beq h4)).trans (rt ha).symm;subst e;intro s ρ R;exact B1 cx R hg (aW h1).1 (aW h1).2 h
theorem FW (G:GOk C)(cx:aC C c F n)(ia:SV C X n c F a)(ib:SV C X n c F b):SV C X n c F (.bin op a b):=by
 intro e hc Q m h;replace hc:=ah hc;obtain ⟨⟨l,o,r⟩,hx,hc⟩:=hc;obtain ⟨p,rfl⟩:=BM hx;simp only [IT,beq_iff_eq] at hc;obtain ⟨⟨rfl,ha⟩,hb⟩:=hc;intro s ρ R;refine wpAny_BinOp ((ia l ha _ m h).go R (.refl _ _ _) λρ₁ s₁ m₁ x v st t1 R₁ rx h₁=>?_);refine (ib r hb _ m₁ h₁).go R₁ t1 λρ₂ s₂ m₂ y w st' t2 R₂ ry h₂=>?_;exact Kq (Fk R₂ cx.fm (rx.step st') ry h₂) (Out.back t2) λ_ _ x=>x
theorem FX (G:GOk C)(cx:aC C c F n)(ia:SV C X n c F a):SV C X n c F (.neg a):=by
 intro e hc Q m h;replace hc:=ah hc;obtain ⟨⟨o,x⟩,hx,hc⟩:=hc;obtain ⟨p,rfl⟩:=qa hx;simp only [IT,beq_iff_eq] at hc;obtain ⟨rfl,hc⟩:=hc;intro s ρ R;refine wpAny_UnaryOp ((ia _ hc _ m h).go R (.refl _ _ _) λρ₁ s₁ m₁ x v st t1 R₁ rx h₁=>?_);obtain ⟨i,rfl,h₁⟩:=pV h₁;obtain ⟨t,rfl⟩:=rx.inv;exact PyProof.Rows.neg_int (Out.back t1 _ _ (bP R₁ cx.fm (.int _ _) h₁))
theorem FY (G:GOk C)(cx:aC C c F n)(ia:SV C X n c F a):SV C X n c F (.not a):=by
 intro e hc Q m h;replace hc:=ah hc;obtain ⟨⟨o,x⟩,hx,hc⟩:=hc;obtain ⟨p,rfl⟩:=qa hx;simp only [IT,beq_iff_eq] at hc;obtain ⟨rfl,hc⟩:=hc;intro s ρ R;refine wpAny_UnaryOp ((ia _ hc _ m h).go R (.refl _ _ _) λρ₁ s₁ m₁ x v st t1 R₁ rx h₁=>?_);obtain ⟨b,rfl,h₁⟩:=gI h₁;obtain rfl:=rx.inv;exact not_value (LJ (Out.back t1 _ _ (cR R₁ (.bool _) h₁)))
theorem FZ (G:GOk C)(cx:aC C c F n)(ies:∀a∈es,SV C X n c F a):SV C X n c F (.and es):=by
 intro e hc Q m h;replace hc:=ah hc;obtain ⟨⟨o,xs⟩,hx,hc⟩:=hc;obtain ⟨p,rfl⟩:=jY hx;simp only [IT,beq_iff_eq] at hc;obtain ⟨rfl,hc⟩:=hc;exact Eu G cx ies _ hc Q m h _
theorem IV (G:GOk C)(cx:aC C c F n)(ies:∀a∈es,SV C X n c F a):SV C X n c F (.or es):=by
 intro e hc Q m h;replace hc:=ah hc;obtain ⟨⟨o,xs⟩,hx,hc⟩:=hc;obtain ⟨p,rfl⟩:=jY hx;simp only [IT,beq_iff_eq] at hc;obtain ⟨rfl,hc⟩:=hc;exact IU G cx ies _ hc Q m h _
theorem qk (G:GOk C)(cx:aC C c F n)(hA:A.units+1001<cLine)(R:Rel C F ρ m s)(t:aB F.W ρ₀ s₀ ρ s)(rx:Rep C ρ s.heap x v)(ry:Rep C ρ s.heap y w)(h:lN op x y P m)
  (k:∀b ρ' m' s',aB F.W ρ s ρ' s'->aB F.W ρ₀ s₀ ρ' s'->Rel C F ρ' m' s'->P b m'->Q (.bool b) s'):BY (mod C) A (compareOp (jr op) v w) Q E s:=
 Kq (Ft G R.hp rx ry hA h) (λv s' hv=>by
  obtain ⟨b,rfl,m',st,R',hq⟩:=yV R cx.fm hv;exact k b _ m' s' st (t.trans st) R' hq) λ_ _ x=>x
theorem pf (G:GOk C)(cx:aC C c F n)(ia:SV C X n c F a)(ib:SV C X n c F b)(ha:aX c a l=aT)(hb:aX c b r=aT)(R:Rel C F ρ m s)
  (h:wpE (Call C) n a (λx m=>wpE (Call C) n b (λy m=>lN op x y P m) X m) X m) (k:∀b ρ' m' s',aB F.W ρ s ρ' s'->Rel C F ρ' m' s'->P b m'->Q (.bool b) s') :
  BY (mod C) F.A (eval l F.env) (λv s₁=>BY (mod C) F.A (eval r F.env) (λw s₂=>BY (mod C) F.A (compareOp (jr op) v w) Q (Er C F X ρ s) s₂) (Er C F X ρ s) s₁) (Er C F X ρ s) s:=by
 refine (ia l ha _ m h).go R (.refl _ _ _) λρ₁ s₁ m₁ x v st t1 R₁ rx h₁=>?_;refine (ib r hb _ m₁ h₁).go R₁ t1 λρ₂ s₂ m₂ y w st' t2 R₂ ry h₂=>?_;exact qk G cx cx.u R₂ t2 (rx.step st') ry h₂ λb ρ' m' s' _ st R' hq=>k b ρ' m' s' st R' hq
theorem F0 (G:GOk C)(cx:aC C c F n)(ia:SV C X n c F a)(ib:SV C X n c F b):SV C X n c F (.cmp op a b):=by
 intro e hc Q m h;replace hc:=ah hc;obtain ⟨⟨l,os,rs⟩,hxx,hc⟩:=hc;replace hc:=ah hc;obtain ⟨o,ho,hc⟩:=hc;replace hc:=ah hc;obtain ⟨r,hr,hc⟩:=hc
 cases cU ho
 cases cU hr
 obtain ⟨p,rfl⟩:=jZ hxx;simp only [IT,beq_iff_eq] at hc;obtain ⟨⟨⟨rfl,hx⟩,ha⟩,hb⟩:=hc;intro s ρ R;exact wpAny_Compare1 (pf G cx ia ib ha hb R h λb ρ' m' s' st R' hq=>⟨_,_,_,st,R',.bool b,hq⟩) (i6 hx _)
theorem Cm (rx:Rep C ρ h x v):ye p x=(if p then (v==Nd) else !(v==Nd)):=by
 cases p with
 | true=>exact Rep.casesOn (motive_1:=λx v _=>ye aT x=(v==Nd)) rx rfl (λ_=>rfl) (λ_ _=>rfl) (λ_ _ _=>rfl) (λ_ _ _=>rfl) (λ_=>rfl) (λ_ _ _=>rfl) (λ_ _ _ _=>rfl) (λ_ _ _=>rfl) (λ_ _ _=>rfl)
 | false=>exact Rep.casesOn (motive_1:=λx v _=>ye Z x=!(v==Nd)) rx rfl (λ_=>rfl) (λ_ _=>rfl) (λ_ _ _=>rfl) (λ_ _ _=>rfl) (λ_=>rfl) (λ_ _ _=>rfl) (λ_ _ _ _=>rfl) (λ_ _ _=>rfl) (λ_ _ _=>rfl)
theorem rB (G:GOk C)(cx:aC C c F n){p:Bool}{a:ME}(ia:SV C X n c F a){l:KY}(ha:aX c a l=aT){P:Bool->MS->Prop}{m:MS}{s:Kv}{ρ:List KO}(R:Rel C F ρ m s)(h:wpE (Call C) n a (λx m=>P (ye p x) m) X m){Q:DO->Kv->Prop}
  (k:∀b ρ' m' s',aB F.W ρ s ρ' s'->Rel C F ρ' m' s'->P b m'->Q (.bool b) s') {j:Nat}{q:Pos} :
  BY (mod C) F.A (eval l F.env) (λv s₁=>BY (mod C) F.A (eval (.Constant .none j q) F.env) (λw s₂=>BY (mod C) F.A (compareOp (if p then .Is else .IsNot) v w) Q (Er C F X ρ s) s₂) (Er C F X ρ s) s₁) (Er C F X ρ s) s:=by
 refine (ia l ha _ m h).go R (.refl _ _ _) λρ₁ s₁ m₁ x v st t1 R₁ rx h₁=>wpAny_Constant_none ?_;rw [Cm rx] at h₁;have h₂:=k _ ρ₁ m₁ s₁ t1 R₁ h₁
 cases p with
 | true=>exact is_none h₂
 | false=>exact isNot_none h₂
theorem F3 (G:GOk C)(cx:aC C c F n){p:Bool}{a:ME}(ia:SV C X n c F a):SV C X n c F (.isN p a):=by
 intro e hc Q m h;replace hc:=ah hc;obtain ⟨⟨l,os,rs⟩,hxx,hc⟩:=hc;replace hc:=ah hc;obtain ⟨o,ho,hc⟩:=hc;replace hc:=ah hc;obtain ⟨r,hr,hc⟩:=hc
 cases cU ho
 cases cU hr
 obtain ⟨p2,rfl⟩:=jZ hxx;simp only [IT,beq_iff_eq] at hc;obtain ⟨⟨rfl,hn⟩,ha⟩:=hc;obtain ⟨_,_,rfl⟩:=lc hn;intro s ρ R;exact wpAny_Compare1 (rB (P:=λb m=>Q (.bool b) m) G cx ia ha R h λb ρ' m' s' st R' hq=>⟨_,_,_,st,R',.bool b,hq⟩) rfl
theorem Co (G:GOk C)(cx:aC C c F n)(iargs:∀a∈args,SV C X n c F a):SV C X n c F (.call f args):=by
 intro e hc Q m h;replace hc:=ah hc;obtain ⟨⟨x,ys,pos⟩,hx,hc⟩:=hc;obtain ⟨px,rfl⟩:=jI hx;simp only [IT,beq_iff_eq,Lh] at hc;obtain ⟨⟨⟨⟨hg,hf⟩,hne⟩,hnh⟩,ha⟩:=hc;have hh:F.A.handled=bY\/C.hf f=aT:=by
  refine Lm (Np.mp hnh) (λq=>?_) λq=>?_
  ·exact .inl (cx.hn q)
  ·exact .inr (cx.hf▸q)
 intro s ρ R;refine LG rfl (BZ cx R hf (aW hg).1 (aW hg).2 λa hfa=>?_);have ha':=qj G cx iargs ys ha _ m h pos;have hp:=cF ha pos F.env;have hn:=je ha hne pos F.env;obtain ⟨⟨b,t⟩,trees,et⟩:=Nc hn;rw [et] at ha' hp ⊢;simp only [N0,LV] at hp;obtain ⟨rfl,hp⟩:=hp;refine e22 (G.fns f a hfa) λo fd ho hd=>?_;refine Calls.callWith_function (o:=o) (fd:=fd) (My (ha'.go R (.refl _ _ _) λρ₁ s₁ m₁ xs vs st t1 R₁ rl el h₁=>⟨⟨R₁.hp.base _ _ ho,hd⟩,?_⟩));refine Kq (h₁ F m₁ s₁ ρ₁ vs a cx.fm hh rfl R₁ rl cx.room cx.units hfa) (λv s₂ hv=>?_) λe s' x=>Er.back t1 e s' (Er.mono (λk m' ⟨q1,q2⟩=>by rw [<-q1] at q2;exact q2) e s' x);obtain ⟨ρ₂,m₂,x,st2,R₂,rx,e,hq⟩:=hv;refine ⟨ρ₂,m₂,x,t1.trans st2,R₂,rx,?_⟩;rw [<-e] at hq;exact hq
theorem F4 (G:GOk C)(cx:aC C c F n)(io:SV C X n c F o)(iargs:∀a∈args,SV C X n c F a):SV C X n c F (.mth k o args):=by
 intro e hc Q m h;replace hc:=ah hc;obtain ⟨⟨⟨ov,name,apos⟩,ys,pos⟩,hx,hc⟩:=hc;have ee:=q9 hx;subst ee;simp only [IT,beq_iff_eq,decide_eq_true_eq] at hc;obtain ⟨⟨⟨⟨⟨hn,h0⟩,hl⟩,hz⟩,ho⟩,ha⟩:=hc;intro s ρ R;have hp:=cF ha pos F.env;refine wpAny_Call_method_late (oP h0 _ _) ?_ (by simp [hl]) rfl ((io ov ho _ m h).go R (.refl _ _ _) λρ₁ s₁ m₁ x v st t1 R₁ rx h₁=>?_)
 ·rw [IT,IT];refine ⟨⟨?_,rfl⟩,?_⟩
  ·rw [K2];intro q hq;rw [List.any_eq_false] at hp
   simpa using hp q hq
  ·simp;exact dO hz (nb rfl)
 ·refine e02 (jV h₁) λhm h₁=>?_;refine FL G cx.fm hn t1 R₁ rx hm hp ?_;exact (qj G cx iargs ys ha _ m₁ h₁ pos).go R₁ t1 λρ₂ s₂ m₂ xs vs st2 t2 R₂ rl _ h₂=>⟨ρ₂,m₂,xs,st2,R₂,rl,h₂⟩
theorem F5 (G:GOk C)(cx:aC C c F n)(io:SV C X n c F o)(ii:SV C X n c F i):SV C X n c F (.idx o i):=by
 intro e hc Q m h;replace hc:=ah hc;obtain ⟨⟨v,sl⟩,hxx,hc⟩:=hc;obtain ⟨p,rfl⟩:=qb hxx;simp only [IT] at hc;obtain ⟨⟨hx,ho⟩,hi⟩:=hc;intro s ρ R;refine PyProof.Rows.Subscript_ ((io v ho _ m h).go R (.refl _ _ _) λρ₁ s₁ m₁ x v st t1 R₁ rx h₁=>?_);refine (ii sl hi _ m₁ h₁).go R₁ t1 λρ₂ s₂ m₂ y w st' t2 R₂ ry h₂=>?_;exact Kq (Fu G R₂ (rx.step st') ry hx h₂) (λv s' o=>Out.back t2 v s' (o.out R₂ cx.fm)) λ_ _ x=>x
theorem IW (G:GOk C)(cx:aC C c F n){o:ME}{lo:Option ME}{hi:Option ME}(io:SV C X n c F o)(ilo:∀a,lo=J a->SV C X n c F a)(ihi:∀a,hi=J a->SV C X n c F a):SV C X n c F (.sl o lo hi):=by
 intro e hc Q m h;replace hc:=ah hc;obtain ⟨⟨v,sl⟩,hxx,hc⟩:=hc;replace hc:=ah hc;obtain ⟨⟨l,u,stp⟩,hx,hc⟩:=hc;obtain ⟨p1,rfl⟩:=wJ hx;obtain ⟨p2,rfl⟩:=qb hxx;simp only [IT] at hc;obtain ⟨⟨⟨hs,ho⟩,hlo⟩,hhi⟩:=hc
 cases stp with
 | some=>exact ff hs
 | none=>
 intro s ρ R;refine PyProof.Rows.Subscript_ ((io v ho _ m h).go R (.refl _ _ _) λρ₁ s₁ m₁ x v st t1 R₁ rx h₁=>?_);refine wpAny_Slice ?_;refine (svO G cx ilo l hlo _ m₁ h₁) s₁ ρ₁ R₁ _ _ _ t1 λρ₂ s₂ m₂ a va st2 t2 R₂ ra h₂=>?_;refine (svO G cx ihi u hhi _ m₂ h₂) s₂ ρ₂ R₂ _ _ _ t2 λρ₃ s₃ m₃ b vb st3 t3 R₃ rb h₃=>?_;rw [evalPart_none];refine Do ?_;have ra':j4 C ρ₃ s₃.heap a va:=by
  cases a with
  | none=>exact ra
  | some a=>exact ra.step st3
 exact Kq (IE R₃ cx.fm ((rx.step st2).step st3) ra' rb h₃) (Out.back t3) λ_ _ x=>x
theorem Cp (G:GOk C)(cx:aC C c F n)(ies:∀a∈es,SV C X n c F a):SV C X n c F (.list es):=by
 intro e hc Q m h;replace hc:=ah hc;obtain ⟨xs,hxx,hc⟩:=hc;obtain ⟨p,rfl⟩:=yq hxx;simp only [IT,decide_eq_true_eq] at hc;intro s ρ R;refine wpAny_List ((qj G cx ies xs hc.2 _ m h _).go R (.refl _ _ _) λρ₁ s₁ m₁ xs vs st t1 R₁ rl el h₁=>?_);have hz:xs.length<=line:=el▸dO hc.1 (by decide);exact ⟨by rw [rl.length];exact hz,Out.back t1 _ _ (mF R₁ cx.fm rl hz h₁)⟩
theorem F6 (G:GOk C)(cx:aC C c F n)(ies:∀a∈es,SV C X n c F a):SV C X n c F (.tup es):=by
 intro e hc Q m h;replace hc:=ah hc;obtain ⟨xs,hxx,hc⟩:=hc;obtain ⟨k,p,rfl⟩:=j0 hxx;simp only [IT,decide_eq_true_eq] at hc;intro s ρ R;refine wpAny_Tuple ((qj G cx ies xs hc.2 _ m h _).go R (.refl _ _ _) λρ₁ s₁ m₁ xs vs st t1 R₁ rl el h₁=>?_);have hz:xs.length<=line:=el▸dO hc.1 (by decide);exact ⟨by rw [rl.length];exact hz,Out.back t1 _ _ (pY R₁ cx.fm rl hz h₁)⟩
theorem y7 (G:GOk C)(cx:aC C c F n)  :SV C X n c F (.dict0):=by
 intro e hc Q m h;replace hc:=ah hc;obtain ⟨⟨ks,vs⟩,hxx,hc⟩:=hc;obtain ⟨p,rfl⟩:=yr hxx;simp only [IT,Ms] at hc;obtain ⟨rfl,rfl⟩:=hc;intro s ρ R;refine wpAny_Dict_empty ?_;have hk:∀a o,s.heap.get? a=J o->(s.heap.push { cls:=.type "dict",data:=.dict #[] }).get? a=J o:=λa o e=>Kt _ e;obtain ⟨R',st⟩:=R.alloc (s':={ s with heap:=s.heap.push { cls:=.type "dict",data:=.dict #[] } }) cx.fm hk rfl rfl (o:=.dict []) (a:=s.heap.objs.size) (bZ (oF _))
  ⟨[],KR.DictOf.new _,.nil,Ko _⟩
 exact ⟨_,_,_,st,R',.ref (i:=m.heap.length) (by rw [<-R.hp.len,K7 (oF _)];simp),h⟩
end
end
end Internal
end
section
namespace Internal
theorem mJ:∀(a b:List Nat),slt a b=aT↔a<b
 | [],[]=>⟨λh=>ff h,λh=>absurd h (Nf _)⟩
 | [],_::_=>⟨λ_=>List.nil_lt_cons ..,λ_=>rfl⟩
 | _::_,[]=>⟨λh=>ff h,λh=>absurd h (List.not_lt_nil _)⟩
 | a::x,b::y=>by
  rw [List.cons_lt_cons_iff];show (match decide (a<b),a==b with
   | true,_=>aT
   | false,aT=>slt x y
   | false,Z=>Z)=aT↔_
  by_cases h:a<b
  ·rw [decide_eq_true h];exact ⟨λ_=>.inl h,λ_=>rfl⟩
  ·rw [decide_eq_false h];by_cases e:a=b
   ·subst e;rw [beq_self_eq_true];exact ⟨λq=>.inr ⟨rfl,(mJ x y).mp q⟩,λq=>q.elim (λq=>absurd q h) λq=>(mJ x y).mpr q.2⟩
   ·rw [beq_false_of_ne e];exact ⟨λq=>ff q,λq=>q.elim (λq=>absurd q h) λq=>absurd q.1 e⟩
theorem nH:∀{l:List (List Nat)},x∈sR s l↔x=s\/x∈l
 | []=>⟨λh=>.inl (iD.mp h),λh=>h.elim (λh=>iD.mpr h) λh=>aO h⟩
 | t::r=>by
  show x∈(match slt s t,s==t with
   | true,_=>s::t::r
   | false,aT=>t::r
   | false,Z=>t::sR s r)↔_
  cases h1:slt s t with
  | true=>simp
  | false=>
   cases h2:s==t with
   | true=>
    have:s=t:=by simpa using h2
    subst this;simp
   | false=>
    simp only [IF,nH (l:=r)];constructor
    ·rintro (h | h | h)
     ·exact .inr (.inl h)
     ·exact .inl h
     ·exact .inr (.inr h)
    ·rintro (h | h | h)
     ·exact .inr (.inl h)
     ·exact .inl h
     ·exact .inr (.inr h)
theorem aE:∀{l:List (List Nat)},x∈aK l↔x∈l
 | []=>Pz
 | s::r=>by show x∈sR s (aK r)↔_;rw [nH,aE,IF]
theorem u3:∀{l:List (List Nat)},l.Pairwise (· < ·)->(sR s l).Pairwise (· < ·)
 | [],_=>MP _ _
 | t::r,h=>by
  obtain ⟨h1,h2⟩:=Mg.mp h;show (match slt s t,s==t with
   | true,_=>s::t::r
   | false,aT=>t::r
   | false,Z=>t::sR s r).Pairwise (· < ·)
  cases e1:slt s t with
  | true=>
   have hst:=(mJ s t).mp e1;exact Mg.mpr ⟨λx hx=>by
    rcases IF.mp hx with rfl | hx
    ·exact hst
    ·exact Pg hst (h1 x hx),h⟩
  | false=>
   cases e2:s==t with
   | true=>exact h
   | false=>
    have hne:s≠t:=by simpa using e2
    have hle:¬ s<t:=λq=>by rw [(mJ s t).mpr q] at e1;exact tf e1
    have hts:t<s:=by
     refine Lm (Classical.em (t<s)) (λq=>?_) λq=>?_
     ·exact q
     ·exact absurd (List.le_antisymm (O8.mp q) (O8.mp hle)) hne
    refine Mg.mpr ⟨λx hx=>?_,u3 h2⟩
    rcases nH.mp hx with rfl | hx
    ·exact hts
    ·exact h1 x hx
theorem mK:∀(l:List (List Nat)),(aK l).Pairwise (· < ·)
 | []=>.nil
 | s::r=>u3 (mK r)
theorem Ew:∀{l m:List (List Nat)},l.Pairwise (· < ·)->m.Pairwise (· < ·)->(∀x,x∈l↔x∈m)->l=m
 | [],[],_,_,_=>rfl
 | [],b::m,_,_,h=>by have:=(h b).mpr (IS ..);exact aO this
 | a::l,[],_,_,h=>by have:=(h a).mp (IS ..);exact aO this
 | a::l,b::m,hl,hm,h=>by
  obtain ⟨l1,l2⟩:=Mg.mp hl;obtain ⟨m1,m2⟩:=Mg.mp hm;have hab:a=b:=by
   refine Lm (IF.mp ((h a).mp (IS ..))) (λq=>?_) λq=>?_
   ·exact q
   ·rcases IF.mp ((h b).mpr (IS ..)) with q' | q'
    ·exact q'.symm
    ·exact absurd (Pg (m1 a q) (l1 b q')) (Nf _)
  subst hab;congr 1;refine Ew l2 m2 λx=>⟨λhx=>?_,λhx=>?_⟩
  ·refine Lm (IF.mp ((h x).mp (IN _ hx))) (λq=>?_) λq=>?_
   ·subst q;exact absurd (l1 _ hx) (Nf _)
   ·exact q
  ·refine Lm (IF.mp ((h x).mpr (IN _ hx))) (λq=>?_) λq=>?_
   ·subst q;exact absurd (m1 _ hx) (Nf _)
   ·exact q
end Internal
end
section
namespace Internal
open PySem PyProof.Rows
section
set_option maxRecDepth 100000
noncomputable abbrev ie (es:Array (Int × DO)) (ep:Nat) (t:SetTable):Obj:={ cls:=.type "set",dict:=none,data:=.set es ep t,slots:=#[] }
noncomputable abbrev cV (w:Mw):Bool:=w.params.followText "set-order"
theorem xd (t:SetTable)(j:Nat):(t.put j).1.led=t.led/\(t.put j).1.plain=t.plain:=by cases t;exact ⟨rfl,rfl⟩
theorem bQ (t:SetTable)(n:Nat):(t.standIn n).led=t.led/\(t.standIn n).plain=Z:=by cases t;exact ⟨rfl,rfl⟩
theorem mw (t:SetTable)(n:Nat):(t.orStandIn n).led=t.led/\((t.orStandIn n).plain=aT->t.plain=aT):=by
 unfold SetTable.orStandIn
 split
 ·exact ⟨rfl,id⟩
 ·exact ⟨(bQ t n).1,λh=>by rw [(bQ t n).2] at h;exact ff h⟩
set_option tactic.hygienic true in
theorem tD (t:SetTable)(es:Array (Int × DO))(h:Int)(x:DO):(layNew t es h x).2.1.led=t.led:=by
 unfold layNew
 split
 ·rename_i slot wd _;rw [(mw _ _).1,(xd t slot).1]
 ·exact (bQ t _).1
theorem ql {t t':SetTable}(h:t.relaid hs w=J (t',o)):t'.led=t.led/\t'.plain=t.plain:=by
 unfold SetTable.relaid SetTable.laid at h;simp only [Option.bind_eq_bind,KV,Option.pure_def,Option.some.injEq,NJ.injEq] at h;obtain ⟨_,_,rfl,_⟩:=h;exact ⟨rfl,rfl⟩
set_option tactic.hygienic true in
theorem nI (t:SetTable)(es:Array (Int × DO))(n:Nat):(relayAll t es n).2.1.led=t.led/\((relayAll t es n).2.1.plain=aT->t.plain=aT):=by
 unfold relayAll
 split
 ·rename_i t' order h;obtain ⟨h1,h2⟩:=ql h;dsimp only
  split
  ·exact ⟨h1,λh=>by rw [<-h2];exact h⟩
  ·exact ⟨(bQ t _).1,λh=>by rw [show _=Z from (bQ t _).2] at h;exact ff h⟩
 ·exact ⟨(bQ t _).1,λh=>by rw [show _=Z from (bQ t _).2] at h;exact ff h⟩
noncomputable def jJ (prog:Nz)(w:Mw)(h:KR)(a:KO)(ks:List Str):Prop:=
 ∃es ep t,h.get? a=J (ie es ep t)/\t.fits es.size=aT/\t.led=!cV w/\(es.size=0\/t.plain=Z)/\ElemsOf (Lc prog w) es.toList/\(es.toList.map (λe=>strOf e.2)).Perm ks/\ks.Nodup
noncomputable def j8 (ks:List Str)(k:Str):List Str:=if k∈ks then ks else ks++[k]
theorem y8 (ks:List Str)(k:Str):(j8 ks k).length<=ks.length+1:=by unfold j8;split<;>simp
section
variable {s:Kv}
theorem rC (h:ElemsOf (Lc prog w) l):∀e∈l,∃k t,e.2=.str k t:=λe he=>by
 obtain ⟨⟨k,hk,_⟩,_⟩:=h e he;obtain ⟨t,ht⟩:=DO.isStrOf_shape hk;exact ⟨k,t,ht⟩
theorem rD (h:ElemsOf (Lc prog w) l)(k:Str):(∃e∈l,(Lc prog w).is k e.2=aT)↔k∈l.map (λe=>strOf e.2):=by
 constructor
 ·rintro ⟨e,he,hk⟩
  obtain ⟨t,ht⟩:=DO.isStrOf_shape hk;exact KW.mpr ⟨e,he,by rw [ht];rfl⟩
 ·intro hk;refine e12 (KW.mp hk) λe he hk=>?_;refine e21 (rC h e he) λx t ht=>?_;refine ⟨e,he,?_⟩;rw [ht] at hk ⊢;subst hk;exact Pk _ _ _ _
theorem u4 (ho:s.heap.get? a=J (ie es ep t)) :
  (s.heap.update a (Pl es' t')).get? a=J (ie es' (ep+1) t'):=by
 have:=Ll (Pl es' t') ho (by rw [putSet_of es' t' rfl];rfl);rw [putSet_of es' t' rfl] at this;exact this
theorem ph {g:Bool->Sem Unit}(hg:∀(b:Bool) (s₁:Kv) (Q':Unit->Kv->Prop),Q' () s₁->BY (model prog w) A (g b) Q' E s₁)
  {es:Array (Int × DO)}{ep:Nat}{t:SetTable}(ho:s.heap.get? a=J (ie es ep t)) {es1:Array (Int × DO)}{t2:SetTable}{ks:List Str}(hel1:ElemsOf (Lc prog w) es1.toList) (hb1:es1.size<scanBound) (hf2:t2.fits es1.size=aT)
  (hled:t2.led=!cV w) (hpl:t2.plain=Z) (hp1:(es1.toList.map (λe=>strOf e.2)).Perm ks) (hn:ks.Nodup) {wasDummy:Bool}{R:Option Bool->Kv->Prop}
  (h:∀h',K8 a s.heap h'->jJ prog w h' a ks->R (J aT) { s with heap:=h' }) :
  BY (model prog w) A (do
    storeSet a es1 t2
    if (!wasDummy&&t2.tooFull)=aT then do
      g (relayAll t2 es1 (MQ es1.size)).2.2
      storeSet a (relayAll t2 es1 (MQ es1.size)).1 (relayAll t2 es1 (MQ es1.size)).2.1
      pure (J aT)
     else pure (J aT)) R E s:=by
 refine iS (wpAny_storeSet_of ho rfl ?_ (NP hb1));have ho1:=u4 (s:=s) (es':=es1) (t':=t2) ho;have hsb1:=Lu s.heap a (Pl es1 t2)
 split
 ·have hp:=relayAll_perm t2 es1 (MQ es1.size);have hfr:=relayAll_fits t2 es1 (MQ es1.size);have hmk:=nI t2 es1 (MQ es1.size);generalize relayAll t2 es1 (MQ es1.size)=Rl at hp hfr hmk ⊢;obtain ⟨es2,t3,gave2⟩:=Rl;dsimp only at hp hfr hmk ⊢;have hsz:es2.size=es1.size:=by rw [<-Lv,hp.length_eq,Lv]
  refine iS (hg _ _ _ (iS (wpAny_storeSet_of ho1 rfl ?_ (NP (by rw [hsz];exact hb1)))));have ho2:=u4 (s:={ s with heap:=s.heap.update a (Pl es1 t2) }) (es':=es2) (t':=t3) ho1;refine Do (h _ (hsb1.trans (Lu _ a _)) ⟨es2,_,t3,ho2,hfr,hmk.1.trans hled,.inr ?_,hel1.perm hp,(hp.map _).trans hp1,hn⟩)
  cases q:t3.plain with
  | false=>rfl
  | true=>rw [hpl] at hmk;exact absurd (hmk.2 q) (by decide)
 ·exact Do (h _ hsb1 ⟨es1,_,t2,ho1,hf2,hled,.inr hpl,hel1,hp1,hn⟩)
set_option tactic.hygienic true in
theorem IX (hS:jJ prog w s.heap a ks)(hroom:ks.length+1<scanBound)
  (h:∀b h',K8 a s.heap h'->jJ prog w h' a (j8 ks k)->Q b { s with heap:=h' }):BY (model prog w) A (setAddHashed a (.str k tk) ((Lc prog w).hash k)) Q E s:=by
 obtain ⟨es,ep,t,ho,hf,hled,hpl,hel,hp,hn⟩:=hS;have hlen:es.size=ks.length:=by rw [<-hp.length_eq,iF,Lv]
 have hb:es.size<scanBound:=by rw [hlen];exact n1 hroom
 have hkey:(Lc prog w).is k (.str k tk)=aT:=Pk _ _ _ _;unfold setAddHashed setAddHashedIn;refine K4 (iS (MA ho rfl hf ?_));dsimp only;rw [byScan_of (knd:=Lc prog w) (x:=.str k tk) rfl hb hel];simp only [↓reduceIte];unfold setAddByScan;refine iS (iS (OX (iS (wpAny_setScan_of hkey ho rfl hf hel ?_))))
 cases hr:List.findIdx? (λe=>(Lc prog w).is k e.2) es.toList with
 | some j=>
  dsimp only;obtain ⟨hj,hpj,_⟩:=List.findIdx?_eq_some_iff_getElem.mp hr;have hk:k∈ks:=hp.mem_iff.mp ((rD hel k).mp ⟨_,La hj,hpj⟩);refine Do (Do ?_);have:=h Z s.heap (K8.refl a s.heap) (by rw [j8,if_pos hk];exact ⟨es,ep,t,ho,hf,hled,hpl,hel,hp,hn⟩)
  cases s;exact this
 | none=>
  have hk:k∉ks:=λq=>by
   refine e12 ((rD hel k).mpr (hp.mem_iff.mpr q)) λe he hpe=>?_;have:=List.findIdx?_eq_none_iff.mp hr e he;rw [hpe] at this;cases this
  have hgw:∀(b:Bool) {s₁:Kv} {Q':Unit->Kv->Prop},Q' () s₁->BY (model prog w) A (match b with | true=>rule "set.scan.the-table-gave-way" | false=>pure ()) Q' E s₁:=
   λb s₁ Q' hq=>by cases b<;>first | exact Do hq | exact OX hq
  have hperm:=layNew_perm t es ((Lc prog w).hash k) (.str k tk);have hfits:=layNew_fits t es ((Lc prog w).hash k) (.str k tk);have hll:=tD t es ((Lc prog w).hash k) (.str k tk);generalize layNew t es ((Lc prog w).hash k) (.str k tk)=L at hperm hfits hll ⊢;obtain ⟨es1,t1,wasDummy,gave⟩:=L;dsimp only at hperm hfits hll ⊢;rw [Array.toList_push] at hperm;have hel1:ElemsOf (Lc prog w) es1.toList:=(hel.push hkey rfl).perm hperm;have hb1':es1.size<scanBound:=by rw [<-Lv,hperm.length_eq,eQ,Lv,hlen];exact hroom
  have hp1:(es1.toList.map (λe=>strOf e.2)).Perm (ks++[k]):=(hperm.map _).trans (by rw [KB];exact hp.append_right _);have hn1:(ks++[k]).Nodup:=by
   rw [K1];exact ⟨hn,by simp,λx hx y hy=>by
    have:y=k:=by exact iD.mp hy
    subst this;intro q;subst q;exact hk hx⟩
  have hend:∀h',K8 a s.heap h'->jJ prog w h' a (ks++[k])->Q aT { s with heap:=h' }:=λh' hsb hS'=>h aT h' hsb (by rw [j8,if_neg hk];exact hS');refine iS (hgw _ ?_)
  split
  ·refine iS ?_;rw [hashByValue_scannable 8 rfl];refine Do ?_;refine ph (t2:={ t1 with plain:=false }) ?_ ho hel1 hb1' (SetTable.fits_plain_off hfits) (hll.trans hled) rfl hp1 hn1 ?_
   ·intro b s₁ Q' hq;cases b<;>first | exact Do hq | exact OX hq
   ·intro h' hsb hS';dsimp only;exact Do (hend h' hsb hS')
  ·rename_i hpf;refine iS (Do ?_);simp only [↓reduceIte];refine ph ?_ ho hel1 hb1' hfits (hll.trans hled) (by simpa using hpf) hp1 hn1 ?_
   ·intro b s₁ Q' hq;cases b<;>first | exact Do hq | exact OX hq
   ·intro h' hsb hS';dsimp only;exact Do (hend h' hsb hS')
end
end
section
set_option maxRecDepth 100000
noncomputable def cW (ss:List Str):List Str:=ss.foldl j8 []
set_option tactic.hygienic true in
theorem y9:x∈j8 ks k↔x∈ks\/x=k:=by
 unfold j8
 split
 ·rename_i h;exact ⟨.inl,λq=>q.elim id λe=>e▸h⟩
 ·simp
theorem pj:∀{ss ks:List Str},x∈ss.foldl j8 ks↔x∈ks\/x∈ss
 | [],ks=>by simp
 | s::r,ks=>by
  rw [List.foldl_cons,pj,y9,IF,or_assoc]
theorem fg:x∈cW ss↔x∈ss:=by unfold cW;rw [pj];simp
theorem pk:∀(ss ks:List Str),(ss.foldl j8 ks).length<=ks.length+ss.length
 | [],ks=>by simp
 | s::r,ks=>by
  rw [List.foldl_cons];have:=pk r (j8 ks s);have:=y8 ks s;simp only [KQ];lia
section
theorem nJ (x:jJ prog w h S ks)(k:∀o,h.get? S=J o->h'.get? S=J o):jJ prog w h' S ks:=by
 refine e32 x λes ep t ho r=>?_;exact ⟨es,ep,t,k _ ho,r⟩
theorem rE (W:WalksS prog w A.in1 I fp wr G n P Su)(S:KO)(hSf:S∉fp)
  (ss:List Str) (hlen:ss.length=n) (hval:∀i v,P i v->∃x t,ss[i]?=J x/\v=.str x t) (hb:n+1<scanBound) :
  ∀(k i:Nat) (s:Kv),n-i=k->i<=n->Su i s->jJ prog w s.heap S (cW (ss.take i))->
   (∀s',Moved (S::wr) G s s'->jJ prog w s'.heap S (cW ss)->R (.ok (.ret .none)) s')->
   Pp (model prog w) A (.builtin "set.update.loop" ⟨[.ref S,.ref I],[]⟩) R s:=by
 have hSw:S∉wr:=λh=>hSf (W.sub _ h);have hsub:∀b∈wr,b∈S::wr:=λb hb=>IN _ hb;intro k
 induction k with
 | zero=>
  intro i s hk hi hst hS hR;have hin:i=n:=NA hi (NV hk);subst hin;refine M4 PyProof.Rows.F.entry_set_update_loop ?_;rw [MB Mn _];refine iS (W.done s _ _ hst λs' hm=>?_);rw [M0 (n1 (Km hlen))] at hS;exact Do (hR s' (hm.mono hsub) (nJ hS λo e=>hm.heap S _ hSw e))
 | succ k ih=>
  intro i s hk hi hst hS hR;have hlt:i<n:=Nat.lt_of_sub_eq_succ hk;refine M4 PyProof.Rows.F.entry_set_update_loop ?_;rw [MB Mn _];refine iS (W.item i s _ _ hlt hst λv s' hP hst' hm=>?_);obtain ⟨x,t,hx,rfl⟩:=hval i v hP;have hS':=nJ (h':=s'.heap) hS λo e=>hm.heap S _ hSw e;refine iS (K4 ?_);unfold setAdd;refine K4 (iS ((Lc prog w).pyHash (k:=x) (Pk _ _ _ _) ?_));have hroom:(cW (ss.take i)).length+1<scanBound:=Kn (KJ (dO (pk (ss.take i) []) (dO (Km (L5 _)) (dO (N7 i ss) (Km hlen))))) hb;refine IX (s:={ s' with toks:=s'.toks+1 }) hS' hroom λb h' hsb hS2=>?_;have e:j8 (cW (ss.take i)) x=cW (ss.take (i+1)):=by
   obtain ⟨hl,hx⟩:=iN.mp hx;unfold cW;rw [List.take_succ_eq_append_getElem hl,List.foldl_append,hx];rfl
  rw [e] at hS2;refine Do ⟨OF Mn _,ih (i+1) _ (by rw [Nat.sub_succ,hk];rfl) hlt (W.frame _ s' _ _ hst' (Ma _) λb hb o e=>?_) hS2 λs'' hm'' hS''=>?_⟩
  ·rw [hsb.2 b (λh:b=S=>hSf (by rw [<-h];exact hb))];exact e
  ·refine hR s'' (Moved.trans W.gtrans ((hm.mono hsub).then_heap (Ma _) λb o hb e=>?_) hm'') hS'';rw [hsb.2 b (λh:b=S=>hb (by rw [h];exact IS))];exact e
theorem IY (a:DO)
  (h:Q₁ (.ref s.heap.objs.size) { s with heap:=s.heap.push { cls:=.type "set",dict:=none,data:=.set #[] 0 (.fresh 0 0 (!cV w)) } }) :
  Pp (model prog w) A (.call (.builtin "set.__new__") ⟨[.type "set",a],[]⟩) (wants Q₁ E) s:=by
 refine O4 ?_;show BY _ A.in1 (do checkBuiltinCall "set.__new__" ⟨[.type "set",a],[]⟩;again (.builtin "set.__new__" ⟨[.type "set",a],[]⟩)) _ _ s;refine iS (wpAny_of_eq (PySem.F.newCall_set_1 a) (Do ⟨OF PySem.F.plain_set_new _,M4 PySem.F.entry_set_new ?_⟩));rw [MB PySem.F.plain_set_new _];unfold Builtin.«set.__new__» Builtin.Frozenset.newClass;have hsub:=sub_set_self;obtain ⟨hp,g,d,tk,os⟩:=s
 wp_walk
 refine MR (Do ?_);dsimp only;simp only [newObj];refine iS (wpAny_alloc (Do ?_));exact Do h
end
end
section
variable {A:M9}
theorem Cq (r:StrsAre vs ss)(i:Nat)(v:DO)(h:vs[i]?=J v):∃x t,ss[i]?=J x/\v=.str x t:=by
 induction r generalizing i with
 | nil=>exact aJ h
 | cons x t r ih=>
  cases i with
  | zero=>exact ⟨x,t,rfl,(By h).symm⟩
  | succ i=>exact ih i h
theorem nK (r:StrsAre vs ss):ss.length=vs.length:=by
 induction r with
 | nil=>rfl
 | cons x t r ih=>exact congrArg (·+1) ih
theorem tE (hh:A.handled=bY)(hl:s.heap.IsList l items)(hi:StrsAre items.toList ss)(hb:items.size+1<scanBound)(hSe:s.heap.get? S=J (ie #[] 0 (.fresh 0 0 (!cV w))))
  (h:∀h' tk,jJ prog w h' S (cW ss)->(∀b o,b≠S->s.heap.get? b=J o->h'.get? b=J o)->Q (.done (.ret .none)) { s with heap:=h',toks:=tk }) :
  BY (model prog w) A.in1 (Builtin.«set.__init__» ⟨[.ref S,.ref l],[]⟩) Q E s:=by
 obtain ⟨ol,hol,hcl,nl,hdl⟩:=id hl;obtain ⟨ocls,odict,odata,oslots⟩:=ol;simp only at hcl hdl;subst hcl;subst hdl;have hsls:=PySem.F.sub_list_set;have hslf:=PySem.F.sub_list_frozenset;have hne:(M1 "list"==M1 "dict")=Z:=by decide
 have hT:s.TypeIs (.ref S) "set":=⟨_,hSe,rfl⟩
 unfold Builtin.«set.__init__» noKeywords Builtin.Frozenset.updateFrom;generalize hPI:pyIter=PI
 wp_walk
 subst hPI;refine Ov hl ?_;refine iS (wpAny_runValue ?_);have hlS:l<s.heap.objs.size:=Ln hol;have hSS:S<s.heap.objs.size:=Ln hSe;have hlneS:l≠S:=λq=>by
  rw [q,hSe] at hol;have:=congrArg OO.cls (By hol);simp at this
 have hh3:A.in1.in1.handled=bY:=by simp [hh]
 have hSf:S∉[s.heap.objs.size,l]:=by
  simp only [IF,LD,or_false,not_or];exact ⟨KA hSS,λq=>hlneS q.symm⟩
 have hk:∀b o,s.heap.get? b=J o->(s.heap.push { cls:=.type "list_iterator",data:=.fields #[.ref l,.int 0 0] }).get? b=J o:=λb o e=>Kt _ e;refine rE ((Walks.list hh3 _ l (KA hlS) items).toS) S hSf ss (by rw [nK hi,Lv]) (λi v hv=>Cq hi i v (by rw [M5];exact hv)) hb (items.size-0) 0 { s with heap:=s.heap.push { cls:=.type "list_iterator",data:=.fields #[.ref l,.int 0 0] } } (rfl) (Ko _)
  ⟨⟨_,KM _ rfl,rfl,rfl⟩,hl.push _⟩ ?hS0 ?hR
 case hS0=>exact ⟨#[],0,_,hk _ _ hSe,rfl,rfl,.inl rfl,λe he=>(by simp at he),Pw.refl _,MT⟩
 case hR=>
  intro s' hm hS';obtain ⟨h',g',d',tk',os'⟩:=s';have eg:g'=s.gens:=hm.gens;have ed:d'=s.drawn:=hm.drawn;have eo:os'=s.os:=hm.os;subst eg;subst ed;subst eo;refine Do ?_;refine Do (h h' tk' hS' λb o hb e=>hm.heap b o ?_ (hk b o e));simp only [IF,LD,or_false,not_or];exact ⟨hb,KA (Ln e)⟩
set_option maxRecDepth 100000 in
set_option maxHeartbeats 3200000 in
theorem tF (hh:A.handled=bY)(hl:s.heap.IsList l items)(hi:StrsAre items.toList ss)(hb:items.size+1<scanBound)
  (h:∀h' tk,jJ prog w h' s.heap.objs.size (cW ss)->(∀b o,s.heap.get? b=J o->h'.get? b=J o)->Q (.ref s.heap.objs.size) { s with heap:=h',toks:=tk }) :
  BY (model prog w) A (call (.type "set") [.ref l]) Q E s:=by
 refine e21 LR.mro λc tl hmro=>?_;have hmade:=LR.made;have hsub:=LR.sub;refine wpAny_call (O4 ?_);refine Do ⟨Oo _ (by decide +kernel),M4 PySem.F.entry_type_call ?_⟩;rw [M9.under_plain (weight_type_call_type "set" [.ref l] []) rfl];have h1:=LR.notType;have h2:=LR.canCreate;have hct:=PySem.F.typeCall_set_1 (.ref l)
 repeat (any_goals (first | assumption | wp_step))
 refine codeAny_mono (IY (w:=w) (.ref l) (E:=E) (Q₁:=λobj s₁=>obj=.ref s.heap.objs.size/\s₁={ s with heap:=s.heap.push { cls:=.type "set",dict:=none,data:=.set #[] 0 (.fresh 0 0 (!cV w)) } }) ⟨rfl,rfl⟩) λr s₁ hr=>?_
 cases r with
 | error e=>exact hr
 | ok fl=>
  cases fl with
  | ret obj=>
   obtain ⟨rfl,rfl⟩:=hr;have hS:(s.heap.push { cls:=.type "set",dict:=none,data:=.set #[] 0 (.fresh 0 0 (!cV w)) }).get? s.heap.objs.size=J (ie #[] 0 (.fresh 0 0 (!cV w))):=KM _ rfl;have hT:Kv.TypeIs { s with heap:=s.heap.push { cls:=.type "set",dict:=none,data:=.set #[] 0 (.fresh 0 0 (!cV w)) } } (.ref s.heap.objs.size) "set":=⟨_,hS,rfl⟩
   have hli:=LR.init.lookup;have hbi:=LR.init.bind (.ref s.heap.objs.size)
   repeat (any_goals (first | assumption | wp_step))
   refine codeAny_mono (codeAny_call_builtin (R:=wants (λr s₂=>r=.none/\∃h' tk,s₂={ s with heap:=h',toks:=tk }/\jJ prog w h' s.heap.objs.size (cW ss)/\(∀b o,s.heap.get? b=J o->h'.get? b=J o)) E)
    LR.init.plain PySem.F.entry_set_init (check_set_init_1 hT ?_)) λr₂ s₂ hr₂=>?_
   ·refine tE (by simp [hh]) (hl.push _) hi hb hS λh' tk hS' hk'=>⟨rfl,h',tk,rfl,hS',λb o e=>hk' b o (KA (Ln e)) (Kt _ e)⟩
   ·cases r₂ with
    | error e=>exact hr₂
    | ok fl₂=>
     cases fl₂ with
     | ret r=>
      obtain ⟨rfl,h',tk,rfl,hS',hk'⟩:=hr₂
      repeat (any_goals (first | assumption | wp_step))
      exact h _ _ hS' hk'
     | _=>exact hr₂.elim
  | _=>exact hr.elim
end
section
set_option maxRecDepth 100000
theorem aM:Slot "set_iterator" "__next__" "set_iterator.__next__":=
 .of (owner:="set_iterator") (n:="__next__") (by rw [Ml,Lx];kernel_rfl) (by decide +kernel) (by decide +kernel) (by decide +kernel)
  (by first | exact .inl (by decide +kernel) | exact .inr (by decide +kernel)) (by rw [O9];kernel_rfl)
theorem fJ:Slot "set_iterator" "__iter__" "set_iterator.__iter__":=
 .of (owner:="set_iterator") (n:="__iter__") (by rw [Ml,Lx];kernel_rfl) (by decide +kernel) (by decide +kernel) (by decide +kernel)
  (by first | exact .inl (by decide +kernel) | exact .inr (by decide +kernel)) (by rw [O9];kernel_rfl)
theorem cf:entryFor table "set_iterator.__next__"=J Builtin.«set_iterator.__next__»:=entryFor_of_tree (by kernel_rfl)
theorem jK:entryFor table "set_iterator.__iter__"=J Builtin.«dict_keyiterator.__iter__»:=
 entryFor_alias (id':="dict_keyiterator.__iter__") (by kernel_rfl) rfl (by decide +kernel) (by kernel_rfl)
theorem nL:entryFor table "set.__iter__"=J Builtin.«frozenset.__iter__»:=
 entryFor_alias (id':="frozenset.__iter__") (by kernel_rfl) rfl (by decide +kernel) (by kernel_rfl)
theorem js:Manifest.owners.lookup (String.ofList ['r','o','t','a','r','e','t','i','_','t','e','s'].reverse)=J Manifest.sig_set_iterator:=by kernel_rfl
theorem cr (a:DO):argsOk "set_iterator.__next__" ⟨[a],[]⟩:=by
 unfold argsOk;rw [signature?_of (id:="set_iterator.__next__") (n:=['_','_','t','x','e','n','_','_']) (o:=['r','o','t','a','r','e','t','i','_','t','e','s']) (by kernel_rfl) js];kernel_rfl
theorem j9 (a:DO):argsOk "set_iterator.__iter__" ⟨[a],[]⟩:=by
 unfold argsOk;rw [signature?_of (id:="set_iterator.__iter__") (n:=['_','_','r','e','t','i','_','_']) (o:=['r','o','t','a','r','e','t','i','_','t','e','s']) (by kernel_rfl) js];kernel_rfl
end
section
set_option maxRecDepth 100000
noncomputable abbrev my (first:DO) (i:Nat) (S:KO) (n ep:Nat):Obj:={ cls:=.type "set_iterator",data:=.fields #[first,.int i 0,.ref S,.int n 0,.int ep 0] }
section
variable {prog:Nz}{w:Mw}{s:Kv}{es:Array (Int × DO)}
theorem za {slot slot':Nat}{x:DO}(hI:s.heap.get? I=J (my (.int slot 0) i S es.size ep))(hS:s.heap.get? S=J (ie es ep t))(hf:t.fits es.size=aT)
  (hnext:∀(A:M9) (Q:Option (DO × Nat)->Kv->Prop) (E:DO->Kv->Prop),Q (J (x,slot')) s->BY (model prog w) A (setNext S slot i ep) Q E s)
  (hQ:∀h',h'.get? I=J (my (.int slot' 0) (i+1) S es.size ep)->K8 I s.heap h'->Q (J x) { s with heap:=h' }):BY (model prog w) A (pyNext (.ref I)) Q E s:=by
 have hT:s.TypeIs (.ref I) "set_iterator":=⟨_,hI,rfl⟩
 unfold pyNext;refine iS (OG (Mk (name:=Mi "__next__") hT aM (Mf aM hT cf ?_ (cr _))));unfold Builtin.«set_iterator.__next__»;refine iS (Do ?_);refine iS (Oq hI rfl ?_);dsimp only;refine iS (MH hS rfl hf ?_);rw [if_neg (by simp)];refine iS ?_;simp only [Ox];refine hnext _ _ _ ?_;refine iS (NQ hI rfl (by simp) ?_);have hI1:(s.heap.update I (OH (·.setIfInBounds 0 (rawInt slot')))).get? I=J (my (.int slot' 0) i S es.size ep):=Ll _ hI rfl;refine iS (NQ (s:={ s with heap:=s.heap.update I (OH (·.setIfInBounds 0 (rawInt slot'))) }) hI1 rfl (by simp) (Do ⟨x,rfl,Do (hQ _ ?_ ((Lu ..).trans (Lu ..)))⟩));exact Ll _ hI1 rfl
theorem zb (hh:A.handled=bY)(hI:s.heap.get? I=J (my first i S es.size ep))(hk:k<5)(hQ:∀h',Ow I s.heap h'->Q bY { s with heap:=h' }) :
  BY (model prog w) A.in1 (do
   setField (.ref I) k Nd
   let e <-newExc (M1 "StopIteration") []
   raiseNew e:Sem PySem.Fin) (λfin s'=>∃v,fin=Fin.done (Flow.ret v)/\BY (model prog w) A (pure (J v)) Q E s') (λe s'=>
   BY (model prog w) A (do
     let b <-isInstance e (M1 "StopIteration")
     if b=aT then pure bY else throw e) Q E s') s:=by
 refine iS (NQ hI rfl (by simpa using hk) ?_);refine iS ?_;simp only [newExc,newTuple];refine iS (Lz ?_ (by size_fits));refine iS (m:=firstArgMember _ _) (wpAny_of_eq (a:=Nd) (by first | rfl | (simp only [firstArgMember];rfl)) ?_);refine Lz ?_ (by size_fits);refine wpAny_raiseNew_none (show A.in1.handled=bY from hh) ?_;refine iS (wpAny_isInstance (T:="StopIteration") (b:=true) ⟨_,KM _ rfl,rfl⟩ isSubtype_stop ?_);exact Do (hQ _ (((Lu ..).extBut.push _).push _))
theorem zc {slot:Nat}(hh:A.handled=bY)(hI:s.heap.get? I=J (my (.int slot 0) i S es.size ep))(hS:s.heap.get? S=J (ie es ep t))(hf:t.fits es.size=aT)
  (hnext:∀(A:M9) (Q:Option (DO × Nat)->Kv->Prop) (E:DO->Kv->Prop),Q bY s->BY (model prog w) A (setNext S slot i ep) Q E s)
  (hQ:∀h',Ow I s.heap h'->Q bY { s with heap:=h' }):BY (model prog w) A (pyNext (.ref I)) Q E s:=by
 have hT:s.TypeIs (.ref I) "set_iterator":=⟨_,hI,rfl⟩
 unfold pyNext;refine iS (OG (Mk (name:=Mi "__next__") hT aM (Mf aM hT cf ?_ (cr _))));unfold Builtin.«set_iterator.__next__»;refine iS (Do ?_);refine iS (Oq hI rfl ?_);dsimp only;refine iS (MH hS rfl hf ?_);rw [if_neg (by simp)];refine iS ?_;simp only [Ox];refine hnext _ _ _ ?_;exact zb hh hI (by decide) hQ
theorem tG {T:KO}{places:List DO}{k:Nat}{h:Int}{x:DO}{n':Nat}(hI:s.heap.get? I=J (my (.ref T) i S es.size ep))(hS:s.heap.get? S=J (ie es ep t))(hf:t.fits es.size=aT)
  (hTT:s.heap.get? T=J { cls:=.type "tuple",dict:=none,data:=.seq places.toArray n',slots:=#[] }) (hp:places[i]?=J (.int k 0)) (hx:es[k]?=J (h,x))
  (hQ:∀h',h'.get? I=J (my (.ref T) (i+1) S es.size ep)->K8 I s.heap h'->Q (J x) { s with heap:=h' }):BY (model prog w) A (pyNext (.ref I)) Q E s:=by
 have hT:s.TypeIs (.ref I) "set_iterator":=⟨_,hI,rfl⟩
 unfold pyNext;refine iS (OG (Mk (name:=Mi "__next__") hT aM (Mf aM hT cf ?_ (cr _))));unfold Builtin.«set_iterator.__next__»;refine iS (Do ?_);refine iS (Oq hI rfl ?_);dsimp only;refine iS (MH hS rfl hf ?_);rw [if_neg (by simp)];refine iS (wpAny_seqItems hTT rfl ?_);dsimp only;have hp':places.toArray[(i:Int).toNat]?=J (.int k 0):=by simpa using hp
 rw [hp'];unfold setNextDrawn;refine iS (iS (MA hS rfl hf ?_));dsimp only;rw [if_neg (by simp)];simp only [Ox,hx];refine Do ?_;refine iS (NQ hI rfl (by simp) (Do ⟨x,rfl,Do (hQ _ ?_ (Lu ..))⟩));exact Ll _ hI rfl
theorem tH {T:KO}{places:List DO}{n':Nat}(hh:A.handled=bY)(hI:s.heap.get? I=J (my (.ref T) i S es.size ep))(hS:s.heap.get? S=J (ie es ep t))(hf:t.fits es.size=aT)
  (hTT:s.heap.get? T=J { cls:=.type "tuple",dict:=none,data:=.seq places.toArray n',slots:=#[] }) (hp:places[i]?=bY)
  (hQ:∀h',Ow I s.heap h'->Q bY { s with heap:=h' }):BY (model prog w) A (pyNext (.ref I)) Q E s:=by
 have hT:s.TypeIs (.ref I) "set_iterator":=⟨_,hI,rfl⟩
 unfold pyNext;refine iS (OG (Mk (name:=Mi "__next__") hT aM (Mf aM hT cf ?_ (cr _))));unfold Builtin.«set_iterator.__next__»;refine iS (Do ?_);refine iS (Oq hI rfl ?_);dsimp only;refine iS (MH hS rfl hf ?_);rw [if_neg (by simp)];refine iS (wpAny_seqItems hTT rfl ?_);dsimp only;have hp':places.toArray[(i:Int).toNat]?=bY:=by simpa using hp
 rw [hp'];refine iS (NQ hI rfl (by simp) ?_);have hI1:(s.heap.update I (OH (·.setIfInBounds 0 (rawInt 0)))).get? I=J (my (.int 0 0) i S es.size ep):=Ll _ hI rfl;exact zb (s:={ s with heap:=s.heap.update I (OH (·.setIfInBounds 0 (rawInt 0))) }) hh hI1 (by decide) λh' he=>hQ h' λb o hb e=>he b o hb (((Lu ..).2 b hb).trans e)
end
end
section
set_option maxRecDepth 100000
section
theorem Cr (hn:n≠0)(h:∀k d,k<n->Q k { s with drawn:=d }):BY M A (choose src n) Q E s:=λ_ _ _=>by
 show Sem.wp _ _ (.choose src n _) _ _ _ _;rw [Sem.wp_choose];exact ⟨hn,h _ _ (PD _ (Os hn))⟩
theorem jL:∀{xs:List α}{i:Nat}{x:α},xs[i]?=J x->(x::xs.eraseIdx i).Perm xs
 | [],_,_,h=>by simp at h
 | a::r,0,x,h=>by simp at h;subst h;simp
 | a::r,i+1,x,h=>by
  simp at h;have:=jL h;simp only [List.eraseIdx_cons_succ];exact (Pw.swap a x _).trans (this.cons a)
theorem nM:∀(n:Nat) (xs:List α) (s:Kv) {Q:List α->Kv->Prop},xs.length=n->(∀ys d,ys.Perm xs->Q ys { s with drawn:=d })->BY M A (drawOrder n xs) Q E s
 | 0,[],s,Q,_,h=>Do (h [] s.drawn (.refl _))
 | 0,_::_,_,_,hl,_=>by cases hl
 | n+1,[],_,_,hl,_=>by cases hl
 | n+1,x::xs,s,Q,hl,h=>by
  refine iS (Cr (by simp) λk d hk=>?_);have hy:=KC hk;simp only [hy];refine iS (nM n _ _ ?_ λys d' hp=>Do ?_)
  ·rw [List.length_eraseIdx_of_lt hk];simp at hl ⊢;exact hl
  ·exact h _ d' ((hp.cons _).trans (jL hy))
theorem u5 (next:Nat->Nat):∀(fuel k:Nat) (left:List α) (out:Array α),left.length=fuel->(pickOrder.go next fuel k left out).toList.Perm (out.toList++left)
 | 0,k,[],out,_=>by rw [Kr];exact .refl _
 | 0,k,_::_,out,h=>by cases h
 | n+1,k,left,out,h=>by
  show (match left[next k % left.length]? with
   | some x=>pickOrder.go next n (k+1) (left.eraseIdx (next k % left.length)) (out.push x)
   | none=>out).toList.Perm _
  have hlt:next k % left.length<left.length:=PD _ (n1 (Km h.symm))
  have hy:=KC hlt;rw [hy];refine (u5 next n (k+1) _ _ (by rw [List.length_eraseIdx_of_lt hlt,h];rfl)).trans ?_;rw [Array.toList_push,Ks];exact (jL hy).append_left _
theorem pn (next:Nat->Nat)(xs:Array α):(pickOrder next xs).toList.Perm xs.toList:=by
 have:=u5 next xs.size 0 xs.toList #[] (by exact rfl)
 simpa [pickOrder] using this
theorem zd (hI:s.heap.get? I=J (my first i S n ep))(h:Q (.ref I) s):BY (model prog w) A (pyIter (.ref I)) Q E s:=by
 have hT:s.TypeIs (.ref I) "set_iterator":=⟨_,hI,rfl⟩
 refine wpAny_pyIter_slot hT fJ (Mf fJ hT jK ?_ (j9 _));exact Do ⟨_,rfl,"set_iterator",_,hT,aM.lookup,h⟩
theorem nN (hs:K8 I s.heap h'):Moved [I] (λa b=>b=a) s { s with heap:=h' }:=⟨λb o hb e=>(hs.2 b (by exact λq=>hb (iD.mpr q))).trans e,rfl,rfl,rfl,oF _⟩
theorem pq (hs:Ow I s.heap h'):Moved [I] (λa b=>b=a) s { s with heap:=h' }:=⟨λb o hb e=>hs b o (by exact λq=>hb (iD.mpr q)) e,rfl,rfl,rfl,oF _⟩
theorem rF {I S:KO}{es:Array (Int × DO)}{ep:Nat}{t:SetTable}{vs:List DO}{sl:Nat->Nat}(hh:A.handled=bY)(hIS:I≠S)(hf:t.fits es.size=aT)(hlen:vs.length=es.size)
  (hn:∀(s:Kv),s.heap.get? S=J (ie es ep t)->∀i v,vs[i]?=J v->∀(A:M9) (Q:Option (DO × Nat)->Kv->Prop) (E:DO->Kv->Prop),Q (J (v,sl (i+1))) s->BY (model prog w) A (setNext S (sl i) i ep) Q E s)
  (hd:∀(s:Kv),s.heap.get? S=J (ie es ep t)->∀(A:M9) (Q:Option (DO × Nat)->Kv->Prop) (E:DO->Kv->Prop),Q bY s->BY (model prog w) A (setNext S (sl vs.length) vs.length ep) Q E s) :
  WalksS prog w A I [I,S] [I] (λa b=>b=a) vs.length (λi v=>vs[i]?=J v) (λi s=>s.heap.get? I=J (my (.int (sl i) 0) i S es.size ep)/\s.heap.get? S=J (ie es ep t)) where
 sub:=λb hb=>by simp at hb;subst hb;simp
 grefl:=λ_=>rfl
 gtrans:=λ_ _ _ h1 h2=>h2.trans h1
 frame:=λi s h' tk st _ hk=>⟨hk I (by exact IS ..) _ st.1,hk S (by exact IN _ (IS ..)) _ st.2⟩
 item:=λi s Q E hi st hQ=>by
  have hv:=KC hi;exact za st.1 st.2 hf (hn s st.2 i _ hv) λh' hI' hs=>hQ _ _ hv ⟨hI',(hs.2 S (LP hIS)).trans st.2⟩ (nN hs)
 done:=λs Q E st hQ=>zc hh st.1 st.2 hf (hd s st.2) λh' he=>hQ _ (pq he)
 self:=λi s Q E st hQ=>zd st.1 hQ
theorem tI {es:Array (Int × DO)}{t:SetTable}{vs:List DO}{ks:List Nat}(hh:A.handled=bY)(hIS:I≠S)(hIT:I≠T)(hf:t.fits es.size=aT)(hlen:ks.length=vs.length)
  (hn:∀(i:Nat) (v:DO),vs[i]?=J v->∃(k:Nat) (h:Int),ks[i]?=J k/\es[k]?=J (h,v)) :
  WalksS prog w A I [I,S,T] [I] (λa b=>b=a) vs.length (λi v=>vs[i]?=J v) (λi s=>s.heap.get? I=J (my (.ref T) i S es.size ep)/\s.heap.get? S=J (ie es ep t)/\
   s.heap.get? T=J { cls:=.type "tuple",dict:=none,data:=.seq (ks.map (λ(k:Nat)=>rawInt k)).toArray n',slots:=#[] }) where
 sub:=λb hb=>by simp at hb;subst hb;simp
 grefl:=λ_=>rfl
 gtrans:=λ_ _ _ h1 h2=>h2.trans h1
 frame:=λi s h' tk st _ hk=>⟨hk I (by exact IS ..) _ st.1,hk S (by exact IN _ (IS ..)) _ st.2.1,hk T (by simp) _ st.2.2⟩
 item:=λi s Q E hi st hQ=>by
  have hv:=KC hi;refine e22 (hn i _ hv) λk h hk hx=>?_;exact tG (k:=k) st.1 st.2.1 hf st.2.2 (by rw [ID,hk];rfl) hx λh' hI' hs=>hQ _ _ hv ⟨hI',(hs.2 S (LP hIS)).trans st.2.1,(hs.2 T (LP hIT)).trans st.2.2⟩ (nN hs)
 done:=λs Q E st hQ=>tH hh st.1 st.2.1 hf st.2.2 (by rw [ID,Li (n1 (Km hlen))];rfl) λh' he=>hQ _ (pq he)
 self:=λi s Q E st hQ=>zd st.1 hQ
end
end
section
set_option backward.match.sparseCases true
set_option maxRecDepth 100000
section
theorem pt (hb:cV w=aT)(hS:s.heap.get? S=J (ie es ep t))(hf:t.fits es.size=aT)
  (h:Q (((pickOrder (w.params.setOrder S ep) es)[i]?).map λe=>(e.2,slot)) s):BY (model prog w) A (setNext S slot i ep) Q E s:=by
 unfold setNext;refine iS (MA hS rfl hf ?_);dsimp only;unfold setsByText;refine iS (iS (MR (Do ?_)));show BY _ _ (if cV w=aT then _ else _) _ _ _;rw [hb,if_pos rfl];rw [if_neg (by simp)];unfold setWalk;refine iS (iS (MA hS rfl hf ?_));dsimp only;unfold setsByText;refine iS (iS (MR (Do ?_)));show BY _ _ (if cV w=aT then _ else _) _ _ _;rw [hb,if_pos rfl];refine iS (MR (Do (Do ?_)));exact h
theorem rG (hb:cV w=Z)(hS:s.heap.get? S=J (ie es ep t))(hf:t.fits es.size=aT)(hl:t.led=aT)(h1:es.size<=1)
  (h:Q (match es[MU t.place slot]?,t.place[MU t.place slot]? with
   | some (_,x),J j=>J (x,j+1)
   | _,_=>bY) s):BY (model prog w) A (setNext S slot i ep) Q E s:=by
 unfold setNext;refine iS (MA hS rfl hf ?_);unfold setsByText;refine iS (iS (MR (Do ?_)));show BY _ _ (if cV w=aT then _ else _) _ _ _;rw [hb,if_neg (by decide)];show BY _ _ (if (!t.plain&&decide (es.size > 1))=aT then _ else _) _ _ _;rw [if_neg (by simp;intro _;exact h1)];refine iS ?_;show BY _ _ (if (!t.led&&!es.isEmpty)=aT then _ else _) _ _ _;rw [if_neg (by rw [hl];simp)];exact Do (Do h)
theorem pu (j slot:Nat):MU #[j] slot=if j<slot then 1 else 0:=by
 unfold MU;unfold Oy;simp
 split
 ·unfold Oy;rfl
 ·unfold Oy;rfl
theorem Cs (h:ElemsOf (Lc prog w) l):∀v∈l.map (·.2),∃x t,v=.str x t:=λv hv=>by
 obtain ⟨e,he,rfl⟩:=KW.mp hv;refine e21 (rC h e he) λk t e=>?_;exact ⟨k,t,e⟩
theorem F7 (hS:jJ prog w s.heap S ks)(hz:ks.length<scanBound)
  (h:∀(I:KO) (vs:List DO) (ss:List Str) (h':KR) d,StrsAre vs ss->ss.Perm ks->(∀b o,s.heap.get? b=J o->h'.get? b=J o)->s.heap.get? I=bY->
   (∀A:M9,A.handled=bY->∃fp St,WalksS prog w A I fp [I] (λa b=>b=a) vs.length (λi v=>vs[i]?=J v) St/\St 0 { s with heap:=h',drawn:=d }/\(∀b∈fp,b=S\/s.heap.get? b=bY)/\I∈fp)->
   Q (.ref I) { s with heap:=h',drawn:=d }):BY (model prog w) A (pyIter (.ref S)) Q E s:=by
 obtain ⟨es,ep,t,ho,hf,hled,hpl,hel,hp,hn⟩:=hS;have hT:s.TypeIs (.ref S) "set":=⟨_,ho,rfl⟩
 have hlen:es.size=ks.length:=by rw [<-hp.length_eq,iF,Lv]
 have hS0:S<s.heap.objs.size:=Ln ho;have key:∀vs:List DO,vs.Perm (es.toList.map (·.2))->StrsAre vs (vs.map strOf)/\(vs.map strOf).Perm ks:=λvs hv=>
  ⟨strsAre_map vs λv hm=>Cs hel v (hv.mem_iff.mp hm),(hv.map strOf).trans (by rw [OW];exact hp)⟩
 refine wpAny_pyIter_slot hT PySem.F.slot_set_iter (Mf PySem.F.slot_set_iter hT nL ?_ (PySem.F.args_set_iter_1 _));unfold Builtin.«frozenset.__iter__» Builtin.Frozenset.slot0 slotArgs;simp only [List.isEmpty_nil,Bool.not_true,Bool.false_eq_true,↓reduceIte,bind_assoc,NC,bne_self_eq_false];unfold Builtin.Frozenset.addrOf Builtin.Frozenset.sizeOf;refine iS (Do ?_)
 try dsimp only
 refine iS (Do ?_);refine iS (iS (MH ho rfl hf (Do ?_)));unfold setDrawn;refine iS (iS (MA ho rfl hf ?_));unfold setsByText;refine iS (iS (MR (Do ?_)));refine Do ?_;show BY _ _ (if (!cV w&&(!t.plain&&decide (es.size > 1)))=aT then _ else _) _ _ _;have stay:∀(o:OO) (h₁:KR),(∀b ob,s.heap.get? b=J ob->h₁.get? b=J ob)->∀b ob,s.heap.get? b=J ob->(h₁.push o).get? b=J ob:=λo h₁ k b ob e=>Kt _ (k b ob e);have nosz:∀a,s.heap.objs.size<=a->s.heap.get? a=bY:=λa ha=>by
  cases e:s.heap.get? a with
  | none=>rfl
  | some o=>exact absurd (Ln e) (OR.mpr ha)
 by_cases hd:(!cV w&&(!t.plain&&decide (es.size > 1)))=aT
 ·rw [if_pos hd];refine iS (nM es.size (LH es.size) s (by simp) λps d hps=>?_);have hpl:ps.length=es.size:=by rw [hps.length_eq];simp
  refine iS (wpAny_newTuple ?_ (by rw [iF,hpl,hlen];exact NP hz));have k1:∀b ob,s.heap.get? b=J ob->(s.heap.push { cls:=.type "tuple",data:=.seq (ps.map (λ(i:Nat)=>rawInt i)).toArray }).get? b=J ob:=λb ob e=>Kt _ e;refine iS (wpAny_setEpoch_of (s:={ s with heap:=s.heap.push { cls:=.type "tuple",data:=.seq (ps.map (λ(i:Nat)=>rawInt i)).toArray },drawn:=d }) (k1 _ _ ho) rfl hf ?_);refine iS (Lz ?_);have hsz:(s.heap.push { cls:=.type "tuple",data:=.seq (ps.map (λ(i:Nat)=>rawInt i)).toArray }).objs.size=s.heap.objs.size+1:=Pa ..;have hps':∀k∈ps,k<es.size:=λk hk=>by simpa using hps.mem_iff.mp hk
  have hvp:(ps.map (λk=>(es.toList.map (·.2)).getD k .none)).Perm (es.toList.map (·.2)):=by
   have e1:(LH es.size).map (λk=>(es.toList.map (·.2)).getD k .none)=es.toList.map (·.2):=by
    apply Oz;intro i;rw [ID];by_cases hi:i<es.size
    ·rw [List.getElem?_range hi];simp [List.getD,hi]
    ·rw [Li (by simpa using hi),Li (by simpa using hi)];rfl
   have:=hps.map (λk=>(es.toList.map (·.2)).getD k .none)
   rwa [e1] at this
  obtain ⟨kv1,kv2⟩:=key _ hvp;have hI:∀(o:OO),o.isFreed=Z->((s.heap.push { cls:=.type "tuple",data:=.seq (ps.map (λ(i:Nat)=>rawInt i)).toArray }).push o).get? (s.heap.objs.size+1)=J o:=λo hf=>by rw [<-hsz];exact KM _ hf
  refine Do ⟨_,rfl,"set_iterator",_,⟨_,KM _ rfl,rfl⟩,aM.lookup,?_⟩;rw [hsz];refine h (s.heap.objs.size+1) _ _ _ d kv1 kv2 (stay _ _ k1) (by
   cases e:s.heap.get? (s.heap.objs.size+1) with
   | none=>rfl
   | some o=>exact absurd (Ln e) (OR.mpr (Ma _))) λA hh=>⟨_,_,tI (I:=s.heap.objs.size+1) (S:=S) (T:=s.heap.objs.size) (es:=es) (ep:=ep) (t:=t) (n':=0) (ks:=ps) hh (Lg (M6 hS0)) (MN _) hf (by simp) λi v hv=>?_,
    ⟨hI _ rfl,Kt _ (k1 _ _ ho),Kt _ (KM _ rfl)⟩,?_,by simp⟩
  ·rw [ID] at hv
   cases hk:ps[i]? with
   | none=>rw [hk] at hv;cases hv
   | some k=>
    rw [hk] at hv;have hlt:=hps' k (rW hk);have hv:(es.toList.map (·.2)).getD k .none=v:=By hv;refine ⟨k,es[k].1,rfl,?_⟩;rw [Nk hlt];simp [List.getD,hlt] at hv;rw [<-hv]
  ·intro b hb;simp at hb
   rcases hb with rfl | rfl | rfl
   ·exact .inr (nosz _ (Ma _))
   ·exact .inl rfl
   ·exact .inr (nosz _ (oF _))
 ·rw [if_neg hd];refine iS (Do ?_);refine iS (wpAny_setEpoch_of ho rfl hf ?_);refine iS (Lz ?_);refine Do ⟨_,rfl,"set_iterator",_,⟨_,KM _ rfl,rfl⟩,aM.lookup,?_⟩;have hI0:s.heap.get? s.heap.objs.size=bY:=by
   cases e:s.heap.get? s.heap.objs.size with
   | none=>rfl
   | some o=>exact absurd (Ln e) (Nt _)
  have hfp:∀b∈[s.heap.objs.size,S],b=S\/s.heap.get? b=bY:=λb hb=>by
   simp at hb
   rcases hb with rfl | rfl
   ·exact .inr hI0
   ·exact .inl rfl
  cases hb:cV w with
  | true=>
   have hvp:((pickOrder (w.params.setOrder S ep) es).toList.map (·.2)).Perm (es.toList.map (·.2)):=(pn _ es).map _;refine e02 (key _ hvp) λkv1 kv2=>?_;refine h s.heap.objs.size _ _ _ s.drawn kv1 kv2 (stay _ _ λb ob e=>e) hI0 λA hh=>⟨_,_,rF (I:=s.heap.objs.size) (S:=S) (es:=es) (ep:=ep) (t:=t) (sl:=λ_=>0) hh (Lg hS0) hf (by rw [iF,(pn _ es).length_eq];simp) (λs' hs' i v hv A Q E hq=>pt hb hs' hf ?_) (λs' hs' A Q E hq=>pt hb hs' hf ?_),
    ⟨KM _ rfl,Kt _ ho⟩,hfp,by simp⟩
   ·rw [ID,M5] at hv
    cases he:(pickOrder (w.params.setOrder S ep) es)[i]? with
    | none=>rw [he] at hv;cases hv
    | some e=>rw [he] at hv;cases hv;exact hq
   ·rw [iF,Lv,M3 (oF _)];exact hq
  | false=>
   have hl1:t.led=aT:=by rw [hled,hb];rfl
   have hsz1:es.size<=1:=by
    rw [hb] at hd;refine hpl.elim (λq=>?_) λq=>?_
    ·exact n1 (Km q)
    ·rw [q] at hd;simp at hd;exact hd
   have hpsz:t.place.size=es.size:=by
    simp only [SetTable.fits,IT,beq_iff_eq] at hf;exact hf.1
   refine e02 (key (es.toList.map (·.2)) (.refl _)) λkv1 kv2=>?_;refine h s.heap.objs.size _ _ _ s.drawn kv1 kv2 (stay _ _ λb ob e=>e) hI0 λA hh=>⟨_,_,rF (I:=s.heap.objs.size) (S:=S) (es:=es) (ep:=ep) (t:=t) (sl:=λi=>if i=0 then 0 else t.place.getD 0 0+1) hh (Lg hS0) hf (by exact iF ..) (λs' hs' i v hv A Q E hq=>rG hb hs' hf hl1 hsz1 ?_) (λs' hs' A Q E hq=>rG hb hs' hf hl1 hsz1 ?_),
    ⟨KM _ rfl,Kt _ ho⟩,hfp,by simp⟩
   ·rw [ID,M5] at hv;have hi:i=0:=by
     refine Lm (LO i es.size) (λq=>?_) λq=>?_
     ·lia
     ·rw [M3 q] at hv;exact aJ hv
    subst hi;have h1:es.size=1:=by
     refine Lm (LO 0 es.size) (λq=>?_) λq=>?_
     ·lia
     ·rw [M3 q] at hv;exact aJ hv
    obtain ⟨j,hj⟩:∃j,t.place=#[j]:=Array.size_eq_one_iff.mp (by rw [hpsz,h1]);rw [hj,pu];simp only [if_true,Mu,if_false]
    cases he:es[0]? with
    | none=>rw [he] at hv;cases hv
    | some e=>
     rw [he] at hv;cases hv;have hj':t.place.getD 0 0=j:=by rw [hj];rfl
     simp only [Nat.add_eq_zero_iff,Nat.one_ne_zero,and_false,if_false,hj'] at hq;exact hq
   ·have e0:∀k,es.size<=k->es[k]?=bY:=λk hk=>M3 hk
    rcases Om es.size with q | q
    ·rw [e0 _ (n1 (Km q))];exact hq
    ·have h1:es.size=1:=by lia
     obtain ⟨j,hj⟩:∃j,t.place=#[j]:=Array.size_eq_one_iff.mp (by rw [hpsz,h1]);have hj':t.place.getD 0 0=j:=by rw [hj];rfl
     rw [hj,pu,hj.symm,hj'];have hvl:(es.toList.map (λx=>x.2)).length=1:=by (rw [iF];exact h1)
     rw [hvl];simp only [Nat.one_ne_zero,if_false,Lp,if_true];rw [e0 _ (hsz1)];exact hq
end
end
section
set_option maxRecDepth 100000
section
theorem F8 (ho:s.heap.get? S=J (ie es ep t))(h:Q Z s):BY (model prog w) A (Builtin.List.listLengthHint (.ref S)) Q E s:=by
 have hT:s.TypeIs (.ref S) "set":=⟨_,ho,rfl⟩
 unfold Builtin.List.listLengthHint;refine iS (wpAny_specialOf hT PySem.F.slot_set_len.lookup ?_)
 (generalize hid:("set.__len__":String)=id0;(fail_if_success (clear hid id0));wp_delta;rw [show splitId id0=J ("set","__len__") from by subst hid;decide +kernel];subst hid)
 refine iS (wpAny_isInstance (b:=true) hT (by rw [O9];kernel_rfl) ?_);refine iS (OU hT ?_);exact Do h
structure Ct (s s':Kv):Prop where
 heap:∀b o,s.heap.get? b=J o->s'.heap.get? b=J o
 gens:s'.gens=s.gens
 os:s'.os=s.os
theorem xe (hh:A.handled=bY)(hS:jJ prog w s.heap S ks)(hz:ks.length<scanBound)
  (h:∀vs ss s',StrsAre vs ss->ss.Perm ks->Ct s s'->Q vs s'):BY (model prog w) A (collect (.ref S)) Q E s:=by
 obtain ⟨es,ep,t,ho,hrest⟩:=id hS;unfold collect;refine iS (wpAny_runValue (M4 PySem.F.entry_proto_collect ?_));rw [MB PySem.F.plain_proto_collect _];show BY _ A.in1 (newList [] >>= λl=>again (.builtin "list.__iadd__" ⟨[l,.ref S],[]⟩)) _ _ s;refine iS (Lz ?_);refine Do ⟨OF PySem.F.plain_list_iadd _,M4 PySem.F.entry_list_iadd ?_⟩;rw [MB PySem.F.plain_list_iadd _];show BY _ A.in1 (Builtin.List.listExtendWith (.ref s.heap.objs.size) (.ref S) (.ref s.heap.objs.size)) _ _ _;unfold Builtin.List.listExtendWith;have k1:∀b o,s.heap.get? b=J o->(s.heap.push { cls:=.type "list",data:=.seq ([]:List DO).toArray }).get? b=J o:=λb o e=>Kt _ e;have hS1:jJ prog w (s.heap.push { cls:=.type "list",data:=.seq ([]:List DO).toArray }) S ks:=nJ hS λo e=>k1 S o e;have hL1:(s.heap.push { cls:=.type "list",data:=.seq ([]:List DO).toArray }).get? s.heap.objs.size=J { cls:=.type "list",data:=.seq ([]:List DO).toArray }:=KM _ rfl;have hSne:S≠s.heap.objs.size:=KA (Ln ho);refine iS (OU (T:="set") ⟨_,k1 _ _ ho,rfl⟩ ?_);rw [if_neg (by simp [Builtin.List.listSameRef,LP hSne])];refine iS (F7 (s:={ s with heap:=s.heap.push { cls:=.type "list",data:=.seq ([]:List DO).toArray } }) hS1 hz λI vs ss h' d hst hperm hk hI0 hw=>?_);refine iS (K4 (F8 (es:=es) (ep:=ep) (t:=t) (hk _ _ (k1 _ _ ho)) ?_));rw [if_pos (by decide)];refine iS (OX ?_);have hL2:=hk _ _ hL1;refine iS ?_;show BY _ A.in1 (updateSeq s.heap.objs.size (·.push .none) >>= λ_=>updateSeq s.heap.objs.size (·.pop)) _ _ _;refine iS (wpAny_updateSeq hL2 rfl ?_);have hL3:=Ll (MG (·.push Nd)) hL2 rfl;refine wpAny_updateSeq hL3 rfl ?_;have hL4:=Ll (MG (·.pop)) hL3 rfl;have oth:∀b o,b≠s.heap.objs.size->h'.get? b=J o->((h'.update s.heap.objs.size (MG (·.push Nd))).update s.heap.objs.size (MG (·.pop))).get? b=J o:=
  λb o hb e=>(KR.get?_update_other _ _ (LP hb)).trans ((KR.get?_update_other _ _ (LP hb)).trans e)
 obtain ⟨fp,St,W,st0,hfp,hIf⟩:=hw A.in1 hh;have hLf:s.heap.objs.size∉fp:=λq=>by
  rcases hfp _ q with e | e
  ·exact hSne e.symm
  ·rw [show (s.heap.push { cls:=.type "list",data:=.seq ([]:List DO).toArray }).get? s.heap.objs.size=_ from hL1] at e;exact jF e
 have hvl:vs.length<=sizeLine:=by
  rw [<-nK hst,hperm.length_eq];exact NP hz
 refine Do ⟨OF PySem.F.plain_extend_loop _,codeAny_extend_loopS W hvl _ hLf _ vs.length 0 _ _ _ rfl (Ko _)
  (W.frame 0 { s with heap:=h',drawn:=d } ((h'.update s.heap.objs.size (MG (·.push Nd))).update s.heap.objs.size (MG (·.pop))) s.toks st0 (oF _) λb hb o e=>oth b o (λq=>hLf (q▸hb)) e) hL4 (ItemsOf.nil _) λs' acc' c' hm hS' hacc=>?_⟩
 show BY _ A (load s.heap.objs.size >>= _) _ _ s';refine iS (wpAny_load hS' ?_);have hacc':acc'.toList=vs:=by
  apply Oz;intro i
  rcases LO i vs.length with q | q
  ·have hi:i<acc'.size:=by rw [hacc.1];exact q
   have:=hacc.2 i acc'[i] (Nk hi);rw [this,M5,Nk hi]
  ·rw [Li q,Li (by rw [Lv,hacc.1];exact q)]
 show BY _ A (pure acc'.toList) _ _ s';rw [hacc'];refine Do (h vs ss s' hst hperm ⟨λb o e=>?_,hm.gens,hm.os⟩);have hb1:b≠s.heap.objs.size:=KA (Ln e);refine hm.heap b o ?_ (oth b o hb1 (hk b o (k1 b o e)));simp only [IF,LD,or_false,not_or];refine ⟨hb1,λq=>?_⟩;rw [q] at e;rw [k1 _ _ e] at hI0;exact jF hI0
theorem rH {h:KR}{vs:List DO}(e:h.get? b=J o):(sortedHeap (h.push (seqObj "list" vs.toArray 0)) h.objs.size vs out).get? b=J o:=by
 have hlt:=Ln e;rw [sortedHeap_old (KA hlt) (by rw [Pa];exact M6 hlt)];exact Kt _ e
theorem ze {ks:List Str}(hh:A.handled=bY)(hz:ks.length<iQ)
  (hc:∀{A:M9}{E:DO->Kv->Prop}{Q:List DO->Kv->Prop},A.handled=bY->(∀vs ss s',StrsAre vs ss->ss.Perm ks->Ct s s'->Q vs s')->BY (model prog w) A (collect (.ref S)) Q E s)
  (h:∀a s' (out:Array DO) ss e,Ct s s'->s.heap.get? a=bY->s'.heap.get? a=J (seqObj "list" out e)->StrsAre out.toList ss->ss.Perm ks->sortedS ss=aT->Q (.ref a) s') :
  BY (model prog w) A (call (.builtin "sorted") [.ref S]) Q E s:=by
 refine Calls.call_function_entry kind_sorted plain_sorted entry_sorted (args_sorted1 _) ?_;unfold Builtin.«sorted»;refine iS (m:=checkCount "sorted" 1 1 _) (Do ?_);refine iS (hc hh λvs ss s' hst hperm hsm=>?_);have hvl:vs.length<64:=by rw [<-nK hst,hperm.length_eq];exact hz
 refine iS (wpAny_newList ?_ (by have:=sizeLine_eq;exact n2 (Km this.symm) hvl));have hoL:(s'.heap.push (seqObj "list" vs.toArray 0)).get? s'.heap.objs.size=J (seqObj "list" vs.toArray 0):=KM _ rfl;refine iS (K4 (Mf (s:={ s' with heap:=s'.heap.push (seqObj "list" vs.toArray 0) }) slot_list_sort ⟨_,hoL,rfl⟩ entry_list_sort (list_sort_treeK strKind_oneLt hoL hst.keysOf (λv₁ v₂ rest e=>keyKind_strs (by rw [<-e];exact hst)) hvl λst' a1 a2=>⟨_,rfl,?_⟩) (args_list_sort _)));obtain ⟨ss',h1,h2,h3⟩:=sorted_out_str hst a1 a2;obtain ⟨e,he⟩:=sortedHeap_at (out:=(arrOf st').map (·.2)) hoL;refine Do ⟨_,rfl,h _ _ _ ss' e ⟨λb o eb=>?_,hsm.gens,hsm.os⟩ ?_ he h1 (h2.trans hperm) h3⟩
 ·exact rH (hsm.heap b o eb)
 ·cases q:s.heap.get? s'.heap.objs.size with
  | none=>rfl
  | some o=>exact absurd (Ln (hsm.heap _ o q)) (Nt _)
theorem zf {ks:List Str}(hh:A.handled=bY)(hS:jJ prog w s.heap S ks)(hz:ks.length<iQ)
  (h:∀a s' (out:Array DO) ss e,Ct s s'->s.heap.get? a=bY->s'.heap.get? a=J (seqObj "list" out e)->StrsAre out.toList ss->ss.Perm ks->sortedS ss=aT->Q (.ref a) s') :
  BY (model prog w) A (call (.builtin "sorted") [.ref S]) Q E s:=ze hh hz (λhh h=>xe hh hS (by unfold scanBound;exact dO hz (nb rfl)) h) h
end
end
theorem pv:∀(p:Str) (l:List Str),risingS p l=aT->(p::l).Nodup->((p::l).map (λx=>x.cps.toList)).Pairwise (· < ·)
 | p,[],_,_=>by simp
 | p,x::r,h,hn=>by
  unfold risingS at h;simp only [IT,Lh,ltCps_eq,decide_eq_false_iff_not] at h;obtain ⟨hn1,hn2⟩:=Mm.mp hn;have ih:=pv x r h.2 hn2;have hne:p.cps.toList≠x.cps.toList:=λq=>hn1 (by
   have:p=x:=by
    obtain ⟨⟨a⟩⟩:=p;obtain ⟨⟨b⟩⟩:=x;simp at q;subst q;rfl
   rw [this];exact IS ..)
  have hpx:p.cps.toList<x.cps.toList:=by
   refine Lm (Classical.em (p.cps.toList<x.cps.toList)) (λq=>?_) λq=>?_
   ·exact q
   ·exact absurd (List.le_antisymm (O8.mp h.1) (O8.mp q)) hne
  rw [Nx];refine Mg.mpr ⟨λy hy=>?_,ih⟩;rw [Nx] at hy ih;refine e02 (Mg.mp ih) λi1 _=>?_
  rcases IF.mp hy with rfl | hy
  ·exact hpx
  ·exact Pg hpx (i1 y hy)
theorem xf (h:sortedS l=aT)(hn:l.Nodup):(l.map (λx=>x.cps.toList)).Pairwise (· < ·):=by
 cases l with
 | nil=>simp
 | cons p r=>exact pv p r h hn
set_option tactic.hygienic true in
theorem ka (ss:List Str):(cW ss).Nodup:=by
 have:∀(ss ks:List Str),ks.Nodup->(ss.foldl j8 ks).Nodup:=by
  intro ss
  induction ss with
  | nil=>intro ks h;exact h
  | cons s r ih=>
   intro ks h;refine ih _ ?_;unfold j8
   split
   ·exact h
   ·rename_i hk;rw [K1];exact ⟨h,by simp,λx hx y hy=>by
     have:y=s:=by simpa using hy
     subst this;intro q;subst q;exact hk hx⟩
 exact this ss [] MT
theorem Cu (hp:ss'.Perm (cW (ss.map (λx=>(⟨x.toArray⟩:Str)))))(hs:sortedS ss'=aT):ss'.map (λx=>x.cps.toList)=aK ss:=by
 have hn:ss'.Nodup:=hp.nodup_iff.mpr (ka _);refine Ew (xf hs hn) (mK ss) λx=>?_;rw [aE];constructor
 ·intro h;obtain ⟨y,hy,rfl⟩:=KW.mp h;have:=fg.mp (hp.mem_iff.mp hy);obtain ⟨z,hz,rfl⟩:=KW.mp this
  simpa using hz
 ·intro h;refine KW.mpr ⟨⟨x.toArray⟩,hp.mem_iff.mpr (fg.mpr (KW.mpr ⟨x,h,rfl⟩)),by simp⟩
theorem zg:(cW (ss.map (λx=>(⟨x.toArray⟩:Str)))).length=(aK ss).length:=by
 have:∀(l m:List (List Nat)),l.Nodup->m.Nodup->(∀x,x∈l↔x∈m)->l.length=m.length:=λl m h1 h2 h=>((List.perm_ext_iff_of_nodup h1 h2).mpr h).length_eq;have hn:((cW (ss.map (λx=>(⟨x.toArray⟩:Str)))).map (λx=>x.cps.toList)).Nodup:=by
  refine List.pairwise_map.mpr ((ka _).imp λ{p x} hne q=>hne ?_);obtain ⟨⟨a⟩⟩:=p;obtain ⟨⟨b⟩⟩:=x;simp at q;subst q;rfl
 have:=this _ (aK ss) hn ((mK ss).imp λh q=>by subst q;exact Nf _ h) λx=>by
  rw [aE];constructor
  ·intro h;obtain ⟨y,hy,rfl⟩:=KW.mp h;obtain ⟨z,hz,rfl⟩:=KW.mp (fg.mp hy)
   simpa using hz
  ·intro h;exact KW.mpr ⟨⟨x.toArray⟩,fg.mpr (KW.mpr ⟨x,h,rfl⟩),by simp⟩
 simpa using this
section
set_option backward.match.sparseCases true
section
theorem zh {ss:List (List Nat)}(r:aL C ρ h (ss.map .str) items):StrsAre items (ss.map (λx=>(⟨x.toArray⟩:Str)))/\∀x∈ss,x.length<=line:=by
 induction ss generalizing items with
 | nil=>rw [r.inv];exact ⟨.nil,λx hx=>aO hx⟩
 | cons x ss ih=>
  obtain ⟨v,ws,rfl,a,b⟩:=r.inv;obtain ⟨t,rfl,z⟩:=a.inv;obtain ⟨h1,h2⟩:=ih b;exact ⟨.cons _ t h1,λy hy=>(IF.mp hy).elim (λe=>e▸z) (h2 y)⟩
theorem zi (r:StrsAre items ss)(hz:∀x∈ss,x.cps.toList.length<=line):aL C ρ h ((ss.map (λx=>x.cps.toList)).map .str) items:=by
 induction r with
 | nil=>exact .nil
 | cons x t r ih=>exact .cons (.str x.cps.toList t (hz x (IS ..))) (ih λy hy=>hz y (IN _ hy))
set_option tactic.hygienic true in
theorem Cv (cx:aC C c F n)(iargs:∀a∈args,SV C X n c F a)(hz:xSS c b e=J z)(hc:bq c args [z]=aT)(hb:∀{x' y':Str},FM b x' y'=aT->x'=x/\y'=y)(hm1:(x,f)∈c0)(hm2:(y,g)∈c0)(hf:(∃id,f=.builtin id)\/∃T,f=.type T)(hg:(∃id,g=.builtin id)\/∃T,g=.type T)(h:jm (Call C) n args (λvs m=>o0 b vs Q m) X m)
  (hk:∀{ρ:List KO}{s:Kv}{m:MS}{x:MV}{v:DO},Rel C F ρ m s->Rep C ρ s.heap x v->gE b x Q m->∀{E:DO->Kv->Prop},BY (mod C) F.A (call g [v]) (λu s'=>BY (mod C) F.A (call f [u]) (Out C F ρ s Q) E s') E s):WPv C F X (eval e F.env) Q m:=by
 unfold xSS at hz;replace hz:=KV.mp hz;obtain ⟨⟨x',ys,pos⟩,hx,hz⟩:=hz;replace hz:=KV.mp hz;obtain ⟨y',hy,hz⟩:=hz;replace hz:=KV.mp hz;obtain ⟨⟨x'',zs,pos'⟩,hx',hz⟩:=hz
 cases cU hy
 obtain ⟨px,rfl⟩:=jI hx;obtain ⟨px',rfl⟩:=jI hx'
 split at hz
 rotate_left
 ·exact aJ hz
 rename_i hA
 cases cU hz
 obtain ⟨hA,g2⟩:=au hA;refine e02 (au hA) λhA g1=>?_;obtain ⟨rfl,rfl⟩:=hb hA;obtain ⟨a,rfl,hz,ha⟩:=y0 hc;intro s ρ R;refine LG rfl (dC cx R hm1 (aW g1).1 (aW g1).2 ?_);refine gc hf (by rw [bB (by rfl)];rfl) (by rw [bB (by rfl)];exact KX _ _) ?_;rw [bB (by rfl)];refine ND (LG rfl (dC cx R hm2 (aW g2).1 (aW g2).2 ?_));refine gc hg (by rw [bB hz];rfl) (by rw [bB hz];exact KX _ _) ?_;rw [bB hz];refine ND ((iargs a (.head _) z ha _ m h).go R (.refl _ _ _) λρ₁ s₁ m₁ x v st t1 R₁ rx h₁=>OA ?_);refine Kq (hk R₁ rx h₁) (λu s' q=>OA (Kq q (Out.back t1) λ_ _ x=>x)) λ_ _ x=>x
theorem IZ (G:GOk C)(cx:aC C c F n){args:List ME}(iargs:∀a∈args,SV C X n c F a){e z:KY}(hz:xSS c .sortedSet e=J z)(hnh:c.nh=aT)(hc:bq c args [z]=aT){Q:PQ}{m:MS}(h:jm (Call C) n args (λvs m=>o0 .sortedSet vs Q m) X m):WPv C F X (eval e F.env) Q m:=by
 refine Cv cx iargs hz hc (x:="sorted") (y:="set") (f:=.builtin "sorted") (g:=.type "set") (λq=>?_) (bu 10 rfl) (bu 11 rfl) (.inl ⟨_,rfl⟩) (.inr ⟨_,rfl⟩) h λ{ρ₁ s₁ m₁ x v} R₁ rx h₁ {E}=>?_
 ·refine e02 (au q) λq q2=>?_;obtain ⟨_,q1⟩:=au q;exact ⟨eq_of_beq q1,eq_of_beq q2⟩
 replace h₁:gE .sortedSet x Q m₁:=h₁;obtain ⟨r,rfl,h₁⟩:=fD h₁;obtain ⟨la,rfl,g⟩:=rx.inv;obtain ⟨xs,hi,ss,rfl,h64,h4000,hq⟩:=cY h₁;obtain ⟨items,n',gi,rl,zz⟩:=R₁.hp.objs _ _ _ hi g;refine e02 (zh rl) λhst hll=>?_;have hil:items.length<4000:=by rw [rl.length];simpa using h4000
 refine tF (cx.hn hnh) (items:=items.toArray) ⟨_,gi,rfl,_,rfl⟩ hst (by rw [Ky];unfold scanBound;exact n1 hil) λh' tk hS hk=>?_;refine e02 (R₁.grow (s':={ s₁ with heap:=h',toks:=tk }) cx.fm hk rfl rfl) λR₂ st₂=>?_;refine (zf (cx.hn hnh) (s:={ s₁ with heap:=h',toks:=tk }) hS (by rw [zg];exact h64) λa s' out ss' e hsm ha hout hst' hperm hsrt=>?_);have hset:=Cu hperm hsrt;obtain ⟨R₃,st₃⟩:=R₂.alloc (s':=s') cx.fm hsm.heap hsm.gens hsm.os (o:=.list ((aK ss).map .str)) (a:=a) ha
  ⟨out.toList,e,hout,by
   rw [<-hset];refine zi hst' λy hy=>?_;have:y∈cW (ss.map (λx=>(⟨x.toArray⟩:Str))):=hperm.mem_iff.mp hy;obtain ⟨w,hw,rfl⟩:=KW.mp (fg.mp this)
   simpa using hll w hw,by rw [iF];exact dO (LA h64) (nb rfl)⟩
 exact ⟨_,_,_,st₂.trans st₃,R₃,.ref (i:=m₁.heap.length) (by rw [<-R₂.hp.len,K7 (oF _)];simp),hq⟩
end
end
theorem F9 {c:Cx}{b:Bi}{e z:KY}(hb:∀x y,FM b x y=Z){P:Prop}(h:xSS c b e=J z):P:=by
 obtain ⟨q,_,h⟩:=KV.mp h;obtain ⟨y,_,h⟩:=KV.mp h;obtain ⟨r,_,h⟩:=KV.mp h;rw [hb] at h;exact aJ h
section
theorem Ga (cx:aC C c F n){args:List ME}(iargs:∀a∈args,SV C X n c F a){e z:KY}(hz:xSS c .listRev e=J z)(hnh:c.nh=aT)(hc:bq c args [z]=aT){Q:PQ}{m:MS}(h:jm (Call C) n args (λvs m=>o0 .listRev vs Q m) X m):WPv C F X (eval e F.env) Q m:=F9 (λ_ _=>rfl) hz
theorem Cw (G:GOk C)(R:Rel C F ρ m s)(ok:bb F){b:Bi}(hh:mI b=aT\/A.handled=bY){xs:List MV}{vs:List DO}(hl:aL C ρ s.heap xs vs){n:Str}{f:DO}(hb:oS b=J (n,f))(h:o0 b xs Q m):BY (mod C) A (call f vs) (Out C F ρ s Q) E s:=by
 by_cases q:b=.sorted
 ·subst q;exact aJ hb
 ·exact FH G R ok hh hl hb q h
end
theorem Gb (G:GOk C)(cx:aC C c F n)(iargs:∀a∈args,SV C X n c F a):SV C X n c F (.blt b args):=by
 intro e hc Q m h
 cases hb:Cc b with
 | true=>
  have hb':b=.sortedSet\/b=.listRev:=by cases b<;>first | exact .inl rfl | exact .inr rfl | exact ff hb
  rcases hb' with rfl | rfl
  ·replace hc:=ah hc;obtain ⟨z,hz,hc⟩:=hc;obtain ⟨hnh,hc⟩:=KU.mp hc;exact IZ G cx iargs hz hnh hc h
  ·replace hc:=ah hc;obtain ⟨z,hz,hc⟩:=hc;obtain ⟨hnh,hc⟩:=KU.mp hc;exact Ga cx iargs hz hnh hc h
 | false=>
  replace hc:(if Cc b=aT then _ else _)=aT:=hc;rw [hb] at hc;replace hc:=ah hc;obtain ⟨⟨x,ys,pos⟩,hx,hc⟩:=hc;obtain ⟨px,rfl⟩:=jI hx;simp only [IT,Lh] at hc;obtain ⟨⟨⟨⟨hnh,hg⟩,hf⟩,hne⟩,ha⟩:=hc;have hh:mI b=aT\/F.A.handled=bY:=by
   refine Lm (Np.mp hnh) (λq=>?_) λq=>?_
   ·exact .inr (cx.hn q)
   ·exact .inl q
  replace hf:=ah hf;obtain ⟨⟨z,f⟩,hb,hf⟩:=hf
  cases eq_of_beq hf
  intro s ρ R;refine LG rfl (dC cx R (FP hb) (aW hg).1 (aW hg).2 ?_);refine gc (FQ hb) (cF ha _ _) (je ha hne _ _) ?_;refine (qj G cx iargs ys ha _ m h pos).go R (.refl _ _ _) λρ₁ s₁ m₁ xs vs st t1 R₁ rl el h₁=>?_;exact Kq (Cw G R₁ cx.fm hh rl hb h₁) (Out.back t1) λ_ _ x=>x
theorem rI (h:dZ.contains x=aT):typeLookup (.type "object") x=pure bY:=by
 have key:∀y∈dZ,typeLookup (.type "object") y=pure bY:=by
  intro y hy;simp only [dZ,IF,LD,or_false] at hy
  rcases hy with rfl | rfl | rfl | rfl | rfl | rfl<;>(rw [Ml,Lx];kernel_rfl)
 exact key x (by simpa using h)
theorem zj (h:f9.contains x=aT):typeLookup (.type "object") x=pure bY:=by
 have key:∀y∈f9,typeLookup (.type "object") y=pure bY:=by
  intro y hy;simp only [f9,IF,LD,or_false] at hy
  rcases hy with rfl | rfl | rfl | rfl | rfl | rfl | rfl | rfl<;>(rw [Ml,Lx];kernel_rfl)
 exact key x (by simpa using h)
theorem tJ (h:(x.cps.toList==y)=aT):x=str y:=by
 rw [<-eq_of_beq h]
section
inductive J3 (h:KR)(K N:KO):Prop
 | mk (nm q:Str) (bs:List DO) (sn:List Str) (sub:List DO) (col:Option Bool) (dd:Option KO) (k0 k1 k2 k3 k5:Option DO) (e:h.get? K=J (excClassObj nm q K N bs [.type "object"] aT sn sub Z col dd k0 k1 k2 k3 k5 "object.__new__"))
theorem nP {h:KR}{K N:KO}{m:Str->Option DO}(x:ClsAt h K N m):J3 h K N:=by
 obtain ⟨nm,q,bs,sn,sub,col,dd,k0,k1,k2,k3,k5,e⟩:=x.obj;exact ⟨nm,q,bs,sn,sub,col,dd,k0,k1,k2,k3,k5,e⟩
inductive I0 (C:Glo)(ρ:List KO)(h:KR)(k i:Nat)(es:List (List Nat × MV))(v:DO):Prop
 | mk (a K N d:KO) (mA:Str->Option DO) (ev:v=.ref a) (hc:C.ca k=J K) (hN:ClsAt h K N (C.cm k)) (hao:h.get? a=J (lP K d)) (hρ:ρ[i]?=J d) (hns:h.Ns1 d mA) (I:h.Inst a K mA) (had:a≠d) (haK:a≠K)
   (h1:∀x v,aN es x=J v->∃w,mA (str x)=J w/\Rep C ρ h v w) (h2:∀x,aN es x=bY->mA (str x)=bY)
theorem nR (G:GOk C)(R:Rel C F ρ m s)(hx:Rep C ρ s.heap (.inst k i) v)(hi:m.heap[i]?=J (.attrs es)):I0 C ρ s.heap k i es v:=by
 obtain ⟨a,K,d,rfl,hc,hd,ha⟩:=hx.inv;obtain ⟨mA,hn,h1,h2,h3⟩:=R.hp.objs _ _ _ hi hd;obtain ⟨N,hN⟩:=G.cls k K hc;have hN':=hN.keeps λb o e=>R.hp.base b o e;have had:a≠d:=λq=>by
  subst q;refine e33 hn λo es' ep e hdat _=>?_;obtain rfl:=same ha e;exact nomatch hdat
 have haK:a≠K:=λq=>by
  subst q;obtain ⟨nm,q,bs,sn,sub,col,dd,k0,k1,k2,k3,k5,e⟩:=nP hN';exact nomatch congrArg OO.data (same ha e)
 exact ⟨a,K,N,d,mA,rfl,hc,hN',ha,hd,hn,⟨_,ha,rfl,λc=>by simp,.inr ⟨d,rfl,LP had,hn⟩⟩,had,haK,h1,h2⟩
theorem Gc (r:Rep C ρ h x v):handedOut v=pure v:=
 Rep.casesOn (motive_1:=λx v _=>handedOut v=pure v) r rfl (λ_=>rfl) (λ_ _=>rfl) (λ_ _ _=>rfl) (λ_ _ _=>rfl) (λ_=>rfl) (λ_ _ _=>rfl) (λ_ _ _ _=>rfl) (λ_ _ _=>rfl) (λ_ _ _=>rfl)
theorem Cy (G:GOk C)(cx:aC C c F n)(R:Rel C F ρ m s)(hx:Rep C ρ s.heap v w)(hy:y=str x)(hno:dZ.contains y=aT)(ha:c.at_ k y=aT)(h:yd k x v Q m) :
  BY (mod C) A (getAttr w y aT) (Out C F ρ s Q) E s:=by
 obtain ⟨i,rfl,h3⟩:=qX h;refine e12 (qW h3) λes hi h3=>?_;refine e12 (de h3) λu hg h3=>?_;obtain ⟨a,K,N,da,mA,rfl,hc,hN,_,_,_,I,_,_,h1,_⟩:=nR G R hx hi;refine e12 (h1 x u hg) λz hz rz=>?_;refine e03 (G.quiet _ _ hc) λq1 q2 q3=>?_;obtain ⟨nm,q,bs,sn,sub,col,dd,k0,k1,k2,k3,k5,e⟩:=nP hN;obtain ⟨hp,gg,dr,t,os⟩:=s;subst hy;exact load_attr e hN.ns q2 (cx.attr _ _ ha) (rI hno) I hz (Gc rz) (bP R cx.fm rz h3)
theorem Cz (G:GOk C)(cx:aC C c F n)(io:SV C X n c F o):SV C X n c F (.attr k o x):=by
 intro e hc Q m h;replace hc:=ah hc;obtain ⟨⟨ov,name,apos⟩,hx,hc⟩:=hc;have ee:=nn hx;subst ee;dsimp only at hc;obtain ⟨hc,ho⟩:=au hc;refine e02 (au hc) λhc h0=>?_;refine e02 (au hc) λhc hat=>?_;refine e02 (au hc) λhn hno=>?_;have hn:=eq_of_beq hn;have e0:=bp (eq_of_beq h0) rfl;rw [e0] at ho ⊢;intro s ρ R;refine Attribute_Name_ ((io _ ho _ m h).go R (.refl _ _ _) λρ₁ s₁ m₁ x v st t1 R₁ rx h₁=>?_);exact Kq (Cy G cx R₁ rx (tJ (by rw [hn];exact beq_self_eq_true _)) hno hat h₁) (Out.back t1) λ_ _ x=>x
end
section
set_option maxRecDepth 100000
section
variable {os:OsState}
variable {K N:KO}
noncomputable abbrev co (h:KR) (K:KO):Heap:=(h.push { cls:=.type "dict",data:=.dict #[] }).push (lP K h.objs.size)
theorem xg
  (hC:h.get? K=J (excClassObj nm q K N bs [.type "object"] aT sn sub Z col dd k0 k1 k2 k3 k5 "object.__new__")) (hn:h.Ns N mN) (hi:mN "__init__"=J (.ref fI)) (hfI:h.get? fI=J oI) (hfc:oI.cls=.type "function")
  (hq:BY (model prog w) A (call (.ref fI) (.ref (h.objs.size+1)::rest)) (λr s'=>r=.none/\Q (.done (.ret (.ref (h.objs.size+1)))) s') E ⟨co h K,g,d,t,os⟩) :
  BY (model prog w) A (Builtin.«type.__call__» ⟨.ref K::rest,[]⟩) Q E ⟨h,g,d,t,os⟩:=by
 have hmro:=F.mro_object;have hlk:typeLookup (.type "object") "__init__"=pure (J (.builtin "object.__init__")):=by rw [Ml,Lx];kernel_rfl
 repeat (first | with_reducible refine OB hC ?_ | with_reducible refine wpAny_madeBy_exc hC ?_ | wp_step)
 refine codeAny_call_builtin_code (Oo _ F.objNew.quiet) (wpAny_check_obj_new F.objNew hC (codeAny_obj_new F.objNew hC hn hi ?_));have up:∀{b o},h.get? b=J o->(co h K).get? b=J o:=λe=>Kt _ (Kt _ e);have hn₁:(co h K).Ns N mN:=let ⟨o,es,ep,e,r⟩:=hn;⟨o,es,ep,up e,r⟩;have hget:(co h K).get? (h.objs.size+1)=J (lP K h.objs.size):=by heap_get
 have hcC:(DO.ref K::[M1 "object"]).contains (.ref K)=aT:=by simp
 unfold isInstance
 repeat (first | with_reducible refine OB hget ?_ | (with_reducible refine wpAny_isSubtype_exc (up hC) ?_;rw [hcC]) | wp_step)
 refine wpAny_typeLookup_exc (up hC) hn₁ hmro hlk ?_;rw [hi];refine K4 (iS ?_);unfold bindSpecial;refine iS (OU (T:="function") ⟨_,up hfI,hfc⟩ ?_);rw [if_pos (by decide)];refine Do (iS (Kq hq (λr s' hr=>?_) λ_ _ x=>x));obtain ⟨rfl,hQ⟩:=hr
 wp_walk
 exact hQ
theorem zm
  (hC:h.get? K=J (excClassObj nm q K N bs [.type "object"] aT sn sub Z col dd k0 k1 k2 k3 k5 "object.__new__")) (hn:h.Ns N mN) (hi:mN "__init__"=J (.ref fI)) (hfI:h.get? fI=J oI) (hfc:oI.cls=.type "function")
  (hq:BY (model prog w) (A.under (.builtin "type.__call__" ⟨.ref K::rest,[]⟩)) (call (.ref fI) (.ref (h.objs.size+1)::rest)) (λr s'=>r=.none/\Q (.ref (h.objs.size+1)) s') E ⟨co h K,g,d,t,os⟩) :
  BY (model prog w) A (call (.ref K) rest) Q E ⟨h,g,d,t,os⟩:=by
 have f1:=tc_lookup;have f2:=tc_bind (.ref K);have hT:(⟨h,g,d,t,os⟩:Kv).TypeIs (.ref K) "type":=⟨_,hC,rfl⟩
 refine wpAny_call (O4 ?_);show BY _ _ (callAny (.ref K) _) _ _ _
 repeat (any_goals (first | assumption | with_reducible refine OB hC ?_ | wp_step))
 refine ⟨rfl,?_⟩;refine codeAny_call_builtin_at (Oo _ (by decide +kernel)) entry_typeCall (wpAny_check_type_call_sub hC (xg hC hn hi hfI hfc ?_));exact hq
end
section
theorem zn (hbase:attributeBase o name env (eval o env)=eval o env)
  (hfew:((backTo pos (starEach args env)).all (λx=>!x.1)&&(backToKw pos (keywordEach [] env)).all (λx=>x.1.isSome)&&decide (args.length+([]:List Keyword).length+(if ([]:List Keyword).isEmpty then 0 else 1)<30))=aT)
  (hline:(apos.endLine==pos.line)=aT)
  (h:BY M A (eval o env) (λov s₁=>∀pl,BY M A (getMethod ov name pl) (λfx s₂=>BY M A (callWith pos fx.1 fx.2 (backTo pos (starEach args env)) []) Q E s₂) E s₁) E s) :
  BY M A (eval (.Call (.Attribute o name apos) args [] pos) env) Q E s:=by
 rw [arm_eval_Call,hbase];refine iS (Kq h (λov s₁ h₁=>?_) λ_ _ e=>e);refine iS (Mr ?_);have hform:methodCallForm (args.length+([]:List Keyword).length) (backTo pos (starEach args env)) (backToKw pos (keywordEach [] env))=aT:=hfew;have hpos:methodCallPos aT o env apos pos=pure pos:=by unfold methodCallPos;simp [hline]
 unfold methodCall;rw [hform];refine iS (K4 (Kq (h₁ _) (λfx s₂ h₂=>?_) λ_ _ e=>e));exact iS (wpAny_of_eq hpos h₂)
end
end
section
theorem zo (h:BD k x v hp=aT):∃i es,v=.inst k i/\hp[i]?=J (.attrs es)/\aN es x=bY:=by
 cases v with
 | inst d i=>
  replace h:(match hp[i]? with
   | some (.attrs es)=>k==d&&(aN es x).isNone
   | _=>Z)=aT:=h
  cases hi:hp[i]? with
  | none=>rw [hi] at h;exact ff h
  | some o=>
   rw [hi] at h
   cases o with
   | attrs es=>
    refine e02 (au h) λh1 h2=>?_;obtain rfl:=eq_of_beq h1;exact ⟨i,es,rfl,hi,Mb.mp h2⟩
   | _=>exact ff h
 | _=>exact ff h
theorem xh (G:GOk C)(cx:aC C c F n)(R:Rel C F ρ m s)(hx:Rep C ρ s.heap v w)(hu:BD k x v m.heap=aT)(hy:y=str x)
  (hno:f9.contains y=aT) (hm:c.mt f=J (k,y)) (h:∀a,C.fa f=J a->Q (.ref a,[w]) s):BY (mod C) A (getMethod w y pl) Q E s:=by
 obtain ⟨i,es,rfl,hi,hd⟩:=zo hu;obtain ⟨a,K,N,da,mA,rfl,hc,hN,_,_,_,I,_,_,_,h2⟩:=nR G R hx hi;refine e03 (G.quiet _ _ hc) λq1 q2 q3=>?_;obtain ⟨fa,ef,em,of,ho,hcl⟩:=cx.meth _ _ _ hm;obtain ⟨nm,q,bs,sn,sub,col,dd,k0,k1,k2,k3,k5,e⟩:=nP hN;have ho':=R.hp.base _ _ ho;obtain ⟨hp,gg,dr,t,os⟩:=s;subst hy;exact method_of e hN.ns q2 q3 em ho' hcl (zj hno) I (h2 x hd) (h fa ef)
theorem CA (G:GOk C)(cx:aC C c F n)(io:SV C X n c F o)(iargs:∀a∈args,SV C X n c F a):SV C X n c F (.umth k f x o args):=by
 intro e hc Q m h;replace hc:=ah hc;obtain ⟨⟨⟨ov,name,apos⟩,ys,pos⟩,hx,hc⟩:=hc;have ee:=q9 hx;subst ee;simp only [IT,beq_iff_eq,decide_eq_true_eq] at hc;obtain ⟨⟨⟨⟨⟨⟨⟨⟨hn,hno⟩,hm⟩,h0⟩,hl⟩,hz⟩,hnh⟩,ho⟩,ha⟩:=hc;have hh:F.A.handled=bY\/C.hf f=aT:=by
  refine Lm (Np.mp hnh) (λq=>?_) λq=>?_
  ·exact .inl (cx.hn q)
  ·exact .inr (cx.hf▸q)
 have hy:name=str x:=tJ (by rw [hn];exact beq_self_eq_true _);have e0:=bp h0 rfl;rw [e0] at ho ⊢;intro s ρ R;have hp:=cF ha pos F.env;refine zn rfl ?_ (by simp [hl]) ((io _ ho _ m h).go R (.refl _ _ _) λρ₁ s₁ m₁ v w st t1 R₁ rx h₁ pl=>?_)
 ·rw [IT,IT];refine ⟨⟨?_,rfl⟩,?_⟩
  ·rw [K2];intro q hq;rw [List.any_eq_false] at hp
   simpa using hp q hq
  ·simp;exact dO hz (nb rfl)
 ·refine e02 (jV h₁) λhu h₁=>?_;refine xh G cx R₁ rx hu hy hno hm λa hfa=>?_;refine e22 (G.fns f a hfa) λof fd hof hd=>?_;have fin:∀ρ₂ s₂ m₂ xs vs,aB F.W ρ₁ s₁ ρ₂ s₂->aB F.W ρ s ρ₂ s₂->Rel C F ρ₂ m₂ s₂->aL C ρ₂ s₂.heap xs vs->Call C n f (v::xs) (λv h=>Q v ⟨m₂.vars,h⟩) (λc h=>X c ⟨m₂.vars,h⟩) m₂.heap->BY (mod C) F.A (call (.ref a) (w::vs)) (Out C F ρ s Q) (Er C F X ρ s) s₂:=by
   intro ρ₂ s₂ m₂ xs vs st2 t2 R₂ rl h₂;refine Kq (h₂ F m₂ s₂ ρ₂ (w::vs) a cx.fm hh rfl R₂ (.cons (rx.step st2) rl) cx.room cx.units hfa) (λv s₃ hv=>?_) λe s' x=>Er.back t2 e s' (Er.mono (λk m' ⟨q1,q2⟩=>by rw [<-q1] at q2;exact q2) e s' x);obtain ⟨ρ₃,m₃,x,st3,R₃,rx,e,hq⟩:=hv;refine ⟨ρ₃,m₃,x,t2.trans st3,R₃,rx,?_⟩;rw [<-e] at hq;exact hq
  cases ys with
  | nil=>
   cases args with
   | nil=>exact callWith_meth0 hd (R₁.hp.base _ _ hof) (fin ρ₁ s₁ m₁ [] [] (.refl _ _ _) t1 R₁ .nil h₁)
   | cons=>exact ff ha
  | cons y ys=>
   have ha':=qj G cx iargs _ ha _ m₁ h₁ pos;have hne:=je ha rfl pos F.env;obtain ⟨⟨b,t⟩,trees,et⟩:=Nc hne;rw [et] at ha' hp;show BY (mod C) F.A (callWith pos (.ref a) [w] (backTo pos (starEach (y::ys) F.env)) []) _ _ _;rw [et];simp only [N0,LV] at hp;obtain ⟨rfl,hp⟩:=hp;refine Calls.callWith_function (o:=of) (fd:=fd) (My (ha'.go R₁ t1 λρ₂ s₂ m₂ xs vs st2 t2 R₂ rl el h₂=>⟨⟨R₂.hp.base _ _ hof,hd⟩,?_⟩));exact fin ρ₂ s₂ m₂ xs vs st2 t2 R₂ rl h₂
end
section
theorem tK (h:s8 v P):v=.none/\P:=by
 cases v with
 | none=>exact ⟨rfl,h⟩
 | _=>exact h.elim
theorem CB (G:GOk C)(cx:aC C c F n){k f j:Nat}(hj:n=j+1)(hm:c.mt f=J (k,("__init__":Str))){K:KO}(hK:C.ca k=J K)(hh:F.A.handled=bY){ρ:List KO}{m:MS}{s:Kv}(R:Rel C F ρ m s){xs:List MV}{vs:List DO}(rl:aL C ρ s.heap xs vs){Q:PQ}
  (h:Call C j f (.inst k m.heap.length::xs) (λv h=>s8 v (Q (.inst k m.heap.length) ⟨m.vars,h⟩)) (λc h=>X c ⟨m.vars,h⟩) (m.heap++[.attrs []])) :
  BY (mod C) F.A (call (.ref K) vs) (Out C F ρ s Q) (Er C F X ρ s) s:=by
 refine e11 (G.cls k K hK) λN hN=>?_;have hN':=hN.keeps λb o e=>R.hp.base b o e;obtain ⟨nm,q,bs,sn,sub,col,dd,k0,k1,k2,k3,k5,e⟩:=nP hN';obtain ⟨fa,ef,em,of,ho,hcl⟩:=cx.meth _ _ _ hm;have ho':=R.hp.base _ _ ho;obtain ⟨hp,gg,dr,t,os⟩:=s;refine zm e hN'.ns em ho' hcl ?_;have hk:∀a o,hp.get? a=J o->(co hp K).get? a=J o:=λa o e=>Kt _ (Kt _ e);have hd1:(co hp K).get? hp.objs.size=J { cls:=.type "dict",data:=.dict #[] }:=by heap_get
 have hd2:(co hp K).get? (hp.objs.size+1)=J (lP K hp.objs.size):=by heap_get
 have hns:(co hp K).Ns1 hp.objs.size λ_=>bY:=KR.Ns1.of_empty ⟨_,#[],_,hd1,rfl,λe he=>absurd he (by simp),λ_=>rfl⟩;refine e02 (R.alloc (s':=⟨co hp K,gg,dr,t,os⟩) cx.fm hk rfl rfl (o:=.attrs []) (a:=hp.objs.size) (bZ (oF _)) (show yg _ _ _ _ _ from ⟨_,hns,λx v e=>(by exact aJ e),λ_ _=>rfl,Ko _⟩)) λR' st=>?_;have hr:Rep C (ρ++[hp.objs.size]) (co hp K) (.inst k m.heap.length) (.ref (hp.objs.size+1)):=
  .inst hK (by rw [<-R.hp.len,K7 (oF _)];simp) hd2
 have okF:bb { F with A:=F.A.under (.builtin "type.__call__" ⟨.ref K::vs,[]⟩) }:=by
  obtain ⟨a1,a2,a3,a4,es,a5,a6⟩:=cx.fm;exact ⟨a1,a2,a3,a4,es,a5,a6⟩
 have R'':Rel C { F with A:=F.A.under (.builtin "type.__call__" ⟨.ref K::vs,[]⟩) } (ρ++[hp.objs.size]) (m.push (.attrs [])) ⟨co hp K,gg,dr,t,os⟩:=by
  obtain ⟨a1,a2,a3,a4,a5,a6,a7⟩:=R';exact ⟨a1,a2,a3,a4,a5,a6,a7⟩
 refine Kq (h _ (m.push (.attrs [])) _ _ (.ref (hp.objs.size+1)::vs) fa okF (.inl hh) rfl R'' (.cons hr (rl.step st)) ?_ ?_ ef) (λv s₂ hv=>?_) λe s' x=>Er.back st e s' ?_
 ·have:=cx.room;show F.A.depth+1+j<=999;exact n2 this (Km hj.symm)
 ·have:=cx.units;show F.A.units+1<=3 * (F.A.depth+1)+4;exact n1 this
 ·obtain ⟨ρ₂,m₂,x,st2,R₂,rx,ev,hq⟩:=hv;obtain ⟨rfl,hq⟩:=tK hq
  cases rx
  refine ⟨rfl,ρ₂,m₂,_,st.trans st2,?_,hr.step st2,?_⟩
  ·obtain ⟨a1,a2,a3,a4,a5,a6,a7⟩:=R₂;exact ⟨a1,a2,a3,a4,a5,a6,a7⟩
  ·have:m.vars=m₂.vars:=ev.symm;rw [this] at hq;exact hq
 ·obtain ⟨ρ',m',k',a,K',h1,h2,h3,h4,h5,q1,q2⟩:=x<;>exact ⟨ρ',m',k',a,K',h1,⟨h2.hp,h2.ns,h2.w,h2.vars,h2.cells,h2.out,h2.gens⟩,h3,h4,h5,by have e:m.vars=m'.vars:=q1.symm;rw [e] at q2;exact q2⟩
theorem Ge (G:GOk C)(cx:aC C c F n)(iargs:∀a∈args,SV C X n c F a):SV C X n c F (.new k f args):=by
 intro e hc Q m h;replace hc:=ah hc;obtain ⟨⟨x,ys,pos⟩,hx,hc⟩:=hc;obtain ⟨px,rfl⟩:=jI hx;simp only [IT,beq_iff_eq,Lh] at hc;obtain ⟨⟨⟨⟨⟨hg,hf⟩,hm⟩,hne⟩,hnh⟩,ha⟩:=hc;intro s ρ R;refine LG rfl (yH cx R hf (aW hg).1 (aW hg).2 λK hK=>?_);refine e11 (G.cls k K hK) λN hN=>?_;have hp:=cF ha pos F.env
 cases ys with
 | nil=>exact tf hne
 | cons y ys=>
  have hy:starEach (y::ys) F.env=(Z,eval y F.env)::starEach ys F.env:=by
   cases args with
   | nil=>exact ff ha
   | cons=>exact bB (bf ha).1.1 _ _
  have hp2:(backTo pos (starEach ys F.env)).any (·.1)=Z:=by
   cases args with
   | nil=>exact ff ha
   | cons=>exact cF (bf ha).2 _ _
  refine callWith_cls hN ?_ hy hp2;refine (qj G cx iargs _ ha _ m h pos).go R (.refl _ _ _) λρ₁ s₁ m₁ xs vs st t1 R₁ rl el h₁=>⟨λb o e=>R₁.hp.base b o e,?_⟩
  cases n with
  | zero=>exact h₁.elim
  | succ j=>exact IA t1 (CB G cx rfl hm hK (cx.hn hnh) R₁ rl h₁)
end
section
theorem CC (h:yb hp x=J (.exc k)):∃r,x=.ref r/\hp[r]?=J (.exc k):=by
 cases x with
 | ref r=>
  replace h:kdO hp[r]?=J (.exc k):=h
  cases hr:hp[r]? with
  | none=>rw [hr] at h;exact aJ h
  | some o=>
   rw [hr] at h
   cases o with
   | exc j=>cases h;exact ⟨r,rfl,hr⟩
   | attrs=>exact aJ h
   | _=>exact nomatch h
 | inst=>exact aJ h
 | scr=>exact aJ h
 | gt=>exact aJ h
 | cdict=>exact aJ h
 | _=>exact nomatch h
theorem Gf (G:GOk C)(R:Rel C F ρ m s){x:MV}{v:DO}(rx:Rep C ρ s.heap x v){k:Nat}{P:Prop}(h:yb m.heap x=J (.exc k)):P:=by
 obtain ⟨r,rfl,hr⟩:=CC h;obtain ⟨a,rfl,g⟩:=rx.inv;obtain ⟨K,o,vs,h1,_⟩:=R.hp.objs _ _ _ hr g;exact bc (G.x.nox k) h1
theorem CD (G:GOk C)(cx:aC C c F n)(R:Rel C F ρ m s){x:MV}{v:DO}(rx:Rep C ρ s.heap x v){d:Nat}{D:KO}(hD:C.xa d=J D){b:Bool}(h:kY m.heap x (.cls d)=J b){Q:PQ}(hq:Q (.bool b) m) :
  BY (mod C) A (call (.builtin "isinstance") [v,.ref D]) (Out C F ρ s Q) E s:=by
 exact bc (G.x.nox d) hD
theorem Gg (G:GOk C)(cx:aC C c F n)(R:Rel C F ρ m s){x:MV}{v:DO}(rx:Rep C ρ s.heap x v){b:Bool}(h:kY m.heap x .valueError=J b){Q:PQ}(hq:Q (.bool b) m) :
  BY (mod C) A (call (.builtin "isinstance") [v,.type "ValueError"]) (Out C F ρ s Q) E s:=by
 refine e12 (mD h) λk hk h=>?_
 cases k with
 | exc k=>exact Gf G R rx hk
 | _=>exact aJ h
end
section
theorem lh (h:nA c t e=aT):∃T p,e=.Name (Mi T) p/\mu t=J T/\c.kind (Mi T)=J .globalImplicit/\dbg (Mi T)=Z:=by
 replace h:=ah h;obtain ⟨y,hy,h⟩:=h;replace h:=ah h;refine e12 h λT eT h=>?_;obtain ⟨py,rfl⟩:=cZ hy;simp only [IT,beq_iff_eq,Lh] at h;obtain ⟨⟨rfl,hk⟩,hd⟩:=h;exact ⟨T,py,rfl,eT,hk,hd⟩
theorem u6 (cx:aC C c F n)(R:Rel C F ρ m s)(t1:aB F.W ρ₀ s₀ ρ s)(h:BY (mod C) F.A (call (.builtin "isinstance") [w,u]) (hX s λb=>Q (.bool b) m) (Er C F X ρ₀ s₀) s):BY (mod C) F.A (call (.builtin "isinstance") [w,u]) (Out C F ρ₀ s₀ Q) (Er C F X ρ₀ s₀) s:=
 Kq h (λv s' hv=>by
  obtain ⟨b,rfl,m',st3,R',hq⟩:=yV (P:=λb m=>Q (.bool b) m) R cx.fm hv;exact Out.back t1 _ _ ⟨_,_,_,st3,R',.bool b,hq⟩) λ_ _ x=>x
theorem Gh (G:GOk C)(cx:aC C c F n)(R:Rel C F ρ m s)(t1:aB F.W ρ₀ s₀ ρ s)(ht:Et c ty t=aT)(rx:Rep C ρ s.heap x v)(hb:kY m.heap x ty=J b)(hq:Q (.bool b) m) :
  okX t=aT/\BY (mod C) F.A (eval t F.env) (λu s₂=>BY (mod C) F.A (call (.builtin "isinstance") [v,u]) (Out C F ρ₀ s₀ Q) (Er C F X ρ₀ s₀) s₂) (Er C F X ρ₀ s₀) s:=by
 have plain:nA c ty t=aT->okX t=aT/\BY (mod C) F.A (eval t F.env) (λu s₂=>BY (mod C) F.A (call (.builtin "isinstance") [v,u]) (Out C F ρ₀ s₀ Q) (Er C F X ρ₀ s₀) s₂) (Er C F X ρ₀ s₀) s:=λht=>by
  obtain ⟨T,p,rfl,eT,hk,hd⟩:=lh ht;exact ⟨rfl,dC cx R (tw eT) hk hd (u6 cx R t1 (FA R.hp rx hb hq T eT))⟩
 refine Kz λhn=>?_
 cases ty with
 | cls d=>
  refine e12 (ah ht) λy hy ht=>?_;obtain ⟨py,rfl⟩:=cZ hy;refine e02 (au ht) λh1 h2=>?_;exact hn ⟨rfl,yI cx R (eq_of_beq h2) (aW h1).1 (aW h1).2 λD hD=>Kq (CD G cx R rx hD hb hq) (Out.back t1) λ_ _ x=>x⟩
 | valueError=>
  obtain ⟨y,hy,ht⟩:=ah ht;obtain ⟨py,rfl⟩:=cZ hy;refine e02 (au ht) λh1 h2=>?_;obtain rfl:=eq_of_beq h2;exact hn ⟨rfl,dC cx R (v:=.type "ValueError") (bu 15 rfl) (aW h1).1 (aW h1).2 (Kq (Gg G cx R rx hb hq) (Out.back t1) λ_ _ x=>x)⟩
 | _=>exact hn (plain ht)
theorem I1 (G:GOk C)(cx:aC C c F n)(R:Rel C F ρ m s)(t1:aB F.W ρ₀ s₀ ρ s)(ht:yU c ts t=aT)(rx:Rep C ρ s.heap x v)(h:H1 ts m.heap x λb=>Q (.bool b) m) :
  okX t=aT/\BY (mod C) F.A (eval t F.env) (λu s₂=>BY (mod C) F.A (call (.builtin "isinstance") [v,u]) (Out C F ρ₀ s₀ Q) (Er C F X ρ₀ s₀) s₂) (Er C F X ρ₀ s₀) s:=by
 rcases ts with _ | ⟨t₁,_ | ⟨t₂,_ | ⟨t₃,r⟩⟩⟩
 ·exact ff ht
 ·refine e12 (de h) λb hb hq=>?_;exact Gh G cx R t1 ht rx hb hq
 ·refine e12 (ah ht) λus hus ht=>?_;obtain ⟨⟨w1,w2⟩,hw,ht⟩:=ah ht;obtain rfl:=p8 hw;obtain ⟨kk,pp,rfl⟩:=j0 hus;obtain ⟨ht1,ht2⟩:=au ht;obtain ⟨T1,p1,rfl,e1,hk1,hd1⟩:=lh ht1;obtain ⟨T2,p2,rfl,e2,hk2,hd2⟩:=lh ht2;refine e12 (de h) λb hb h=>?_;refine e12 (de h) λb' hb' hq=>?_;refine ⟨rfl,wpAny_Tuple (OM (dC cx R (tw e1) hk1 hd1 (OM (dC cx R (tw e2) hk2 hd2 (wpAny_items_nil ⟨(by decide:2<=sizeLine),?_⟩)))))⟩;refine e02 (R.grow (s':={ s with heap:=s.heap.push { cls:=.type "tuple",data:=.seq #[.type T1,.type T2] } }) cx.fm (λa o e=>Kt _ e) rfl rfl) λR₂ st₂=>?_;exact u6 cx R₂ (t1.trans st₂) (BR R₂.hp (rx.step st₂) e1 e2 hb hb' hq (KM _ rfl))
 ·exact ff ht
theorem xi (h:yU c ts t=aT):okX t=aT:=by
 have nm:∀{f:Str->Bool},ax (fF t) f=aT->okX t=aT:=λh=>by
  refine e12 (ah h) λy hy _=>?_;obtain ⟨py,rfl⟩:=cZ hy;rfl
 rcases ts with _ | ⟨t₁,_ | ⟨t₂,_ | ⟨t₃,r⟩⟩⟩
 ·exact ff h
 ·cases t₁<;>exact nm h
 ·refine e12 (ah h) λus hus _=>?_;obtain ⟨kk,pp,rfl⟩:=j0 hus;rfl
 ·exact ff h
theorem zp (cx:aC C c F n)(ia:SV C X n c F a)(hg:dD c "isinstance"=aT)(hv:okX v=aT)(ha:aX c a v=aT)(ho:okX t=aT)(h:wpE (Call C) n a PX X m)
  (k:∀{ρ₀:List KO}{s₀:Kv}{ρ₁:List KO}{s₁:Kv}{m₁:MS}{x:MV}{w:DO},aB F.W ρ₀ s₀ ρ₁ s₁->Rel C F ρ₁ m₁ s₁->Rep C ρ₁ s₁.heap x w->PX x m₁->BY (mod C) F.A (eval t F.env) (λu s₂=>BY (mod C) F.A (call (.builtin "isinstance") [w,u]) (Out C F ρ₀ s₀ Q) (Er C F X ρ₀ s₀) s₂) (Er C F X ρ₀ s₀) s₁) :
  WPv C F X (eval (.Call (.Name "isinstance" px) [v,t] [] pos) F.env) Q m:=by
 intro s ρ R;refine LG rfl (dC cx R (v:=.builtin "isinstance") (bu 7 rfl) (aW hg).1 (aW hg).2 ?_);refine gc (.inl ⟨_,rfl⟩) (by rw [bB hv,bB ho];rfl) (by rw [bB hv];exact KX _ _) ?_;rw [bB hv,bB ho];exact ND ((ia v ha _ m h).go R (.refl _ _ _) λρ₁ s₁ m₁ x v st t1 R₁ rx h₁=>ND (Kq (k t1 R₁ rx h₁) (λw s₂ hw=>OA hw) λ_ _ e=>e))
theorem Gi (G:GOk C)(cx:aC C c F n)(ia:SV C X n c F a):SV C X n c F (.isi a ts):=by
 intro e hc Q m h;obtain ⟨⟨x,ys,pos⟩,hx,hc⟩:=ah hc;obtain ⟨⟨v,t⟩,hv2,hc⟩:=ah hc;obtain rfl:=p8 hv2;obtain ⟨px,rfl⟩:=jI hx;refine e02 (au hc) λhc ht=>?_;refine e02 (au hc) λhc ha=>?_;refine e02 (au hc) λhc hv=>?_;refine e02 (au hc) λhg hn=>?_;obtain rfl:=eq_of_beq hn;exact zp cx ia hg hv ha (xi ht) h λt1 R₁ rx h₁=>(I1 G cx R₁ t1 ht rx h₁).2
end
noncomputable def bi (e:KY):Bool:=okX e&&((view e).tag != 3||(view e).u != .Not)&&(view e).tag != 4&&(view e).tag != 5
theorem oW (h:bi e=aT)(env:Env)(whole:Sem DO):isTrue e env whole=(do let v <-whole;standAt e.pos;holding [v] (truthy v)):=by
 unfold bi at h
 try dsimp only at h
 refine e02 (au h) λhA h4=>?_;refine e02 (au hA) λhA h3=>?_;refine e02 (au hA) λh1 h2=>?_;exact dX (P:=λe=>((view e).tag != 3||(view e).u != .Not)=aT->((view e).tag != 4)=aT->((view e).tag != 5)=aT->isTrue e env whole=(do let v <-whole;standAt e.pos;holding [v] (truthy v))) h1
  (λ_ _ _ _ _ _=>rfl) (λ_ _ _ _ _=>rfl) (λ_ _ _ _ _ _ _=>rfl) (λo _ _ h _ _=>by cases o<;>first | rfl | exact ff h) (λ_ _ _ _ h _=>by exact ff h) (λ_ _ _ _ _ _ h=>by exact ff h) (λ_ _ _ _ _ _ _=>rfl) (λ_ _ _ _ _ _=>rfl) (λ_ _ _ _ _ _=>rfl) (λ_ _ _ _ _=>rfl) (λ_ _ _ _ _ _=>rfl) (λ_ _ _ _ _ _=>rfl) (λ_ _ _ _ _ _ _=>rfl) h2 h3 h4
theorem xj (h:(view e).tag=k)(hk:(k != 9&&k != 14&&k != 3&&k != 4&&k != 5)=aT):bi e=aT:=by
 subst h
 try dsimp only at hk
 refine e02 (au hk) λhA h5=>?_;refine e02 (au hA) λhA h4=>?_;refine e02 (au hA) λhA h3=>?_;refine e02 (au hA) λh1 h2=>?_;simp [bi,okX,h1,h2,h3,h4,h5]
theorem bj {α:Type}{e:KY}{k:Nat}{x y:α}(h:(if (view e).tag=k then J x else bY)=J y)(hk:(k != 9&&k != 14&&k != 3&&k != 4&&k != 5)=aT):bi e=aT:=xj (bz h).1 hk
theorem ig (h:xFn e=J q):bi e=aT:=by
 unfold xFn at h;refine e12 (KV.mp h) λq h _=>?_;exact bj h rfl
theorem nS (h:o8 e=J q):bi e=aT:=by
 unfold o8 at h;refine e12 (KV.mp h) λq h _=>?_;exact bj h rfl
noncomputable def ST (C:Glo)(X:XM)(n:Nat)(c:Cx)(F:Fm)(me:ME):Prop:=
 ∀(e:KY),aX c me e=aT->∀(Q:Bool->MS->Prop) (m:MS),wpE (Call C) n me (bX Q) X m->WPt C F X (isTrue e F.env (eval e F.env)) Q m
section
theorem zq (G:GOk C)(cx:aC C c F n)(ia:SV C X n c F me)(hpl:∀e,aX c me e=aT->bi e=aT):ST C X n c F me:=by
 intro e hc Q m h s ρ R;refine wpAny_isTrue_value ((ia e hc _ m h).go R (.refl _ _ _) λρ₁ s₁ m₁ x v st t1 R₁ rx h₁=>?_) (oW (hpl e hc) _ _);obtain ⟨b,rfl,h₁⟩:=gI h₁
 cases rx;exact LJ ⟨_,_,t1,R₁,h₁⟩
theorem Ex (G:GOk C)(cx:aC C c F n):∀{es:List ME},(∀a∈es,ST C X n c F a)->∀(xs:List KY),bq c es xs=aT->∀(Q:Bool->MS->Prop) (m:MS),uR (Call C) n es (bX Q) X m->WPt C F X (allTrue .And xs F.env) Q m
 | [],ih,xs,hc,Q,m,h=>h.elim
 | [e],ih,xs,hc,Q,m,h=>by
  cases xs with
  | nil=>exact ff hc
  | cons x xs=>
   replace hc:=bf hc
   cases xs with
   | nil=>
    intro s ρ R;refine wpAny_allTrue_And_cons ((ih e (by exact iD.mpr rfl) x hc.1.2 _ m h).go R (.refl _ _ _) λρ₁ s₁ m₁ b st t1 R₁ h₁=>?_)
    cases b with
    | true=>exact wpAny_allTrue_And_nil ⟨_,_,t1,R₁,h₁⟩
    | false=>exact ⟨_,_,t1,R₁,h₁⟩
   | cons=>cases hc.2
 | e::e'::es,ih,xs,hc,Q,m,h=>by
  cases xs with
  | nil=>exact ff hc
  | cons x xs=>
   replace hc:=bf hc;intro s ρ R;refine wpAny_allTrue_And_cons ((ih e (by exact IS ..) x hc.1.2 _ m h).go R (.refl _ _ _) λρ₁ s₁ m₁ b st t1 R₁ h₁=>?_)
   cases b with
   | true=>exact Kq (Ex G cx (λa ha=>ih a (IN _ ha)) xs hc.2 Q m₁ h₁ s₁ ρ₁ R₁) (λb s' ⟨ρ',m',a,b',c'⟩=>⟨ρ',m',t1.trans a,b',c'⟩) (Er.back t1)
   | false=>exact ⟨_,_,t1,R₁,h₁⟩
theorem I2 (G:GOk C)(cx:aC C c F n):∀{es:List ME},(∀a∈es,ST C X n c F a)->∀(xs:List KY),bq c es xs=aT->∀(Q:Bool->MS->Prop) (m:MS),BG (Call C) n es (bX Q) X m->WPt C F X (allTrue .Or xs F.env) Q m
 | [],ih,xs,hc,Q,m,h=>h.elim
 | [e],ih,xs,hc,Q,m,h=>by
  cases xs with
  | nil=>exact ff hc
  | cons x xs=>
   replace hc:=bf hc
   cases xs with
   | nil=>
    intro s ρ R;refine wpAny_allTrue_Or_cons ((ih e (by exact iD.mpr rfl) x hc.1.2 _ m h).go R (.refl _ _ _) λρ₁ s₁ m₁ b st t1 R₁ h₁=>?_)
    cases b with
    | true=>exact ⟨_,_,t1,R₁,h₁⟩
    | false=>exact wpAny_allTrue_Or_nil ⟨_,_,t1,R₁,h₁⟩
   | cons=>cases hc.2
 | e::e'::es,ih,xs,hc,Q,m,h=>by
  cases xs with
  | nil=>exact ff hc
  | cons x xs=>
   replace hc:=bf hc;intro s ρ R;refine wpAny_allTrue_Or_cons ((ih e (by exact IS ..) x hc.1.2 _ m h).go R (.refl _ _ _) λρ₁ s₁ m₁ b st t1 R₁ h₁=>?_)
   cases b with
   | false=>exact Kq (I2 G cx (λa ha=>ih a (IN _ ha)) xs hc.2 Q m₁ h₁ s₁ ρ₁ R₁) (λb s' ⟨ρ',m',a,b',c'⟩=>⟨ρ',m',t1.trans a,b',c'⟩) (Er.back t1)
   | true=>exact ⟨_,_,t1,R₁,h₁⟩
theorem Gj (G:GOk C)(cx:aC C c F n)(ia:ST C X n c F a):ST C X n c F (.not a):=by
 intro e hc Q m h;replace hc:=ah hc;obtain ⟨⟨o,x⟩,hx,hc⟩:=hc;obtain ⟨p,rfl⟩:=qa hx
 try dsimp only at hc
 refine e02 (au hc) λhE1 hc=>?_
 first | with_reducible replace hc:=eq_of_beq hc | skip
 obtain rfl:=eq_of_beq hE1;intro s ρ R;exact wpAny_isTrue_Not ((ia _ hc _ m h).go R (.refl _ _ _) λρ₁ s₁ m₁ b st t1 R₁ h₁=>⟨_,_,t1,R₁,h₁⟩)
theorem Gk (G:GOk C)(cx:aC C c F n)(ies:∀a∈es,ST C X n c F a):ST C X n c F (.and es):=by
 intro e hc Q m h;replace hc:=ah hc;obtain ⟨⟨o,xs⟩,hx,hc⟩:=hc;obtain ⟨p,rfl⟩:=jY hx
 try dsimp only at hc
 obtain ⟨hE2,hc⟩:=au hc
 first | with_reducible replace hc:=eq_of_beq hc | skip
 obtain rfl:=eq_of_beq hE2;intro s ρ R;exact wpAny_isTrue_BoolOp (Ex G cx ies _ hc _ m h s ρ R)
theorem I3 (G:GOk C)(cx:aC C c F n)(ies:∀a∈es,ST C X n c F a):ST C X n c F (.or es):=by
 intro e hc Q m h;replace hc:=ah hc;obtain ⟨⟨o,xs⟩,hx,hc⟩:=hc;obtain ⟨p,rfl⟩:=jY hx
 try dsimp only at hc
 obtain ⟨hE3,hc⟩:=au hc
 first | with_reducible replace hc:=eq_of_beq hc | skip
 obtain rfl:=eq_of_beq hE3;intro s ρ R;exact wpAny_isTrue_BoolOp (I2 G cx ies _ hc _ m h s ρ R)
theorem Gl (G:GOk C)(cx:aC C c F n)(ia:SV C X n c F a)(ib:SV C X n c F b):ST C X n c F (.cmp op a b):=by
 intro e hc Q m h;replace hc:=ah hc;obtain ⟨⟨l,os,rs⟩,hxx,hc⟩:=hc;replace hc:=ah hc;obtain ⟨o,ho,hc⟩:=hc;replace hc:=ah hc;obtain ⟨r,hr,hc⟩:=hc
 cases cU ho
 cases cU hr
 obtain ⟨p,rfl⟩:=jZ hxx
 try dsimp only at hc
 obtain ⟨hA,hb⟩:=au hc
 first | with_reducible replace hb:=eq_of_beq hb | skip
 obtain ⟨hA,ha⟩:=au hA
 first | with_reducible replace ha:=eq_of_beq ha | skip
 refine e02 (au hA) λhE4 hx=>?_
 first | with_reducible replace hx:=eq_of_beq hx | skip
 obtain rfl:=eq_of_beq hE4;intro s ρ R;exact wpAny_isTrue_Compare1 (pf G cx ia ib ha hb R h λb ρ' m' s' st R' hq=>LJ ⟨_,_,st,R',hq⟩) (i6 hx _)
theorem Gm (G:GOk C)(cx:aC C c F n)(ia:SV C X n c F a):ST C X n c F (.isN p a):=by
 intro e hc Q m h;replace hc:=ah hc;obtain ⟨⟨l,os,rs⟩,hxx,hc⟩:=hc;replace hc:=ah hc;obtain ⟨o,ho,hc⟩:=hc;replace hc:=ah hc;obtain ⟨r,hr,hc⟩:=hc
 cases cU ho
 cases cU hr
 obtain ⟨p2,rfl⟩:=jZ hxx
 try dsimp only at hc
 obtain ⟨hA,ha⟩:=au hc
 first | with_reducible replace ha:=eq_of_beq ha | skip
 obtain ⟨hE5,hn⟩:=au hA
 first | with_reducible replace hn:=eq_of_beq hn | skip
 obtain rfl:=eq_of_beq hE5;obtain ⟨_,_,rfl⟩:=lc hn;intro s ρ R;exact wpAny_isTrue_Compare1 (rB G cx ia ha R h λb ρ' m' s' st R' hq=>LJ ⟨_,_,st,R',hq⟩) rfl
theorem bh (h:ax o f=aT):∃a,o=J a:=let ⟨a,h,_⟩:=ah h;⟨a,h⟩
theorem Gp:∀e,aX c (.cst v) e=aT->bi e=aT:=λe hc=>by
 refine e11 (bh hc) λ_ hx=>?_;exact bj hx rfl
theorem Gq:∀e,aX c (.var i) e=aT->bi e=aT:=λe hc=>by
 obtain ⟨_,hx⟩:=bh hc;exact bj hx rfl
theorem CE:∀e,aX c (.glob g v) e=aT->bi e=aT:=λe hc=>by
 obtain ⟨_,hx⟩:=bh hc;exact bj hx rfl
theorem Gr:∀e,aX c (.bin op a b) e=aT->bi e=aT:=λe hc=>by
 refine e11 (bh hc) λ_ hx=>?_;exact bj hx rfl
theorem Gs:∀e,aX c (.idx o i) e=aT->bi e=aT:=λe hc=>by
 obtain ⟨_,hx⟩:=bh hc;exact bj hx rfl
theorem I4 {o:ME}{lo hi:Option ME}:∀e,aX c (.sl o lo hi) e=aT->bi e=aT:=λe hc=>by
 obtain ⟨_,hx⟩:=bh hc;exact bj hx rfl
theorem CF:∀e,aX c (.list es) e=aT->bi e=aT:=λe hc=>by
 refine e11 (bh hc) λ_ hx=>?_;exact bj hx rfl
theorem Gu:∀e,aX c (.tup es) e=aT->bi e=aT:=λe hc=>by
 refine e11 (bh hc) λ_ hx=>?_;exact bj hx rfl
theorem zw:∀e,aX c (.dict0) e=aT->bi e=aT:=λe hc=>by
 refine e11 (bh hc) λ_ hx=>?_;exact bj hx rfl
theorem CG:∀e,aX c (.comp elt t many k src ifs) e=aT->bi e=aT:=λe hc=>by
 refine e11 (bh hc) λ_ hx=>?_;exact bj hx rfl
theorem CH:∀e,aX c (.call f args) e=aT->bi e=aT:=λe hc=>by
 obtain ⟨_,hx⟩:=bh hc;exact ig hx
theorem Gv:∀e,aX c (.isi a ts) e=aT->bi e=aT:=λe hc=>by
 obtain ⟨_,hx⟩:=bh hc;exact ig hx
theorem Gw:∀e,aX c (.mth k o args) e=aT->bi e=aT:=λe hc=>by
 obtain ⟨_,hx⟩:=bh hc;exact nS hx
theorem CI:∀e,aX c (.umth k f x o args) e=aT->bi e=aT:=λe hc=>by
 obtain ⟨_,hx⟩:=bh hc;exact nS hx
theorem Gx:∀e,aX c (.new k f args) e=aT->bi e=aT:=λe hc=>by
 obtain ⟨_,hx⟩:=bh hc;exact ig hx
theorem CJ:∀e,aX c (.attr k o x) e=aT->bi e=aT:=λe hc=>by
 refine e11 (bh hc) λ_ hx=>?_;exact bj hx rfl
theorem Gy:∀e,aX c (.blt b args) e=aT->bi e=aT:=λe hc=>by
 replace hc:(if Cc b=aT then _ else _)=aT:=hc
 split at hc
 ·obtain ⟨_,hx⟩:=bh hc;unfold xSS at hx;refine e12 (KV.mp hx) λ_ hx _=>?_;exact ig hx
 ·refine e11 (bh hc) λ_ hx=>?_;exact ig hx
theorem Gz:∀e,aX c (.neg a) e=aT->bi e=aT:=λe hc=>by
 replace hc:=ah hc;obtain ⟨⟨o,x⟩,hx,hc⟩:=hc;obtain ⟨p,rfl⟩:=qa hx
 try dsimp only at hc
 refine e02 (au hc) λhE6 _=>?_;obtain rfl:=eq_of_beq hE6;rfl
end
section
theorem Ey (h:BY M A t Q E s):BY M A (operate vs t) Q E s:=λΓ p hΓ=>by
 rw [Sem.wp_operate];exact h Γ p hΓ
theorem rJ (hm':behindInMarks o' r'=Z)
  (h:BY M A (eval l env) (λa s₁=>BY M A (eval r env) (λb s₂=>BY M A (compareOp o a b) (λc s₃=>BY M A (truthy c) (λt s₄=>
   match t with
   | true=>BY M A (eval r' env) (λd s₅=>BY M A (compareOp o' b d) Q E s₅) E s₄
   | false=>Q c s₄) E s₃) E s₂) E s₁) E s):BY M A (eval (.Compare l [o,o'] [r,r'] pos) env) Q E s:=by
 show BY M A (eval l env >>= λa=>compareChain pos a [o,o'] [eval r env,markedBehindIn o' r' (eval r' env)]) Q E s;rw [markedBehindIn_of_false hm'];refine iS (Kq h (λa s₁ h₁=>?_) λ_ _ x=>x);show BY M A (do
  let rv <-holding [a] (eval r env)
  standAt pos
  let c <-holding [a,rv] (compareOp o a rv)
  release [a,rv] [c]
  if <-holding [c,rv] (truthy c) then compareChain pos rv [o'] [eval r' env] else pure c) Q E s₁
 refine iS (K4 (Kq h₁ (λb s₂ h₂=>?_) λ_ _ x=>x));refine iS (Mr (iS (K4 (Kq h₂ (λc s₃ h₃=>?_) λ_ _ x=>x))));refine iS (wpAny_release (iS (K4 (Kq h₃ (λt s₄ h₄=>?_) λ_ _ x=>x))))
 cases t with
 | false=>exact Do h₄
 | true=>
  show BY M A (do
   let rv <-holding [b] (eval r' env)
   standAt pos
   operate [b,rv] (compareOp o' b rv)) Q E s₄
  exact iS (K4 (Kq h₄ (λd s₅ h₅=>iS (Mr (Ey h₅))) λ_ _ x=>x))
theorem zA (hm':behindInMarks o' r'=Z)
  (h:BY M A (eval l env) (λa s₁=>BY M A (eval r env) (λb s₂=>BY M A (compareOp o a b) (λc s₃=>BY M A (truthy c) (λt s₄=>
   match t with
   | true=>BY M A (eval r' env) (λd s₅=>BY M A (compareOp o' b d) (λc s₆=>BY M A (truthy c) Q E s₆) E s₅) E s₄
   | false=>Q Z s₄) E s₃) E s₂) E s₁) E s):BY M A (isTrue (.Compare l [o,o'] [r,r'] pos) env whole) Q E s:=by
 show BY M A (eval l env >>= λa=>testChain pos a [o,o'] [eval r env,markedBehindIn o' r' (eval r' env)]) Q E s;rw [markedBehindIn_of_false hm'];refine iS (Kq h (λa s₁ h₁=>?_) λ_ _ x=>x);show BY M A (do
  let rv <-holding [a] (eval r env)
  standAt pos
  let c <-holding [a,rv] (compareOp o a rv)
  release [a,rv] [c]
  if <-holding [c,rv] (truthy c) then testChain pos rv [o'] [eval r' env] else pure Z) Q E s₁
 refine iS (K4 (Kq h₁ (λb s₂ h₂=>?_) λ_ _ x=>x));refine iS (Mr (iS (K4 (Kq h₂ (λc s₃ h₃=>?_) λ_ _ x=>x))));refine iS (wpAny_release (iS (K4 (Kq h₃ (λt s₄ h₄=>?_) λ_ _ x=>x))))
 cases t with
 | false=>exact Do h₄
 | true=>
  show BY M A (do
   let rv <-holding [b] (eval r' env)
   standAt pos
   let c <-operate [b,rv] (compareOp o' b rv)
   holding [c] (truthy c)) Q E s₄
  exact iS (K4 (Kq h₄ (λd s₅ h₅=>iS (Mr (iS (Ey (Kq h₅ (λc s₆ h₆=>K4 h₆) λ_ _ x=>x))))) λ_ _ x=>x))
end
section
theorem rK (hc:aX c (.cmp2 op op' a b d) e=aT):∃l r r' p,e=.Compare l [jr op,jr op'] [r,r'] p/\okX r'=aT/\aX c a l=aT/\aX c b r=aT/\aX c d r'=aT:=by
 replace hc:=ah hc;obtain ⟨⟨l,os,rs⟩,hxx,hc⟩:=hc;replace hc:=ah hc;obtain ⟨⟨o,o'⟩,ho,hc⟩:=hc;replace hc:=ah hc;obtain ⟨⟨r,r'⟩,hr,hc⟩:=hc
 cases p8 ho
 cases p8 hr
 obtain ⟨p,rfl⟩:=jZ hxx;simp only [IT,beq_iff_eq] at hc;obtain ⟨⟨⟨⟨⟨⟨rfl,rfl⟩,hx⟩,hx'⟩,ha⟩,hb⟩,hd⟩:=hc;exact ⟨l,r,r',p,rfl,hx',ha,hb,hd⟩
theorem nT (G:GOk C)(cx:aC C c F n){op op':Cmp}{a b d:ME}(ia:SV C X n c F a)(ib:SV C X n c F b)(id':SV C X n c F d){l r r':KY}(ha:aX c a l=aT)(hb:aX c b r=aT)(hd:aX c d r'=aT){P:Bool->MS->Prop}{m:MS}{s:Kv}{ρ:List KO}(R:Rel C F ρ m s)
  (h:wpE (Call C) n a (λx m=>wpE (Call C) n b (λy m=>lN op x y (λt m=>bt t (wpE (Call C) n d (λz m=>lN op' y z P m) X m) (P Z m)) m) X m) X m) {Q Q':DO->Kv->Prop}(k:∀b ρ' m' s',aB F.W ρ s ρ' s'->Rel C F ρ' m' s'->P b m'->Q (.bool b) s') (k':∀ρ' m' s',aB F.W ρ s ρ' s'->Rel C F ρ' m' s'->P Z m'->Q' (.bool Z) s') :
  BY (mod C) F.A (eval l F.env) (λv s₁=>BY (mod C) F.A (eval r F.env) (λw s₂=>BY (mod C) F.A (compareOp (jr op) v w) (λq s₃=>BY (mod C) F.A (truthy q) (λt s₄=>match t with
   | true=>BY (mod C) F.A (eval r' F.env) (λu s₅=>BY (mod C) F.A (compareOp (jr op') w u) Q (Er C F X ρ s) s₅) (Er C F X ρ s) s₄
   | false=>Q' q s₄) (Er C F X ρ s) s₃) (Er C F X ρ s) s₂) (Er C F X ρ s) s₁) (Er C F X ρ s) s:=by
 refine (ia l ha _ m h).go R (.refl _ _ _) λρ₁ s₁ m₁ x v st t1 R₁ rx h₁=>?_;refine (ib r hb _ m₁ h₁).go R₁ t1 λρ₂ s₂ m₂ y w st' t2 R₂ ry h₂=>?_;refine qk G cx cx.u R₂ t2 (rx.step st') ry h₂ λt ρ₃ m₃ s₃ st3 t3 R₃ hq=>LJ ?_
 cases t with
 | false=>exact k' ρ₃ m₃ s₃ t3 R₃ hq
 | true=>
  refine (id' r' hd _ m₃ hq).go R₃ t3 λρ₄ s₄ m₄ z u st4 t4 R₄ rz h₄=>?_;exact qk G cx cx.u R₄ t4 ((ry.step st3).step st4) rz h₄ λb ρ' m' s' _ st R' hq=>k b ρ' m' s' st R' hq
theorem CL (G:GOk C)(cx:aC C c F n){op op':Cmp}{a b d:ME}(ia:SV C X n c F a)(ib:SV C X n c F b)(id':SV C X n c F d):SV C X n c F (.cmp2 op op' a b d):=by
 intro e hc Q m h;obtain ⟨l,r,r',p,rfl,hx',ha,hb,hd⟩:=rK hc;intro s ρ R;exact rJ (i6 hx' _) (nT G cx ia ib id' (P:=λb m=>Q (.bool b) m) ha hb hd R h (λb ρ' m' s' st R' hq=>⟨_,_,_,st,R',.bool b,hq⟩) λρ' m' s' st R' hq=>⟨_,_,_,st,R',.bool _,hq⟩)
theorem CM (G:GOk C)(cx:aC C c F n){op op':Cmp}{a b d:ME}(ia:SV C X n c F a)(ib:SV C X n c F b)(id':SV C X n c F d):ST C X n c F (.cmp2 op op' a b d):=by
 intro e hc Q m h;obtain ⟨l,r,r',p,rfl,hx',ha,hb,hd⟩:=rK hc;intro s ρ R;exact zA (i6 hx' _) (nT G cx ia ib id' (P:=Q) (Q':=λ_ s'=>FO C F ρ s Q Z s') ha hb hd R h (λb ρ' m' s' st R' hq=>LJ ⟨_,_,st,R',hq⟩) λρ' m' s' st R' hq=>⟨_,_,st,R',hq⟩)
end
section
theorem pz (h:fc c (i::t) xs=aT):∃x p r,xs=.Name x p::r/\c.nm i=J x/\pb c x=aT/\fc c t r=aT:=by
 cases xs with
 | nil=>exact ff h
 | cons e r=>
  obtain ⟨h1,h2⟩:=KU.mp h;replace h1:=ah h1;obtain ⟨x,hx,h1⟩:=h1;obtain ⟨p,rfl⟩:=cZ hx;simp only [IT,beq_iff_eq] at h1;exact ⟨x,p,r,rfl,h1.1,h1.2,h2⟩
theorem rL (cx:aC C c F n){Q:MS->Prop}:∀(t:List Nat) (elts:List KY) (xs:List MV) (vs:List DO) (m:MS) (s:Kv),fc c t elts=aT->t.length=xs.length->aL C ρ s.heap xs vs->Rel C F ρ m s->Q (m6 t xs m)->
  BY (mod C) A (assignInOrder ((assignEach elts F.env).map (·.2)) vs) (λ_ s'=>∃m',aB F.W ρ s ρ s'/\Rel C F ρ m' s'/\Q m') E s
 | [],elts,xs,vs,m,s,h,hl,hr,R,hq=>by
  cases elts with
  | nil=>
   cases hr with
   | nil=>exact Do ⟨m,.refl _ _ _,R,hq⟩
   | cons=>cases hl
  | cons=>exact ff h
 | i::t,elts,xs,vs,m,s,h,hl,hr,R,hq=>by
  obtain ⟨x,p,r,rfl,h1,h2,h3⟩:=pz h
  cases hr with
  | nil=>cases hl
  | @cons x' v' xs' vs' ra rl=>
   refine iS (K4 ?_);refine Ny (jb cx R h1 (j6 h2) ra λs₁ st R₁ _=>?_);exact Kq (rL cx t r xs' vs' _ s₁ h3 (Nat.succ.inj hl) (rl.step st) R₁ hq) (λ_ s₂ ⟨m',st2,R₂,q⟩=>⟨m',st.trans st2,R₂,q⟩) λ_ _ x=>x
theorem ij (env:Env):∀(t:List Nat) (elts:List KY),fc c t elts=aT->(assignEach elts env).length=t.length/\(assignEach elts env).findIdx? (·.1)=bY
 | [],elts,h=>by
  cases elts with
  | nil=>exact ⟨rfl,rfl⟩
  | cons=>exact ff h
 | i::t,elts,h=>by
  obtain ⟨x,p,r,rfl,_,_,h3⟩:=pz h;refine e02 (ij env t r h3) λh1 h2=>?_;refine ⟨congrArg (·+1) h1,?_⟩;show List.findIdx? (·.1) ((Z,_)::assignEach r env)=bY;rw [List.findIdx?_cons,h2];rfl
theorem li (cx:aC C c F n){Q:MS->Prop}{t:List Nat}{many:Bool}{e:KY}(h:oU c t many e=aT){x:MV}{v:DO}(hr:Rep C ρ s.heap x v)(R:Rel C F ρ m s)(hq:asg t many x Q m)(hA:many=aT->A.handled=bY) :
  BY (mod C) A (assign e F.env v) (λ_ s'=>∃m',aB F.W ρ s ρ s'/\Rel C F ρ m' s'/\Q m') E s:=by
 cases many with
 | false=>
  obtain ⟨i,y,p,rfl,rfl,h1,h2⟩:=rA h;exact Ny (jb cx R h1 (j6 h2) hr λs₁ st R₁ _=>⟨_,st,R₁,hq⟩)
 | true=>
  replace h:=jd h;obtain ⟨elts,k,p,rfl,h⟩:=h
  cases x with
  | tup xs=>
   have hq:t.length=xs.length/\Q (m6 t xs m):=hq
   cases hr with | @tup a k _ items g rl z=>
   refine e02 (ij F.env _ _ h) λe1 e2=>?_;refine wpAny_assign_Tuple (hA rfl) ⟨_,g,rfl,_,rfl⟩ (by rw [e1,hq.1,Ky,rl.length]) e2 λh' he=>?_;have hk:∀b o,s.heap.get? b=J o->h'.get? b=J o:=λb o eb=>he b o (λq=>by rw [q,bZ (oF _)] at eb;exact aJ eb) eb;refine e02 (R.grow (s':={ s with heap:=h' }) cx.fm hk rfl rfl) λR' st=>?_;exact Kq (rL cx _ _ _ _ m { s with heap:=h' } h hq.1 (rl.step st) R' hq.2) (λ_ s₂ ⟨m',st2,R₂,q⟩=>⟨m',st.trans st2,R₂,q⟩) λ_ _ x=>x
  | _=>exact (show False from hq).elim
end
section
theorem aB.mono (hW:∀a∈W,a∈W')(x:aB W ρ s ρ' s'):aB W' ρ s ρ' s':=
 ⟨x.pre,x.new,λa o e h1 h2=>x.keep a o e h1 λq=>h2 (hW a q),x.solid,x.alive,x.gens,x.os⟩
theorem aB.ofSide (sd:hZ S s s')(hS:∀a∈S,a∈W)(h1:∀a∈S,Shp s.heap a)(h2:∀a∈S,Shp s'.heap a):aB W ρ s ρ s':=
 ⟨Kw _,λ_ h=>.inl h,λa o e _ h=>.inl (sd.1 a o (λq=>h (hS a q)) e),fe h1 sd,λa o e=>by
  by_cases q:a∈S
  ·obtain ⟨o',e',_⟩:=h2 a q;exact ⟨o',e'⟩
  ·exact ⟨o,sd.1 a o q e⟩,sd.2.1,sd.2.2⟩
theorem aB.behind (x:aB W ρ s ρ₂ s₂)(y:aB W' ρ₂ s₂ ρ' s')(h:∀a∈W',s.heap.get? a=bY):aB W ρ s ρ' s' where
 pre:=x.pre.trans y.pre
 new:=λa h=>(y.new a h).elim (λh=>x.new a h) λh=>.inr (d5 x h)
 keep:=λa o e h1 h2=>by
  have hw:a∉W':=λq=>by rw [h a q] at e;cases e
  have h1':a∉ρ₂:=λh=>(x.new a h).elim h1 λh=>by rw [h] at e;cases e
  rcases x.keep a o e h1 h2 with e1 | ⟨hc,sl,e1⟩
  ·exact y.keep a o e1 h1' hw
  ·rcases y.keep a _ e1 h1' hw with e2 | ⟨_,sl2,e2⟩
   ·exact .inr ⟨hc,sl,e2⟩
   ·exact .inr ⟨hc,sl2,e2⟩
 solid:=λa o e h=>y.solid a o (x.solid a o e h) h
 alive:=λa o e=>let ⟨o',e'⟩:=x.alive a o e;y.alive a o' e'
 gens:=y.gens.trans x.gens
 os:=y.os.trans x.os
end
noncomputable def fK (F:Fm)(sc:Scope)(cl:List (Str × KO))(t:List Nat)(tn:List Str)(L:KO):Fm where
 env:=compEnvC sc cl L F.env
 A:=F.A
 W:=[L]
 V:=F.W++F.V
 lay:=λi=>match (t.zip tn).lookup i with
  | some x=>J (.nm L x)
  | none=>F.lay i
 frs:=F.frs
structure nU (c:Cx)(sc:Scope)(t:List Nat)(tn:List Str):Prop where
 kind:sc.kind=.function
 cell:∀p∈sc.names,p.2≠.cell
 loc:∀p∈sc.names,p.2=.local->sc.names.lookup p.1=J .local
 free:∀p∈sc.names,p.2=.free->(∃i,c.nm i=J p.1)/\c.kind p.1≠J .local/\cdc p.1=Z
 len:t.length=tn.length
 nodup:t.Nodup
 nodup':tn.Nodup
 fr:∀i∈t,c.fr i=aT
 tn:∀x∈tn,sc.names.lookup x=J .local
theorem xk {c:Cx}{sc:Scope}{t:List Nat}{tn:List Str}(h:qg c sc t tn=aT):nU c sc t tn:=by
 simp only [qg,IT,beq_iff_eq,decide_eq_true_eq,K2] at h;obtain ⟨⟨⟨⟨⟨⟨h1,h2⟩,h3⟩,h4⟩,h5⟩,h6⟩,h7⟩:=h;refine ⟨h1,λp hp=>?_,λp hp e=>?_,λp hp e=>?_,h3,h4,h5,h6,h7⟩
 ·have:=(h2 p hp).1.1;simpa using this
 ·have:=(h2 p hp).1.2;rw [e] at this;simpa using this
 ·have:=(h2 p hp).2;rw [e] at this;simp only [bne_self_eq_false,Bool.false_or,yR,IT,Ls,beq_iff_eq,bne_iff_ne,Lh] at this;obtain ⟨⟨⟨i,_,e1⟩,e2⟩,e3⟩:=this;exact ⟨⟨i,e1⟩,e2,e3⟩
set_option tactic.hygienic true in
theorem tL [BEq α] [LawfulBEq α]:∀{l:List (α × β)}{a:α}{b:β},l.lookup a=J b->(a,b)∈l
 | [],_,_,h=>by cases h
 | (x,y)::r,a,b,h=>by
  rw [K9] at h
  split at h
  ·rename_i q;cases h;have:a=x:=by simpa using q
   subst this;exact IS ..
  ·exact IN _ (tL h)
theorem kb {t:List Nat}{tn:List Str}(h:(t.zip tn).lookup i=J x):i∈t/\x∈tn/\∃k:Nat,t[k]?=J i/\tn[k]?=J x:=by
 have hm:=tL h;refine ⟨(O5 hm).1,(O5 hm).2,?_⟩;refine e11 (List.getElem?_of_mem hm) λk hk=>?_;exact ⟨k,(Nl.mp hk).1,(Nl.mp hk).2⟩
theorem CN {t:List Nat}{tn:List Str}(hn:tn.Nodup){i j:Nat}{x:Str}(h1:(t.zip tn).lookup i=J x)(h2:(t.zip tn).lookup j=J x):i=j:=by
 obtain ⟨_,_,k,a1,a2⟩:=kb h1;obtain ⟨_,_,l,b1,b2⟩:=kb h2;have q1:=iN.mp a2;have q2:=iN.mp b2;have:k=l:=(OJ hn).mp (q1.2.trans q2.2.symm);subst this;rw [a1] at b1;cases b1;rfl
theorem gJ:∀{names:List (Str × NameKind)}{x:Str}{k:NameKind},names.lookup x=J k->(nC kind names).lookup x=J (if (k==.free&&kind x==J .cell) then .cell else k)
 | [],_,_,h=>by cases h
 | (y,k')::r,x,k,h=>by
  have ih:=@gJ kind r x k;show List.lookup x ((if (k'==.free&&kind y==J .cell) then (y,NameKind.cell) else (y,k'))::nC kind r)=_;by_cases e:x=y
  ·subst e;simp only [K9,beq_self_eq_true] at h;obtain rfl:k'=k:=By h;by_cases q:(k'==N1&&kind x==J .cell)=aT
   ·rw [if_pos q,if_pos q];simp [K9]
   ·rw [if_neg q,if_neg q];simp [K9]
  ·have e':(x==y)=Z:=by simpa using e
   simp only [K9,e'] at h;by_cases q:(k'==N1&&kind y==J .cell)=aT
   ·rw [if_pos q];simp only [K9,e'];exact ih h
   ·rw [if_neg q];simp only [K9,e'];exact ih h
theorem nV (h:∀x,env.kindOf x=kind x)(hk:env.scope.kind=.function)(sc:Scope):(relabel sc env).names=nC kind sc.names:=by
 unfold relabel nC;simp only [hk,h,beq_self_eq_true,Pi]
set_option tactic.hygienic true in
theorem gK {env:Env}{f:Str × NameKind->List (Str × KO)->Sem (ForInStep (List (Str × KO)))}(h1:∀x a acc,env.cells.lookup x=J a->f (x,.free) acc=pure (.yield ((x,a)::acc)))
  (h2:∀x k acc,k≠.free->f (x,k) acc=pure (.yield acc)):∀(names:List (Str × NameKind)) (acc:List (Str × KO)),(∀p∈names,p.2=.free->∃a,env.cells.lookup p.1=J a)->(∀y b,acc.lookup y=J b->env.cells.lookup y=J b)->
   ∃cl,forIn names acc f=pure cl/\(∀y b,cl.lookup y=J b->env.cells.lookup y=J b)/\(∀y,(acc.lookup y).isSome->(cl.lookup y).isSome)/\∀y,(y,N1)∈names->(cl.lookup y).isSome
 | [],acc,_,ha=>⟨acc,rfl,ha,λ_ h=>h,λ_ h=>by cases h⟩
 | (x,k)::r,acc,hn,ha=>by
  have hr:∀p∈r,p.2=.free->∃a,env.cells.lookup p.1=J a:=λp hp=>hn p (IN _ hp);by_cases hk:k=.free
  ·subst hk;refine e11 (hn (x,.free) (IS ..) rfl) λa e=>?_;have ha':∀y b,((x,a)::acc).lookup y=J b->env.cells.lookup y=J b:=λy b q=>by
    simp only [K9] at q
    split at q
    ·rename_i q';cases q;have:y=x:=by simpa using q'
     subst this;exact e
    ·exact ha y b q
   refine e14 (gK h1 h2 r ((x,a)::acc) hr ha') λcl c1 c2 c3 c4=>?_;have hx:(((x,a)::acc).lookup x).isSome:=by simp [K9]
   refine ⟨cl,?_,c2,λy hy=>c3 y ?_,λy hy=>?_⟩
   ·rw [Oc,h1 x a acc e];exact c1
   ·simp only [K9];split
    ·rfl
    ·exact hy
   ·refine Lm (IF.mp hy) (λq=>?_) λq=>?_
    ·cases q;exact c3 _ hx
    ·exact c4 y q
  ·refine e14 (gK h1 h2 r acc hr ha) λcl c1 c2 c3 c4=>?_;refine ⟨cl,?_,c2,c3,λy hy=>?_⟩
   ·rw [Oc,h2 x k acc hk];exact c1
   ·refine Lm (IF.mp hy) (λq=>?_) λq=>?_
    ·cases q;exact absurd rfl hk
    ·exact c4 y q
theorem tM {env:Env}{sc:Scope}(h:∀p∈sc.names,p.2=.free->∃a,env.cells.lookup p.1=J a):∃cl,closureFor sc env=pure cl/\∀x a,(x,N1)∈sc.names->env.cells.lookup x=J a->cl.lookup x=J a:=by
 obtain ⟨cl,c1,c2,_,c4⟩:=gK (env:=env) (f:=λp cs=>if p.2==.free then do let r <-cellOf env p.1;pure (Lo ((p.1,r)::cs)) else pure (Lo cs))
  (λx a acc e=>by simp [cellOf,e]) (λx k acc hk=>by simp [hk]) sc.names [] h (λy b q=>by cases q)
 refine ⟨cl,?_,λx a hx e=>?_⟩
 ·unfold closureFor;refine Eq.trans ?_ (congrArg (· >>= pure) c1);rfl
 ·refine e11 (K6.mp (c4 x hx)) λb hb=>?_;have:=c2 x b hb;rw [e] at this;cases this;exact hb
section
variable {tn:List Str}
set_option tactic.hygienic true in
theorem zB (cx:aC C c F n)(h:nU c sc t tn)(hL:L∉F.W++F.V):bb (fK F sc cl t tn L) where
 loc:=iD.mpr rfl
 lay:=λi l e=>by
  simp only [fK] at e ⊢
  split at e
  ·cases e;exact tO _ (iD.mpr rfl)
  ·exact AT _ (cx.fm.lay i l e)
 inj:=λi j l e1 e2=>by
  simp only [fK] at e1 e2
  split at e1
  ·rename_i x hx
   cases e1
   split at e2
   ·rename_i y hy;cases e2;exact CN h.nodup' hx hy
   ·exact absurd (cx.fm.lay j _ e2) hL
  ·split at e2
   ·rename_i y hy;cases e2;exact absurd (cx.fm.lay i _ e1) hL
   ·exact cx.fm.inj i j l e1 e2
 kind:=by show (relabel sc F.env).kind=.function;exact h.kind
 frs:=cx.fm.frs
theorem xl (cx:aC C c F n)(h:nU c sc t tn):∀p∈sc.names,p.2=.free->∃a,F.env.cells.lookup p.1=J a:=λp hp e=>by
 obtain ⟨⟨i,h1⟩,h2,_⟩:=h.free p hp e
 rcases cx.nm i _ h1 with ⟨q,_⟩ | ⟨a,_,q,_⟩
 ·rw [cx.kind] at q;exact absurd q h2
 ·exact ⟨a,q⟩
set_option tactic.hygienic true in
theorem zC (cx:aC C c F n)(h:nU c sc t tn)(hL:L∉F.W++F.V)(hcl:∀x a,(x,N1)∈sc.names->F.env.cells.lookup x=J a->cl.lookup x=J a):aC C (f7 c sc t tn) (fK F sc cl t tn L) n where
 fm:=zB cx h hL
 kind:=λx=>by
  show (relabel sc F.env).names.lookup x=(nC c.kind sc.names).lookup x;rw [nV cx.kind cx.fm.kind]
 nm:=λi x e=>by
  have hkk:∀x,(fK F sc cl t tn L).env.kindOf x=(nC c.kind sc.names).lookup x:=λx=>by
   show (relabel sc F.env).names.lookup x=_;rw [nV cx.kind cx.fm.kind]
  simp only [f7] at e
  split at e
  ·rename_i y hy
   cases e
   refine .inl ⟨?_,?_⟩
   ·rw [hkk,gJ (h.tn x (kb hy).2.1)];rfl
   ·simp only [fK,hy];rfl
  ·rename_i hy;unfold Es at e
   split at e
   ·rename_i y hy'
    split at e
    ·rename_i hf
     cases e
     have hf:sc.names.lookup x=J .free:=by simpa using hf
     have hm:=tL hf;refine e03 (h.free _ hm rfl) λ_ k2 k3=>?_
     rcases cx.nm i x hy' with ⟨q,_⟩ | ⟨a,q1,q2,q3⟩
     ·rw [cx.kind] at q;exact absurd q k2
     ·refine .inr ⟨a,?_,hcl x a hm q2,by simp only [fK,hy];exact q3⟩;rw [hkk,gJ hf];by_cases e:c.kind x=J .cell
      ·exact .inl (by simp [e])
      ·exact .inr ⟨by simp [e],k3⟩
    ·cases e
   ·cases e
 glob:=cx.glob
 meth:=cx.meth
 attr:=cx.attr
 hn:=cx.hn
 hf:=cx.hf
 units:=cx.units
 room:=cx.room
 inter:=by
  unfold interactive;show ((relabel sc F.env).kind==_&&_)=Z;rw [show (relabel sc F.env).kind=ScopeKind.function from h.kind];rfl
 wr:=λi a _ e=>by cases e
 fr:=λi e=>by
  simp only [f7,IT,Lh] at e;simp only [fK]
  split
  ·rename_i x hx;have:=(kb hx).1;have e2:=e.2;rw [List.contains_eq_mem] at e2;simp [this] at e2
  ·exact cx.fr i e.1
set_option tactic.hygienic true in
theorem GA (cx:aC C c F n)(R:Rel C F ρ m s)(h:nU c sc t tn)(hk:∀a o,s.heap.get? a=J o->s'.heap.get? a=J o)(hg:s'.gens=s.gens)(hL:s.heap.get? L=bY)(hns:∃f,s'.heap.Ns L f):Rel C (fK F sc cl t tn L) ρ m s' where
 hp:=R.hp.up (λa o e _=>hk a o e) (λa _ o e=>hk a o e) λb o e=>hk b o (R.hp.base b o e)
 ns:=hns
 w:=λa ha=>by
  have ha:a∈[L]++(F.W++F.V):=ha
  rcases nO.mp ha with q | q
  ·have:a=L:=by simpa using q
   subst this;refine ⟨λq=>?_,cA R.hp hL,?_⟩
   ·obtain ⟨o,e⟩:=R.hp.there q;rw [hL] at e;cases e
   ·refine e43 hns λf o es ep e1 e2 _=>?_;exact ⟨o,e1,.inl ⟨es,ep,e2⟩⟩
  ·obtain ⟨h1,h2,o,h3,h4⟩:=R.w a q;exact ⟨h1,h2,o,hk a o h3,h4⟩
 vars:=λi v e=>by
  refine e12 (R.vars i v e) λl h1 h2=>?_;refine ⟨l,?_,h2.up (λa o e _=>hk a o e) (Kw _) (λo e=>⟨o,hk _ o e,rfl,rfl⟩)⟩;simp only [fK]
  split
  ·rename_i x hx;rw [cx.fr i (h.fr i (kb hx).1)] at h1;cases h1
  ·exact h1
 cells:=λi a e=>by
  simp only [fK] at e
  split at e
  ·cases e
  ·refine e22 (R.cells i a e) λv o h1 h2=>?_;exact ⟨v,o,hk a o h1,h2⟩
 out:=λL hL=>by
  obtain ⟨h1,h2,o,h3,h4⟩:=R.out L hL;exact ⟨h1,h2,o,hk L o h3,h4⟩
 gens:=hg.trans R.gens
end
section
theorem tN (I:Nat->Kv->Prop)
  (turn:∀k s,I k s->BY (mod C) A (pyNext it) (λr s₁=>match r with
   | none=>R (.ok .next) s₁
   | some v=>BY (mod C) A (letOwnedTupleGo target it v) (λ_ s₂=>BY (mod C) A (assign target env v) (λ_ s₃=>
     BY (mod C) A (forIn ifs aT λc r=>if r=aT then do let ok <-isTrue c env (eval c env);pure (Lo ok) else pure (Lo r)) (λok s₄=>
      match ok with
      | true=>BY (mod C) A (eval elt env) (λx s₅=>BY (mod C) A (call (.builtin "list.append") [acc,x]) (λ_ s₆=>∃j,j<k/\I j s₆) (λ_ _=>False) s₅) (λ_ _=>False) s₄
      | false=>∃j,j<k/\I j s₄) (λ_ _=>False) s₃) (λ_ _=>False) s₂) (λ_ _=>False) s₁) (λ_ _=>False) s)
  (k:Nat) (h:I k s):Pp (mod C) A (.compLoop (.ListComp elt [⟨target,iter,ifs,0⟩] scope pos) 0 it acc env) R s:=by
 refine codeAny_loop rfl I (λk s hI=>?_) k h;show BY _ A ((compTurn (.ListComp elt [⟨target,iter,ifs,0⟩] scope pos) 0 it acc env).onRaise (λx=>do noteFrame x env;theTreesLotGoes x)) _ _ s;refine wpAny_noted ?_;rw [compTurn_list];refine iS (Mr (iS (Kq (turn k s hI) (λr s₁ h₁=>?_) λ_ _ h'=>h'.elim)))
 cases r with
 | none=>exact Do h₁
 | some v=>
  refine iS (Kq h₁ (λ_ s₂ h₂=>iS (Kq h₂ (λ_ s₃ h₃=>iS (Kq h₃ (λok s₄ h₄=>?_) λ_ _ h'=>h'.elim)) λ_ _ h'=>h'.elim)) λ_ _ h'=>h'.elim)
  cases ok with
  | false=>exact Do ⟨rfl,h₄⟩
  | true=>exact iS (iS (Kq h₄ (λx s₅ h₅=>iS (Kq h₅ (λ_ s₆ h₆=>Do (Do ⟨rfl,h₆⟩)) λ_ _ h'=>h'.elim)) λ_ _ h'=>h'.elim))
theorem zD (cx:aC C c F n):∀{ifs:List ME},(∀a∈ifs,ST C X n c F a)->∀(xs:List KY),bq c ifs xs=aT->∀(Q:Bool->MS->Prop) (m:MS),lO (Call C) n ifs Q X m->
  WPt C F X (forIn xs aT λc r=>if r=aT then do let ok <-isTrue c F.env (eval c F.env);pure (Lo ok) else pure (Lo r)) Q m
 | [],ih,xs,hc,Q,m,h=>by
  cases xs with
  | nil=>intro s ρ R;exact Do ⟨_,_,.refl _ _ _,R,h⟩
  | cons=>exact ff hc
 | e::es,ih,xs,hc,Q,m,h=>by
  cases xs with
  | nil=>exact ff hc
  | cons x xs=>
   replace hc:=bf hc;intro s ρ R;rw [Oc];refine iS ?_;show BY (mod C) F.A (do let ok <-isTrue x F.env (eval x F.env);pure (Lo ok)) _ _ _;refine iS ((ih e (by exact IS ..) x hc.1.2 _ m h).go R (.refl _ _ _) λρ₁ s₁ m₁ b st t1 R₁ h₁=>Do ?_);show BY (mod C) F.A (forIn xs b λc r=>if r=aT then do let ok <-isTrue c F.env (eval c F.env);pure (Lo ok) else pure (Lo r)) _ _ _
   cases b with
   | true=>exact Kq (zD cx (λa ha=>ih a (IN _ ha)) xs hc.2 Q m₁ h₁ s₁ ρ₁ R₁) (λb s' ⟨ρ',m',a,b',c'⟩=>⟨ρ',m',t1.trans a,b',c'⟩) (Er.back t1)
   | false=>
    have:∀(ys:List KY) (P:Bool->Kv->Prop) (E:DO->Kv->Prop),P Z s₁->BY (mod C) F.A (forIn ys Z λc r=>if r=aT then do let ok <-isTrue c F.env (eval c F.env);pure (Lo ok) else pure (Lo r)) P E s₁:=by
     intro ys
     induction ys with
     | nil=>intro P E hp;exact Do hp
     | cons y ys ihy=>intro P E hp;rw [Oc];exact iS (Do (ihy P E hp))
    exact this xs _ _ ⟨_,_,t1,R₁,h₁⟩
termination_by structural ifs=>ifs
noncomputable def Let (C:Glo)(F:Fm)(L:KO)(ρ₀:List KO)(s₀:Kv)(ρ:List KO)(s:Kv):Prop:=
 ∀ρ' m' s',aB F.W ρ s ρ' s'->Rel C F ρ' m' s'->(∃f,s'.heap.Ns L f)/\∀h',K8 L s'.heap h'->Rel C F ρ' m' { s' with heap:=h' }/\aB F.W ρ₀ s₀ ρ' { s' with heap:=h' }/\bg s'.heap h'
theorem GB (cx:aC C c F n)(st₀:aB F.W ρ₀ s₀ ρ s)(R₀:Rel C F ρ₀ m s₀)(h0:s₀.heap.get? L=bY)(h1:L∉ρ)(h2:L∉F.W++F.V)(h3:∃f,s.heap.Ns L f):Let C F L ρ₀ s₀ ρ s:=by
 intro ρ' m' s' st R;obtain ⟨f,hf⟩:=h3;refine e33 hf λo es ep e1 e2 e3=>?_;have hb:=cA R₀.hp h0;have hL:L∉ρ':=λq=>(st.new L q).elim h1 λq=>by exact bc q e1
 have hd:∀o,s.heap.get? L=J o->∃o',s'.heap.get? L=J o'/\o'.data=o.data:=λo e=>by
  rcases st.keep L o e h1 (λq=>h2 (tO _ q)) with q | ⟨_,sl,q⟩
  ·exact ⟨_,q,rfl⟩
  ·exact ⟨_,q,rfl⟩
 have hf':s'.heap.Ns L f:=mE hf hd;refine ⟨⟨f,hf'⟩,λh' hs=>?_⟩;refine e12 (hd o e1) λo' g1 g2=>?_;have hw:WOk s'.heap L:=⟨o',g1,.inl ⟨es,ep,g2.trans e2⟩⟩
 have hsol:bg s'.heap h':=dW (λb ob q e=>(hs.2 b q).trans e) (jq hw);have sd:hZ [L] s' { s' with heap:=h' }:=⟨λb ob hb e=>(hs.2 b (by exact λq=>hb (iD.mpr q))).trans e,rfl,rfl⟩
 refine ⟨R.side0 cx.fm hsol (λa ha=>?_) (λL' hL' q=>?_) sd,(st₀.trans st).side sd (λa ha=>?_),hsol⟩
 ·have:a=L:=by exact iD.mp ha
  subst this;exact ⟨hL,h2,hb⟩
 ·have:L'=L:=by exact iD.mp q
  subst this;obtain ⟨_,_,ob,k5,_⟩:=R₀.out _ hL';exact bc h0 k5
 ·have:a=L:=by exact iD.mp ha
  subst this;exact h0
end
section
noncomputable def KpU (U:List KO)(s s':Kv):Prop:=∀a∈U,∀o,s.heap.get? a=J o->s'.heap.get? a=J o
theorem KpU.trans (x:KpU U s s')(y:KpU U s' s''):KpU U s s'':=λa h o e=>y a h o (x a h o e)
inductive J4 (C:Glo)(F:Fm)(U:List KO)(ρ:List KO)(s:Kv)(P:MS->Prop)(s':Kv):Prop
 | mk (m':MS) (st:aB F.W ρ s ρ s') (R:Rel C F ρ m' s') (h:P m') (k:KpU U s s')
inductive J5 (C:Glo)(F:Fm)(U:List KO)(ρ:List KO)(s:Kv)(P:Bool->MS->Prop)(b:Bool)(s':Kv):Prop
 | mk (ρ':List KO) (m':MS) (st:aB F.W ρ s ρ' s') (R:Rel C F ρ' m' s') (h:P b m') (k:KpU U s s')
inductive J6 (C:Glo)(F:Fm)(U:List KO)(ρ:List KO)(s:Kv)(P:PQ)(w:DO)(s':Kv):Prop
 | mk (ρ':List KO) (m':MS) (y:MV) (st:aB F.W ρ s ρ' s') (R:Rel C F ρ' m' s') (r:Rep C ρ' s'.heap y w) (h:P y m') (k:KpU U s s')
structure CO (C:Glo)(n:Nat)(F:Fm)(U:List KO)(target elt':KY)(ifs':List KY)(t:List Nat)(many:Bool)(elt:ME)(ifs:List ME):Prop where
 asg:∀{ρ:List KO} {m:MS} {s:Kv} {x:MV} {v:DO} {P:MS->Prop},(∀a∈U,a∈ρ)->Rel C F ρ m s->Rep C ρ s.heap x v->Internal.asg t many x P m->BY (mod C) F.A (assign target F.env v) (λ_ s'=>J4 C F U ρ s P s') (λ_ _=>False) s
 ifs:∀{ρ:List KO} {m:MS} {s:Kv} {P:Bool->MS->Prop},(∀a∈U,a∈ρ)->Rel C F ρ m s->lO (Call C) n ifs P noX m->BY (mod C) F.A (forIn ifs' aT λc r=>if r=aT then do let ok <-isTrue c F.env (eval c F.env);pure (Lo ok) else pure (Lo r)) (J5 C F U ρ s P) (λ_ _=>False) s
 elt:∀{ρ:List KO} {m:MS} {s:Kv} {P:PQ},(∀a∈U,a∈ρ)->Rel C F ρ m s->wpE (Call C) n elt P noX m->BY (mod C) F.A (eval elt' F.env) (J6 C F U ρ s P) (λ_ _=>False) s
theorem tQ (cx':aC C c' F n)(hnh:c'.nh=aT)(helt:SV C noX n c' F elt)(hce:aX c' elt elt'=aT)(hifs:∀a∈ifs,ST C noX n c' F a)(hci:bq c' ifs ifs'=aT)(ht:oU c' t many target=aT):CO C n F [] target elt' ifs' t many elt ifs where
 asg:=λ_ R rv h=>Kq (li cx' ht rv R h λ_=>cx'.hn hnh) (λ_ s' ⟨m',a,b,c⟩=>⟨m',a,b,c,λ_ h=>aO h⟩) λ_ _ x=>x
 ifs:=λ_ R h=>Kq ((zD cx' hifs ifs' hci _ _ h) _ _ R) (λb s' ⟨ρ',m',a,b',c⟩=>⟨ρ',m',a,b',c,λ_ h=>aO h⟩) λ_ _ x=>Er.no x
 elt:=λ_ R h=>Kq ((helt elt' hce _ _ h) _ _ R) (λw s' ⟨ρ',m',y,a,b,c,d⟩=>⟨ρ',m',y,a,b,c,d,λ_ h=>aO h⟩) λ_ _ x=>Er.no x
inductive I5 (C:Glo)(F:Fm)(W:List KO)(items:List MV)(g:Gd)(stp:MV->(Option MV->MS->Prop)->MS->Prop)(Q:List MV->MS->Prop)(D:KO)(S:List KO)(It:Nat->List KO->Kv->Prop)(ρ₀:List KO)(s₀:Kv)(k:Nat)(s:Kv):Prop
 | mk (ρ:List KO) (m:MS) (i:Nat) (acc:List MV) (accv:List DO) (k₁:Nat) (hk:k=items.length-i) (st:aB W ρ₀ s₀ ρ s) (R:Rel C F ρ m s) (hit:It i ρ s) (as:dS C F ρ s.heap (D::S)) (hD:s.heap.get? D=J (eh accv k₁)) (rl:aL C ρ s.heap acc accv) (hal:acc.length<=i) (hil:i<=items.length) (hf:dA g stp Q (items.drop i) acc m)
theorem xm {F':Fm}(ok:bb F'){L D:KO}(hW:F'.W=[L]){target elt' iter:KY}{ifs':List KY}{elt:ME}{ifs:List ME}{t:List Nat}{many:Bool}{sc:Scope}{pos:Pos}{itv:DO}{items:List MV}{g:Gd}{S U:List KO}{It:Nat->List KO->Kv->Prop}
  (wk:qh C F'.A target itv items g S U It) (hlen:items.length<=line) (T:CO C n F' U target elt' ifs' t many elt ifs) (hU:∀a∈U,a∈ρ)
  {stp:MV->(Option MV->MS->Prop)->MS->Prop}(hstp:∀v P m,stp v P m->asg t many v (λm=>lO (Call C) n ifs (BE (wpE (Call C) n elt) P) noX m) m)
  {Q:List MV->MS->Prop}(R:Rel C F' ρ m s) (h0:It 0 ρ s) (as:dS C F' ρ s.heap (D::S)) (hDS:D∉S) {k₀:Nat}(hD:s.heap.get? D=J (eh [] k₀))
  (h:dA g stp Q items [] m)
  {RR:Result->Kv->Prop}(hk:∀ρ' m' s₁ s' acc accv k,aB (L::D::S) ρ s ρ' s₁->hZ S s₁ s'->bg s₁.heap s'.heap->Rel C F' ρ' m' s'->s'.heap.get? D=J (eh accv k)->aL C ρ' s'.heap acc accv->acc.length<=line->Q acc m'->RR (.ok .next) s') :
  Pp (mod C) F'.A (.compLoop (.ListComp elt' [⟨target,iter,ifs',0⟩] sc pos) 0 itv (.ref D) F'.env) RR s:=by
 refine tN (I5 C F' (L::D::S) items g stp Q D S It ρ s) (λk s₁ hI=>?_) _ ⟨ρ,m,0,[],[],k₀,rfl,.refl _ _ _,R,h0,as,hD,.nil,oF _,Ko _,by exact h⟩;obtain ⟨ρ₁,m₁,i,acc,accv,k₁,rfl,st₁,R₁,hit,as₁,hD₁,rl,hal,hil,hf⟩:=hI;have hsub:∀a∈S,a∈L::D::S:=λa ha=>IN _ (IN _ ha);have hsubD:∀a∈[D],a∈L::D::S:=λa ha=>by
  have:a=D:=by exact iD.mp ha
  subst this;exact IN _ (IS ..)
 have hsubL:∀a∈F'.W,a∈L::D::S:=λa ha=>by
  rw [hW] at ha;have:a=L:=by exact iD.mp ha
  subst this;exact IS ..
 have asS:dS C F' ρ₁ s₁.heap S:=λa ha=>as₁ a (IN _ ha)
 cases e:items[i]? with
 | none=>
  have hd:items.drop i=[]:=by rw [N8];exact Lr.mp e
  rw [hd,kZ] at hf;obtain ⟨hg,hq⟩:=hf;refine Kq (wk.done i ρ₁ m₁.heap s₁ R₁.hp hg hit e (λ_ _=>False) (λs₂=>hZ S s₁ s₂) λs₂ sd=>sd) (λr s₂ ⟨hr,sd⟩=>?_) λ_ _ x=>x.elim;subst hr;have hsol:=asS.solids sd;exact hk ρ₁ m₁ s₁ s₂ acc accv k₁ st₁ sd hsol (R₁.side ok asS sd) (sd.1 D _ hDS hD₁) (rl.up hsol (Kw _)) (dO hal (dO hil hlen)) hq
 | some x=>
  obtain ⟨hlt,hx⟩:=iN.mp e;rw [Le hlt,hx,gF] at hf;refine e02 hf λhg hq=>?_;refine wk.item i ρ₁ m₁.heap s₁ x R₁.hp hg hit e _ _ _ λv s₂ sd hit' rv=>?_;have hsol:=asS.solids sd;have R₂:=R₁.side ok asS sd;have sh₂:=wk.shape _ _ _ hit';have hD₂:=sd.1 D _ hDS hD₁;have as₂:dS C F' ρ₁ s₂.heap (D::S):=as₁.shape λa ha=>by
   rcases IF.mp ha with rfl | ha
   ·exact dE hD₂ rfl (by decide) (λ⟨_,_,q⟩=>by cases q) a (by exact iD.mpr rfl)
   ·exact sh₂ a ha
  have rl₂:=rl.up hsol (Kw _);have st₂:=st₁.trans (aB.ofSide sd hsub (λa ha=>(asS a ha).2.2.2) sh₂);have hU₁:∀a∈U,a∈ρ₁:=λa ha=>st₁.pre.subset (hU a ha);refine Kq (T.asg hU₁ R₂ rv (hstp _ _ _ hq)) (λ_ s₃ h₃=>?_) λ_ _ x=>x;obtain ⟨m₃,st₃,R₃,hq₃,ku₃⟩:=h₃;refine Kq (T.ifs hU₁ R₃ hq₃) (λb s₄ h₄=>?_) λ_ _ x=>x;obtain ⟨ρ₄,m₄,st₄,R₄,h₄,ku₄⟩:=h₄;have t₄:=st₃.trans st₄;have ku₄:=ku₃.trans ku₄;refine e02 (as₂.step t₄) λas₄ kp₄=>?_
  cases b with
  | false=>exact ⟨_,N9 _ _ hlt,ρ₄,m₄,i+1,acc,accv,k₁,rfl,st₂.trans (t₄.mono hsubL),R₄,wk.keep _ _ _ _ _ hit' t₄.pre t₄.solid (λa ha=>(nO.mp ha).elim (λha=>kp₄ a (IN _ ha)) (ku₄ a)),as₄,kp₄ D (IS ..) _ hD₂,rl₂.step t₄,Mz hal,hlt,h₄⟩
  | true=>
   refine Kq (T.elt (λa ha=>t₄.pre.subset (hU₁ a ha)) R₄ h₄) (λw s₅ h₅=>?_) λ_ _ x=>x;obtain ⟨ρ₅,m₅,y,st₅,R₅,ry,h₅,ku₅⟩:=h₅;have t₅:=t₄.trans st₅;have ku₅:=ku₄.trans ku₅;refine e02 (as₂.step t₅) λas₅ kp₅=>?_;have hD₅:=kp₅ D (IS ..) _ hD₂;have rl₅:=rl₂.step t₅;refine PySem.wpAny_list_append_plain ⟨_,hD₅⟩ (λh' hl hs=>?_) (by rw [Ky,rl₅.length];exact dO hal (dO (LA hlt) hlen));obtain ⟨k₆,hl⟩:=hl;have sd₆:hZ [D] s₅ { s₅ with heap:=h' }:=⟨λb ob hb e=>(hs.2 b (by exact λq=>hb (iD.mpr q))).trans e,rfl,rfl⟩
   have asD:dS C F' ρ₅ s₅.heap [D]:=λa ha=>as₅ a (by
    have:a=D:=by exact iD.mp ha
    subst this;exact IS ..)
   have hsol₆:=asD.solids sd₆;have hD₆:h'.get? D=J (eh (accv++[w]) k₆):=by rw [hl];simp
   have shD:∀a∈[D],Shp h' a:=dE hD₆ rfl (by decide) (λ⟨_,_,q⟩=>by cases q);have kS:∀a∈S,∀o,s₅.heap.get? a=J o->h'.get? a=J o:=λa ha o e=>sd₆.1 a o (λq=>by
    have:a=D:=by exact iD.mp q
    subst this;exact hDS ha) e
   refine ⟨_,N9 _ _ hlt,ρ₅,m₅,i+1,acc++[y],accv++[w],k₆,rfl,(st₂.trans (t₅.mono hsubL)).trans (aB.ofSide sd₆ hsubD (λa ha=>(asD a ha).2.2.2) shD),R₅.side ok asD sd₆,
    wk.keep _ _ _ _ _ hit' t₅.pre (λa o e h=>hsol₆ a o (t₅.solid a o e h) h) (λa ha o e=>(nO.mp ha).elim (λha=>kS a ha o (kp₅ a (IN _ ha) o e)) λha=>sd₆.1 a o (λq=>(asD a q).1 (t₅.pre.subset (hU₁ a ha))) (ku₅ a ha o e)),as₅.shape (λa ha=>?_),hD₆,
    (rl₅.append (.cons ry .nil)).up hsol₆ (Kw _),(by rw [eQ];exact KJ hal),hlt,h₅⟩
   rcases IF.mp ha with rfl | ha
   ·exact shD a (by exact iD.mpr rfl)
   ·refine e12 ((as₅ a (IN _ ha)).2.2.2) λo e1 e2=>?_;exact ⟨o,kS a ha o e1,e2⟩
end
section
theorem zE (G:GOk C)(cx':aC C c' F n)(hs:(uy&&yT elt t many ifs)=aT)(hce:aX c' elt elt'=aT)(hci:bq c' ifs ifs'=aT)(ht:oU c' t many target=aT):CO C n F U target elt' ifs' t many elt ifs:=ff hs
end
section
theorem u7 (G:GOk C)(cx:aC C c F n)(hnh:c.nh=aT)
  (hasync:g.is_async=0) (hx:okX g.iter=aT) (hen:nG k=aT->many=aT) (hsel:nE k=aT->(uy&&yT elt t many ifs)=aT) (hco:qg c sc t (cc g.target)=aT) (hxs:nF c k g.iter=J xs) (hcs:bq c src xs=aT)
  (ht:oU (f7 c sc t (cc g.target)) t many g.target=aT) (hci:bq (f7 c sc t (cc g.target)) ifs g.ifs=aT) (hce:aX (f7 c sc t (cc g.target)) elt elt'=aT)
  (hsrc:∀a∈src,SV C X n c F a) (helt:∀F',aC C (f7 c sc t (cc g.target)) F' n->SV C noX n (f7 c sc t (cc g.target)) F' elt)
  (hifs:∀F',aC C (f7 c sc t (cc g.target)) F' n->∀a∈ifs,ST C noX n (f7 c sc t (cc g.target)) F' a)
  (h:wpE (Call C) n (.comp elt t many k src ifs) Q X m) (R:Rel C F ρ m s)
  (hk:∀D L ρ' m' s' i,aB F.W ρ s ρ' s'->Rel C F ρ' m' s'->Rep C ρ' s'.heap (.ref i) (.ref D)->Q (.ref i) m'->Let C F L ρ s ρ' s'->compPost (mod C) F.A (Er C F X ρ s) use QQ (.ref D) L (.ok .next) s') :
  BY (mod C) F.A (comprehension (.ListComp elt' [g] sc pos) sc F.env p' (newList []) Z (eval g.iter F.env) use) QQ (Er C F X ρ s) s:=by
 obtain ⟨target,iter,ifs',isa⟩:=g;replace h:jm (Call C) n src _ X m:=h;simp only at *;subst hasync;have hCO:=xk hco;refine e12 (tM (xl cx hCO)) λcl hcl hcl'=>?_;have htt:=lT ht;refine wpAny_comprehension_free rfl (nq hx _) hcl hCO.kind hCO.loc (Kq (u2 G cx hnh hsrc hxs hcs htt (λe=>by have:=hen e;subst this;obtain ⟨a,b,d,e,_⟩:=jd ht;exact ⟨a,b,d,e,trivial⟩)
  (P:=λitems g m=>dA g (λv P m=>asg t many v (λm=>lO (Call C) n ifs (BE (wpE (Call C) n elt) P) noX m) m) (λacc m'=>Q (.ref m'.heap.length) ⟨m.vars,m'.heap++[.list acc]⟩) items [] m) h R) (λxv s₁ h₁=>Kq h₁ (λitv s₂ h₂=>?_) λ_ _ x=>x) λ_ _ x=>x)
 obtain ⟨ρ₂,m₂,items,gg,S,U,It,st₂,R₂,wk,h0,as,hS,hlen,hP,hU,hUr⟩:=h₂;refine Lz (wpAny_newFunctionEnv hCO.cell (by intro y hy;exact aO hy) (λh₁ hns₁ hsb₁=>?_) hCO.kind);dsimp only at hns₁ hsb₁ ⊢;generalize hH2:s₂.heap.push { cls:=.type "list",dict:=none,data:=.seq ([]:List DO).toArray }=H2 at hns₁ hsb₁ ⊢;have hC:H2.objs.size=s₂.heap.objs.size+1:=by rw [<-hH2,Pa]
 generalize hLL:H2.objs.size=L at hns₁ hsb₁ hC ⊢;generalize hDD:s₂.heap.objs.size=D at hC ⊢;have hD0:s₂.heap.get? D=bY:=bZ (by rw [hDD];exact oF _);have hL0:s₂.heap.get? L=bY:=bZ (by rw [hDD,hC];exact Ma _);have hDL:D≠L:=by rw [hC];exact (MN _).symm
 have hk4:∀a o,s₂.heap.get? a=J o->h₁.get? a=J o:=λa o e=>by
  have ha:a≠L:=λq=>by rw [q,hL0] at e;exact aJ e
  exact (hsb₁.2 a ha).trans (Kt _ (hH2▸Kt _ e))
 have hD4:h₁.get? D=J (eh [] 0):=(hsb₁.2 D hDL).trans (Kt _ (by rw [<-hH2,<-hDD];exact KM _ rfl));generalize hs4:({ s₂ with heap:=h₁,toks:=s₂.toks+([]:List (Str × DO)).length }:Kv)=s₄;have e4:s₄.heap=h₁/\s₄.gens=s₂.gens/\s₄.os=s₂.os:=by rw [<-hs4];exact ⟨rfl,rfl,rfl⟩
 rw [<-e4.1] at hns₁ hD4 hk4;have notW:∀a,s₂.heap.get? a=bY->a∉F.W++F.V:=λa e q=>by
  obtain ⟨_,_,o,e',_⟩:=R₂.w a q;exact bc e e'
 have cx':=zC (cl:=cl) cx hCO (notW L hL0) hcl';have R₄:=GA (cl:=cl) (s':=s₄) cx R₂ hCO hk4 e4.2.1 hL0 ⟨_,hns₁⟩;have hsol4:bg s₂.heap s₄.heap:=λa o e _=>hk4 a o e;have h04:It 0 ρ₂ s₄:=wk.keep _ _ _ _ _ h0 (Kw _) hsol4 λa _ o e=>hk4 a o e;have hSthere:∀a∈S,∃o,s₂.heap.get? a=J o:=λa ha=>by obtain ⟨_,_,_,o,e,_⟩:=as a ha;exact ⟨o,e⟩
 have hDS:D∉S:=λq=>by obtain ⟨o,e⟩:=hSthere D q;exact bc hD0 e
 have notρ:∀a,s₂.heap.get? a=bY->a∉ρ₂:=λa e q=>by obtain ⟨o,e'⟩:=R₂.hp.there q;exact bc e e'
 have as4:dS C (fK F sc cl t (cc target) L) ρ₂ s₄.heap (D::S):=λa ha=>by
  rcases IF.mp ha with rfl | ha
  ·refine ⟨notρ a hD0,λq=>?_,cA R₂.hp hD0,dE hD4 rfl (by decide) (λ⟨_,_,q⟩=>by cases q) a (by exact iD.mpr rfl)⟩;refine Lm (nO.mp q) (λq=>?_) λq=>?_
   ·exact hDL (by exact iD.mp q)
   ·exact notW a hD0 q
  ·obtain ⟨a1,a2,a3,o,a4,a5⟩:=as a ha;refine ⟨a1,λq=>?_,a3,o,hk4 a o a4,a5⟩;refine Lm (nO.mp q) (λq=>?_) λq=>?_
   ·have:a=L:=by exact iD.mp q
    subst this;exact bc hL0 a4
   ·exact a2 q
 have fin:∀ρ' m' s₁' s' acc accv k',aB (L::D::S) ρ₂ s₄ ρ' s₁'->hZ S s₁' s'->bg s₁'.heap s'.heap->Rel C (fK F sc cl t (cc target) L) ρ' m' s'->s'.heap.get? D=J (eh accv k')->aL C ρ' s'.heap acc accv->acc.length<=line->
   Q (.ref m'.heap.length) ⟨m₂.vars,m'.heap++[.list acc]⟩->compPost (mod C) F.A (Er C F X ρ s) use QQ (.ref D) L (.ok .next) s':=by
  intro ρ' m' s₁' s' acc accv k' st' sd hsol R' hD' rl hal hq;have hDρ:D∉ρ':=λq=>(st'.new D q).elim (notρ D hD0) λq=>by exact bc q hD4
  have hLW:=R'.w L (tO _ (iD.mpr rfl));have hH:Hp C (ρ'++[D]) (m'.heap++[.list acc]) s'.heap:=R'.hp.alloc (λa o e _=>e) (λa _ o e=>e) R'.hp.base hDρ (cA R₂.hp hD0) ⟨accv,k',hD',rl.up (λa o e _=>e) (Lb _ _),hal⟩;have hkeep:∀a o,s₂.heap.get? a=J o->a∉ρ₂->a∉S->s'.heap.get? a=J o\/(IsD o/\∃sl,s'.heap.get? a=J { o with slots:=sl }):=λa o e h1 h2=>by
   have hn:a∉L::D::S:=λq=>by
    rcases IF.mp q with rfl | q
    ·exact bc hL0 e
    ·rcases IF.mp q with rfl | q
     ·exact bc hD0 e
     ·exact h2 q
   rcases st'.keep a o (hk4 a o e) h1 hn with q | ⟨q,sl,q'⟩
   ·exact .inl (sd.1 a _ h2 q)
   ·exact .inr ⟨q,sl,sd.1 a _ h2 q'⟩
  have hKD:∀a,a∉ρ₂->a∉S->ni s₂.heap s'.heap a:=λa h1 h2 o e=>by
   rcases hkeep a o e h1 h2 with q | ⟨_,sl,q⟩
   ·exact ⟨_,q,rfl,rfl⟩
   ·exact ⟨_,q,rfl,rfl⟩
  have hs2:bg s₂.heap s'.heap:=λa o e h=>hsol a o (st'.solid a o (hk4 a o e) h) h;have hpre:ρ₂<+:ρ'++[D]:=st'.pre.trans (Lb _ _);have hnew:∀a∈ρ'++[D],a∈ρ₂\/s₂.heap.get? a=bY:=λa ha=>by
   refine Lm (nO.mp ha) (λq=>?_) λq=>?_
   ·exact (st'.new a q).imp id λq=>by
     cases e:s₂.heap.get? a with
     | none=>rfl
     | some o=>rw [hk4 a o e] at q;exact jF q
   ·have:a=D:=by exact iD.mp q
    subst this;exact .inr hD0
  have hgens:s'.gens=s₂.gens:=sd.2.1.trans (st'.gens.trans e4.2.1);have Rf:Rel C F (ρ'++[D]) ⟨m₂.vars,m'.heap++[.list acc]⟩ s':=R₂.up cx.fm hs2 hpre hH hnew (λa ha=>hKD a (R₂.w a ha).1 λq=>(as a q).2.1 ha)
   (λL' hL'=>by
    obtain ⟨k3,_,o,k5,k6⟩:=R₂.out L' hL';refine hKD L' k3 λq=>?_;obtain ⟨_,_,_,o2,g1,_,g2⟩:=as L' q;obtain rfl:=same k5 g1;exact g2 k6) hgens
  have fr:∀a∈L::D::S,s.heap.get? a=bY:=λa ha=>by
   rcases IF.mp ha with rfl | q
   ·exact d5 st₂ hL0
   ·rcases IF.mp q with rfl | q
    ·exact d5 st₂ hD0
    ·exact hS a q
  have stf:aB F.W ρ s (ρ'++[D]) s':=by
   have g:aB F.W ρ₂ s₂ ρ₂ s₄:=⟨Kw _,λ_ h=>.inl h,λa o e _ _=>.inl (hk4 a o e),hsol4,λa o e=>⟨o,hk4 a o e⟩,e4.2.1,e4.2.2⟩
   have z:=((st₂.trans g).behind st' fr).side sd λa ha=>hS a ha;exact ⟨z.pre.trans (Lb _ _),λa ha=>by
    refine Lm (nO.mp ha) (λq=>?_) λq=>?_
    ·exact z.new a q
    ·have:a=D:=by exact iD.mp q
     subst this;exact .inr (d5 st₂ hD0),z.keep,z.solid,z.alive,z.gens,z.os⟩
  refine hk D L (ρ'++[D]) _ s' m'.heap.length stf Rf (.ref ?_) hq (GB cx stf R (d5 st₂ hL0) (λq=>?_) (notW L hL0) R'.ns)
  ·rw [<-R'.hp.len,K7 (oF _)];simp
  ·refine Lm (nO.mp q) (λq=>?_) λq=>?_
   ·exact hLW.1 q
   ·exact hDL (by exact iD.mp q:L=D).symm
 have T:CO C n (fK F sc cl t (cc target) L) U target elt' ifs' t many elt ifs:=by
  cases hkk:nE k with
  | false=>obtain rfl:=hU hkk;exact tQ cx' hnh (helt _ cx') hce (hifs _ cx') hci ht
  | true=>exact zE G cx' (hsel hkk) hce hci ht
 have loop:Pp (mod C) F.A (.compLoop (.ListComp elt' [⟨target,iter,ifs',0⟩] sc pos) 0 itv (.ref D) (compEnvC sc cl L F.env)) (compPost (mod C) F.A (Er C F X ρ s) use QQ (.ref D) L) s₄:=
  xm cx'.fm rfl wk hlen T hUr (λ_ _ _ h=>h) R₄ h04 as4 hDS hD4 hP fin
 exact codeAny_compStart_list loop (wk.self 0 ρ₂ s₄ h04 _ _ loop)
end
section
theorem CP (G:GOk C)(cx:aC C c F n)(hsrc:∀a∈src,SV C X n c F a)(helt:∀c' F',aC C c' F' n->SV C noX n c' F' elt)
  (hifs:∀c' F',aC C c' F' n->∀a∈ifs,ST C noX n c' F' a):SV C X n c F (.comp elt t many k src ifs):=by
 intro e hc Q m h;replace hc:=ah hc;obtain ⟨⟨elt',gs,sc⟩,hxx,hc⟩:=hc;replace hc:=ah hc;obtain ⟨g,hg,hc⟩:=hc
 cases cU hg
 obtain ⟨pos,rfl⟩:=qc hxx;simp only [IT,beq_iff_eq,O0,Lh] at hc;obtain ⟨⟨⟨⟨⟨⟨⟨⟨⟨h0,h1⟩,h2⟩,h3⟩,h9⟩,h4⟩,h5⟩,h6⟩,h7⟩,h8⟩:=hc;refine e12 (ah h5) λxs hxs h5=>?_;intro s ρ R;have ha:firstAsync [g]=Z:=by
  obtain ⟨_,_,_,a⟩:=g;simp only at h1;subst h1;rfl
 have hfi:firstIter [g] F.env=eval g.iter F.env:=by cases g;rfl
 rw [eval_ListComp,ha,hfi];refine u7 (use:=none) G cx h0 h1 h2 (λe=>h3.resolve_left (by rw [e];decide)) (λe=>KU.mpr (h9.resolve_left (by rw [e];decide))) h4 hxs h5 h6 h7 h8 hsrc (helt _) (hifs _) h R λD L ρ' m' s' i st R' rx hq hl=>?_;obtain ⟨⟨f,hf⟩,hs⟩:=hl ρ' m' s' (.refl _ _ _) R';refine ⟨f,hf,λh' hsb=>?_⟩;refine e03 (hs h' hsb) λRf stf hsol=>?_;exact ⟨ρ',m',.ref i,stf,Rf,rx.up hsol (Kw _),hq⟩
theorem bF (G:GOk C)(cx:aC C c F n)(ia:SV C X n c F me)(hpl:∀e,aX c me e=aT->bi e=aT):SV C X n c F me/\ST C X n c F me:=⟨ia,zq G cx ia hpl⟩
mutual
theorem sE (G:GOk C):∀(me:ME) (X:XM) (c:Cx) (F:Fm),aC C c F n->SV C X n c F me/\ST C X n c F me
 | .cst v,X,c,F,cx=>bF G cx (FU G cx) Gp
 | .var i,X,c,F,cx=>bF G cx (FV G cx) Gq
 | .glob g v,X,c,F,cx=>bF G cx (Ck G cx) CE
 | .bin op a b,X,c,F,cx=>bF G cx (FW G cx (sE G a X c F cx).1 (sE G b X c F cx).1) Gr
 | .neg a,X,c,F,cx=>bF G cx (FX G cx (sE G a X c F cx).1) Gz
 | .not a,X,c,F,cx=>⟨FY G cx (sE G a X c F cx).1,Gj G cx (sE G a X c F cx).2⟩
 | .and es,X,c,F,cx=>⟨FZ G cx λa ha=>(sEs G es X c F cx a ha).1,Gk G cx λa ha=>(sEs G es X c F cx a ha).2⟩
 | .or es,X,c,F,cx=>⟨IV G cx λa ha=>(sEs G es X c F cx a ha).1,I3 G cx λa ha=>(sEs G es X c F cx a ha).2⟩
 | .cmp op a b,X,c,F,cx=>⟨F0 G cx (sE G a X c F cx).1 (sE G b X c F cx).1,Gl G cx (sE G a X c F cx).1 (sE G b X c F cx).1⟩
 | .cmp2 op op' a b d,X,c,F,cx=>⟨CL G cx (sE G a X c F cx).1 (sE G b X c F cx).1 (sE G d X c F cx).1,CM G cx (sE G a X c F cx).1 (sE G b X c F cx).1 (sE G d X c F cx).1⟩
 | .isN p a,X,c,F,cx=>⟨F3 G cx (sE G a X c F cx).1,Gm G cx (sE G a X c F cx).1⟩
 | .call f args,X,c,F,cx=>bF G cx (Co G cx λa ha=>(sEs G args X c F cx a ha).1) CH
 | .blt b args,X,c,F,cx=>bF G cx (Gb G cx λa ha=>(sEs G args X c F cx a ha).1) Gy
 | .mth k o args,X,c,F,cx=>bF G cx (F4 G cx (sE G o X c F cx).1 λa ha=>(sEs G args X c F cx a ha).1) Gw
 | .umth k f x o args,X,c,F,cx=>bF G cx (CA G cx (sE G o X c F cx).1 λa ha=>(sEs G args X c F cx a ha).1) CI
 | .new k f args,X,c,F,cx=>bF G cx (Ge G cx λa ha=>(sEs G args X c F cx a ha).1) Gx
 | .attr k o x,X,c,F,cx=>bF G cx (Cz G cx (sE G o X c F cx).1) CJ
 | .idx o i,X,c,F,cx=>bF G cx (F5 G cx (sE G o X c F cx).1 (sE G i X c F cx).1) Gs
 | .sl o lo hi,X,c,F,cx=>bF G cx (IW G cx (sE G o X c F cx).1 (sO G lo X c F cx) (sO G hi X c F cx)) I4
 | .list es,X,c,F,cx=>bF G cx (Cp G cx λa ha=>(sEs G es X c F cx a ha).1) CF
 | .tup es,X,c,F,cx=>bF G cx (F6 G cx λa ha=>(sEs G es X c F cx a ha).1) Gu
 | .dict0,X,c,F,cx=>bF G cx (y7 G cx) zw
 | .comp elt t many k src ifs,X,c,F,cx=>bF G cx (CP G cx (λa ha=>(sEs G src X c F cx a ha).1) (λc' F' cx'=>(sE G elt noX c' F' cx').1) λc' F' cx' a ha=>(sEs G ifs noX c' F' cx' a ha).2) CG
 | .isi a ts,X,c,F,cx=>bF G cx (Gi G cx (sE G a X c F cx).1) Gv
theorem sEs (G:GOk C):∀(es:List ME) (X:XM) (c:Cx) (F:Fm),aC C c F n->∀a∈es,SV C X n c F a/\ST C X n c F a
 | [],X,c,F,cx,a,ha=>by exact aO ha
 | e::es,X,c,F,cx,a,ha=>(IF.mp ha).elim (λh=>h▸sE G e X c F cx) λh=>sEs G es X c F cx a h
theorem sO (G:GOk C):∀(o:Option ME) (X:XM) (c:Cx) (F:Fm),aC C c F n->∀a,o=J a->SV C X n c F a
 | none,X,c,F,cx,a,ha=>by exact aJ ha
 | some e,X,c,F,cx,a,ha=>(By ha)▸(sE G e X c F cx).1
end
theorem gL (G:GOk C)(cx:aC C c F n)(me:ME)(e:KY)(hc:aX c me e=aT)(Q:PQ)(m:MS)(h:wpE (Call C) n me Q X m):WPv C F X (eval e F.env) Q m:=(sE G me X c F cx).1 e hc Q m h
theorem zF (G:GOk C)(cx:aC C c F n)(me:ME)(e:KY)(hc:aX c me e=aT)(Q:Bool->MS->Prop)(m:MS)(h:wpE (Call C) n me (bX Q) X m):WPt C F X (isTrue e F.env (eval e F.env)) Q m:=(sE G me X c F cx).2 e hc Q m h
end
section
theorem CQ (ok:bb F)(R:Rel C F ρ m s)(rx:Rep C ρ s.heap (.ref r) xv)(hi:m.heap[r]?=J (.list xs))(hj:g9 k xs.length=J j)(hu:D8=aT/\0<=k)(ru:Rep C ρ s.heap u uv)(hp:∀s',Rel C F ρ (m.put r (.list (xs.set j u))) s'->aB F.W ρ s ρ s'->P () s') :
  BY (mod C) A (setItem xv (.int k t) uv) P E s:=absurd hu.1 (by decide)
end
noncomputable def qm (F:Fm):Prop:=(∃outer,F.A.frames=J (F.env::outer))/\F.env.frame=J F.env.locals
theorem mL (ok:bb F)(fo:qm F)(hb:C.base.StaysIn s₀.heap)(h:Er C F X ρ₀ s₀ e s):notedBy (mod C) F.A F.env (λe s'=>cameBackBy (mod C) F.A F.env (Er C F X ρ₀ s₀) e s') e s:=OQ h
noncomputable def ErC (C:Glo)(X:XT)(ρ:List KO)(s:Kv)(e:DO)(s':Kv):Prop:=False
noncomputable def tR (e:KY):Bool:=(tj e).isSome
theorem tS (h:tR v=Z)(h':okX v=aT)(env:Env):swappedStores [.Tuple elts k p] v env=pure bY:=
 dX (P:=λv=>tR v=Z->swappedStores [.Tuple elts k p] v env=pure bY) h' (λ_ _ _ _=>rfl) (λ_ _ _=>rfl) (λ_ _ _ _ _=>rfl) (λ_ _ _ _=>rfl) (λ_ _ _ _=>rfl) (λ_ _ _ _ _=>rfl) (λ_ _ _ _ _=>rfl) (λ_ _ _ _=>rfl) (λ_ _ _ _=>rfl) (λ_ _ _=>rfl) (λ_ _ _ h=>by exact tf h) (λ_ _ _ _=>rfl) (λ_ _ _ _ _=>rfl) h
noncomputable def qn:ME->Bool
 | .comp ..=>aT
 | _=>Z
set_option genCtorIdx false in
structure VS where
 tag:Nat
 p:Pos:=ym
 ts:List Expr:=[]
 e1:Expr:=noE
 e2:Expr:=noE
 o1:Option Expr:=none
 o2:Option Expr:=none
 b1:List Stmt:=[]
 b2:List Stmt:=[]
 b3:List Stmt:=[]
 hs:List ExceptHandler:=[]
noncomputable def aY:Pm->VS
 | .Assign ts e2 p=>{ tag:=0,ts,e2,p }
 | .Expr e1 p=>{ tag:=1,e1,p }
 | .If e1 b1 b2 p=>{ tag:=2,e1,b1,b2,p }
 | .For e1 e2 b1 b2 p=>{ tag:=3,e1,e2,b1,b2,p }
 | .While e1 b1 b2 p=>{ tag:=4,e1,b1,b2,p }
 | .Return o1 p=>{ tag:=5,o1,p }
 | .Continue p=>{ tag:=6,p }
 | .Raise o1 o2 p=>{ tag:=8,o1,o2,p }
 | .Try b1 hs b2 b3 p=>{ tag:=9,b1,hs,b2,b3,p }
 | _=>{ tag:=7 }
noncomputable def zG (v:VS):Nat->Option Pm
 | 0=>J (.Assign v.ts v.e2 v.p)
 | 1=>J (.Expr v.e1 v.p)
 | 2=>J (.If v.e1 v.b1 v.b2 v.p)
 | 3=>J (.For v.e1 v.e2 v.b1 v.b2 v.p)
 | 4=>J (.While v.e1 v.b1 v.b2 v.p)
 | 5=>J (.Return v.o1 v.p)
 | 6=>J (.Continue v.p)
 | 8=>J (.Raise v.o1 v.o2 v.p)
 | 9=>J (.Try v.b1 v.hs v.b2 v.b3 v.p)
 | _=>bY
theorem zH (e:Pm):∀x,zG (aY e) (aY e).tag=J x->e=x:=by
 cases e<;>first | exact λx h=>By h | exact λx h=>aJ h
theorem zI (h:(aY e).tag=n)(hx:zG (aY e) n=J x):e=x:=zH e x (h▸hx)
noncomputable def gZ (st:Pm)(n:Nat):Bool:=(aY st).tag==n
theorem dF (h:gZ e n=aT)(hx:zG (aY e) n=J x):e=x:=zI (eq_of_beq h) hx
noncomputable def CR:MV->Bool
 | .none=>aT
 | _=>Z
noncomputable def u9:ME->Bool
 | .cst v=>CR v
 | _=>Z
noncomputable def exh:ExceptHandler->Option KY × Option Str × List Pm × Pos
 | .ExceptHandler a b c p=>(a,b,c,p)
noncomputable def GC:Const->Bool
 | .str _=>aT
 | _=>Z
noncomputable def inH (c:Cx):Cx:={ c with nh:=false }
mutual
noncomputable def I6:Cx->MSt->Pm->Bool
 | c,.asg t many e,st=>gZ st 0&&ax (one (aY st).ts) λtg=>oU c t many tg&&okX (aY st).e2&&(!many||!tR (aY st).e2)&&(!eD (aY st).e2||qn e)&&(c.nh||!many)&&aX c e (aY st).e2
 | c,.setAttr k o x e,st=>gZ st 0&&ax (one (aY st).ts) λtg=>okX (aY st).e2&&!eD (aY st).e2&&aX c e (aY st).e2&&ax (uW tg) λq=>q.2.1.cps.toList==x&&dZ.contains q.2.1&&c.at_ k q.2.1&&aX c o q.1
 | c,.setIdx o i e,st=>gZ st 0&&ax (one (aY st).ts) λtg=>okX (aY st).e2&&!eD (aY st).e2&&aX c e (aY st).e2&&ax (BL tg) λq=>aX c o q.1&&aX c i q.2
 | c,.expr e,st=>gZ st 1&&(okX (aY st).e1&&!eD (aY st).e1&&aX c e (aY st).e1)
 | c,.ite d a b,st=>gZ st 2&&(aX c d (aY st).e1&&jt c a (aY st).b1&&jt c b (aY st).b2)
 | c,.for_ t many k src body,st=>gZ st 3&&(c.nh&&(aY st).b2.isEmpty&&oU c t many (aY st).e1&&(!nG k||many)&&!nE k&&okX (aY st).e2&&ax (nF c k (aY st).e2) (λxs=>bq c src xs)&&jt c body (aY st).b1)
 | c,.while_ d body,st=>gZ st 4&&((aY st).b2.isEmpty&&aX c d (aY st).e1&&jt c body (aY st).b1)
 | c,.ret e,st=>gZ st 5&&match (aY st).o1 with
  | some x=>aX c e x
  | none=>u9 e
 | c,.cont,st=>gZ st 6
 | c,.raise k,st=>!Bp||gZ st 8&&((aY st).o2.isNone&&c.nh&&ax (aY st).o1 λe=>ax (xFn e) λq=>dD c q.1&&c.xn k==J q.1&&ax (one q.2.1) λy=>ax (p9 y) GC)
 | c,.try_ body k v h,st=>!Bp||gZ st 9&&((aY st).b2.isEmpty&&(aY st).b3.isEmpty&&ax (one (aY st).hs) λhh=>ax (exh hh).1 λty=>ax (exh hh).2.1 λnm=>k==0&&c.nm v==J nm&&c.kind nm==J .local&&!(exh hh).2.2.1.isEmpty&&ax (fF ty) (λx=>dD c x&&c.xn k==J x)&&jt c body (aY st).b1&&jt (inH c) h (exh hh).2.2.1)
noncomputable def jt:Cx->List MSt->List Pm->Bool
 | c,[],xs=>xs.isEmpty
 | c,s::ss,xs=>match xs with
  | []=>Z
  | x::xs=>I6 c s x&&jt c ss xs
end
section
inductive FlR (C:Glo)(ρ:List KO)(h:KR):Fl->Flow->Prop
 | next:FlR C ρ h .next .next
 | brk:FlR C ρ h .brk .brk
 | cont:FlR C ρ h .cont .cont
 | ret {x v}:Rep C ρ h x v->FlR C ρ h (.ret x) (.ret v)
noncomputable def FlI (C:Glo)(ρ:List KO)(h:KR)(fl:Fl)(f:Flow):Prop:=match fl with
 | .next=>f=.next
 | .brk=>f=.brk
 | .cont=>f=.cont
 | .ret x=>∃v,f=.ret v/\Rep C ρ h x v
theorem FlR.inv (r:FlR C ρ h fl f):FlI C ρ h fl f:=FlR.casesOn (motive:=λfl f _=>FlI C ρ h fl f) r rfl rfl rfl (λr=>⟨_,rfl,r⟩)
inductive ke (C:Glo)(F:Fm)(ρ:List KO)(s:Kv)(Q:Fl->MS->Prop)(f:Flow)(s':Kv):Prop
 | mk (ρ':List KO) (m':MS) (fl:Fl) (st:aB F.W ρ s ρ' s') (R:Rel C F ρ' m' s') (hf:FlR C ρ' s'.heap fl f) (hq:Q fl m'):ke C F ρ s Q f s'
theorem ke.back (st:aB F.W ρ₀ s₀ ρ s):∀f s',ke C F ρ s Q f s'->ke C F ρ₀ s₀ Q f s':=
 λ_ _ ⟨ρ',m',x,a,b,c,d⟩=>⟨ρ',m',x,st.trans a,b,c,d⟩
noncomputable def WPs (C:Glo)(F:Fm)(X:XM)(t:Sem Flow)(Q:Fl->MS->Prop)(m:MS):Prop:=
 ∀s ρ,Rel C F ρ m s->BY (mod C) F.A t (ke C F ρ s Q) (Er C F X ρ s) s
inductive J7 (C:Glo)(F:Fm)(items:List MV)(g:Gd)(st:MV->(Fl->MS->Prop)->MS->Prop)(Q:Fl->MS->Prop)(S:List KO)(It:Nat->List KO->Kv->Prop)(ρ₀:List KO)(s₀:Kv)(k:Nat)(s:Kv):Prop
 | mk (ρ:List KO) (m:MS) (i:Nat) (hk:k=items.length-i) (st₁:aB F.W ρ₀ s₀ ρ s) (R:Rel C F ρ m s) (hit:It i ρ s) (as:dS C F ρ s.heap S) (hf:fb g st Q (items.drop i) m)
inductive WhI (C:Glo)(F:Fm)(P:Nat->MS->Prop)(ρ₀:List KO)(s₀:Kv)(k:Nat)(s:Kv):Prop
 | mk (ρ:List KO) (m:MS) (st₁:aB F.W ρ₀ s₀ ρ s) (R:Rel C F ρ m s) (hw:P k m)
theorem GD (cx:aC C c F n)(fo:qm F)(hbs:C.base.StaysIn s₀.heap){target:KY}{itv:DO}{items:List MV}{g:Gd}{S:List KO}{It:Nat->List KO->Kv->Prop}(wk:qh C F.A target itv items g S [] It)
  {st:MV->(Fl->MS->Prop)->MS->Prop}{Q:Fl->MS->Prop}{body:List Pm}(hS:∀a∈S,s₀.heap.get? a=bY)
  (hb:∀x v ρ m s (P:Fl->MS->Prop),Rel C F ρ m s->Rep C ρ s.heap x v->st x P m->BY (mod C) F.A (assign target F.env v) (λ_ s₁=>BY (mod C) F.A (execs body F.env) (ke C F ρ s P) (Er C F X ρ s) s₁) (Er C F X ρ s) s)
  (st₀:aB F.W ρ₀ s₀ ρ s) (R:Rel C F ρ m s) (h0:It 0 ρ s) (as:dS C F ρ s.heap S) (h:fb g st Q items m) :
  Pp (mod C) F.A (.forLoop target itv body [] F.env) (λr s'=>match r with | .ok f=>ke C F ρ₀ s₀ Q f s' | .error e=>cameBackBy (mod C) F.A F.env (Er C F X ρ₀ s₀) e s') s:=by
 refine codeAny_forLoop_any (J7 C F items g st Q S It ρ₀ s₀) (λk s hI=>?_) _ ⟨ρ,m,0,rfl,st₀,R,h0,as,by exact h⟩;obtain ⟨ρ,m,i,rfl,st₁,R,hit,as,hf⟩:=hI
 cases e:items[i]? with
 | none=>
  have:items.drop i=[]:=by rw [N8];exact Lr.mp e
  rw [this,m7] at hf;obtain ⟨hg,hq⟩:=hf;refine Kq (wk.done i ρ m.heap s R.hp hg hit e (λ_ _=>False) (λs₂=>hZ S s s₂) λs₂ sd=>sd) (λr s₁ ⟨hr,sd⟩=>?_) λ_ _ x=>x.elim;subst hr;exact O6 ⟨ρ,m,.next,st₁.side sd hS,R.side cx.fm as sd,.next,hq⟩
 | some x=>
  obtain ⟨hlt,hx⟩:=iN.mp e;rw [Le hlt,hx,iV] at hf;refine e02 hf λhg hq=>?_;refine wk.item i ρ m.heap s x R.hp hg hit e _ _ _ λv s₂ sd hit' rv=>?_;have R₂:=R.side cx.fm as sd;have st₂:=st₁.side sd hS;refine Kq (hb x v ρ m s₂ _ R₂ rv hq) (λ_ s₃ h₃=>Kq h₃ (λf s₄ h₄=>?_) λe s' x=>mL cx.fm fo hbs (Er.back st₂ e s' x)) λe s' x=>mL cx.fm fo hbs (Er.back st₂ e s' x);obtain ⟨ρ₄,m₄,fl,st₄,R₄,hfl,hq₄⟩:=h₄;obtain ⟨as₄,kp₄⟩:=(as.shape (wk.shape _ _ _ hit')).step st₄;have hit₄:=wk.keep _ _ _ _ _ hit' st₄.pre st₄.solid (by rw [Kr];exact kp₄);have hlt2:items.length-(i+1)<items.length-i:=N9 _ _ hlt
  cases fl with
  | next=>obtain rfl:=hfl.inv;exact ⟨_,hlt2,ρ₄,m₄,i+1,rfl,st₂.trans st₄,R₄,hit₄,as₄,hq₄⟩
  | cont=>obtain rfl:=hfl.inv;exact ⟨_,hlt2,ρ₄,m₄,i+1,rfl,st₂.trans st₄,R₄,hit₄,as₄,hq₄⟩
  | brk=>obtain rfl:=hfl.inv;exact ⟨ρ₄,m₄,.next,st₂.trans st₄,R₄,.next,hq₄⟩
  | ret r=>obtain ⟨v,rfl,rv⟩:=hfl.inv;exact ⟨ρ₄,m₄,.ret _,st₂.trans st₄,R₄,.ret rv,hq₄⟩
theorem lW:∀{es:List (List Nat × MV)}{kvs:List (Str × DO)}{h:KR},gG C ρ h es kvs->(kvs.map (·.1)).Nodup->∀{k:List Nat}{x:MV}{v:DO},k.length<=line->Rep C ρ h x v->gG C ρ h (bH es k x) (stored kvs (str k) v)
 | _,_,_,.nil,_,k,x,v,z,r=>by
  exact .cons z r .nil
 | _,_,_,@gG.cons _ _ _ k' x' v' es ds z' a b,hn,k,x,v,z,r=>by
  simp only [Nx,Mm] at hn;show gG C ρ _ (match k'==k with
   | true=>(k',x)::es
   | false=>(k',x')::bH es k x) _
  by_cases e:k'=k
  ·subst e;rw [beq_self_eq_true];have e1:stored ((str k',v')::ds) (str k') v=(str k',v)::ds:=by
    unfold stored;rw [if_pos (by simp)];simp only [Nx,if_true];congr 1
    conv=>rhs;rw [<-Py ds]
    refine List.map_congr_left λp hp=>?_;rw [if_neg (λq=>hn.1 (by rw [<-q];exact KW.mpr ⟨p,hp,rfl⟩))];rfl
   rw [e1];exact .cons z r b
  ·have e2:¬ str k'=str k:=λq=>e (mH q);have e1:(k'==k)=Z:=by exact beq_eq_false_iff_ne.mpr e
   rw [e1];have e3:stored ((str k',v')::ds) (str k) v=(str k',v')::stored ds (str k) v:=by
    unfold stored;simp only [N0,e2,decide_false,Bool.false_or,Nx,if_false]
    split<;>rfl
   rw [e3];exact .cons z' a (lW b hn.2 z r)
theorem nW:∀(es:List (List Nat × MV)) (k:List Nat) (x:MV),(bH es k x).length<=es.length+1
 | [],_,_=>oF _
 | (k',x')::r,k,x=>by
  show (match k'==k with
   | true=>(k',x)::r
   | false=>(k',x')::bH r k x).length<=_
  cases k'==k with
  | true=>exact Ma _
  | false=>exact KJ (nW r k x)
theorem tT (h:okX v=aT)(x:Str)(px:Pos)(l:Nat)(env:Env):∃b,swapsWith v (J (.Name x px)) l env=pure b:=by
 cases hi:eD v with
 | false=>exact ⟨Z,fZ hi h _ _ _⟩
 | true=>
  unfold eD at hi;obtain ⟨k,hk⟩:=K6.mp hi;obtain ⟨p,rfl⟩:=qc hk;exact ⟨_,rfl⟩
theorem xo (h:okX v=aT)(elts:List KY)(k:Nat)(p:Pos)(l:Nat)(env:Env):swapsWith v (J (.Tuple elts k p)) l env=pure Z:=by
 cases hi:eD v with
 | false=>exact fZ hi h _ _ _
 | true=>
  unfold eD at hi;obtain ⟨k,hk⟩:=K6.mp hi;obtain ⟨p,rfl⟩:=qc hk;rfl
theorem zJ (h:qn e=aT):∃elt t many k src ifs,e=.comp elt t many k src ifs:=by
 cases e<;>first | exact ⟨_,_,_,_,_,_,rfl⟩ | exact ff h
theorem tU (h':okX v=aT)(h:swapsWith v t l env=pure aT):eD v=aT:=by
 cases hi:eD v with
 | true=>rfl
 | false=>
  rw [fZ hi h'] at h;exact absurd h (by intro h;injection h with h;exact ff h)
theorem zK (G:GOk C)(cx:aC C c F n)(hx:c.nm i=J x)(hk:c.kind x=J .local\/(c.wr=aT/\c.kind x≠J .free))(hm:qn e=aT)(he:aX c e v=aT)
  (hb:swapsWith v (J (.Name x px)) pos.line F.env=pure aT) (h:wpE (Call C) n e (λv m=>asg [i] Z v (λm=>Q .next m) m) X m) (R:Rel C F ρ m s) :
  BY (mod C) F.A (exec (.Assign [.Name x px] v pos) F.env) (ke C F ρ s Q) (Er C F X ρ s) s:=by
 obtain ⟨elt,t,many,k,src,ifs,rfl⟩:=zJ hm;rw [exec_Assign_Name_used _ _ _ _ hb];obtain ⟨⟨elt',gs,sc⟩,hxx,he⟩:=ah he;refine e12 (ah he) λg hg he=>?_;obtain rfl:=cU hg;obtain ⟨pos',rfl⟩:=qc hxx;obtain ⟨he,h8⟩:=au he;refine e02 (au he) λhe h7=>?_;refine e02 (au he) λhe h6=>?_;obtain ⟨he,h5⟩:=au he;refine e02 (au he) λhe h4=>?_;obtain ⟨he,h9⟩:=au he;refine e02 (au he) λhe h3=>?_;refine e02 (au he) λhe h2=>?_;refine e02 (au he) λh0 h1=>?_;have h1:=eq_of_beq h1;have h3:=Cb h3;have h9:=Cb h9;refine e12 (ah h5) λxs hxs h5=>?_;have ha:firstAsync [g]=Z:=by
  obtain ⟨_,_,_,a⟩:=g;simp only at h1;subst h1;rfl
 refine iS (Mr (iS ?_));show BY _ F.A (do let _ <-comprehension (.ListComp elt' [g] sc pos') sc F.env (firstIterPos [g] pos') (newList []) (firstAsync [g]) (firstIter [g] F.env) (J (assign (.Name x px) F.env))) _ _ s;have hfi:firstIter [g] F.env=eval g.iter F.env:=by cases g;rfl
 rw [ha,hfi];refine iS (Kq (u7 (use:=some (assign (.Name x px) F.env)) (QQ:=λ_ s'=>ke C F ρ s Q .next s') G cx h0 h1 h2 (λe=>h3.resolve_left (by rw [e];decide)) (λe=>h9.resolve_left λq=>q e) h4 hxs h5 h6 h7 h8 (λa ha=>(sEs G src X c F cx a ha).1)
  (λF' cx'=>(sE G elt noX _ F' cx').1) (λF' cx' a ha=>(sEs G ifs noX _ F' cx' a ha).2) h R λD L ρ' m' s' j st R' rx hq hl=>?_) (λ_ s' hq=>Do (Do hq)) λ_ _ x=>x)
 refine Ny (jb cx R' hx hk rx λs₂ st2 R₂ _=>?_);obtain ⟨⟨f,hf⟩,hs⟩:=hl ρ' _ s₂ st2 R₂;refine ⟨f,hf,λh' hsb=>?_⟩;refine e03 (hs h' hsb) λRf stf hsol=>?_;exact ⟨ρ',_,.next,stf,Rf,.next,hq⟩
noncomputable def SS (C:Glo)(X:XM)(n:Nat)(c:Cx)(F:Fm)(me:MSt):Prop:=∀(e:Pm),I6 c me e=aT->∀(Q:Fl->MS->Prop) (m:MS),wpS (Call C) n me Q X m->WPs C F X (exec e F.env) Q m
noncomputable def SSs (C:Glo)(X:XM)(n:Nat)(c:Cx)(F:Fm)(ss:List MSt):Prop:=∀(es:List Pm),jt c ss es=aT->∀(Q:Fl->MS->Prop) (m:MS),aA (Call C) n ss Q X m->WPs C F X (execs es F.env) Q m
theorem GE (G:GOk C)(cx:aC C c F n):SS C X n c F (.asg t many e):=by
 intro st hc Q m h;obtain ⟨hv,hc⟩:=au hc;obtain ⟨tg,h1,hc⟩:=ah hc;rw [dF hv rfl,cU h1];clear hv h1;generalize (aY st).e2=v at *;generalize (aY st).p=pos at *;refine e02 (au hc) λhc he=>?_;obtain ⟨hc,hnh⟩:=au hc;obtain ⟨hc,hcm⟩:=au hc;obtain ⟨hc,hm⟩:=au hc;refine e02 (au hc) λht ho=>?_;intro s ρ R
 cases many with
 | false=>
  obtain ⟨i,x,px,rfl,rfl,h1,h2⟩:=rA ht;obtain ⟨b,hb⟩:=tT ho x px pos.line F.env
  cases b with
  | false=>
   refine wpAny_Assign_Name ((gL G cx e v he _ m h).go R (.refl _ _ _) λρ₁ s₁ m₁ y w st t1 R₁ rx h₁=>?_) hb;exact jb cx R₁ h1 (j6 h2) rx λs₂ st2 R₂ _=>⟨ρ₁,_,.next,t1.trans st2,R₂,.next,h₁⟩
  | true=>exact zK G cx h1 (j6 h2) ((Cb hcm).resolve_left λq=>q (tU ho hb)) he hb h R
 | true=>
  obtain ⟨elts,k,p,rfl,_⟩:=jd ht;refine PyProof.Rows.Assign_Tuple ((gL G cx e v he _ m h).go R (.refl _ _ _) λρ₁ s₁ m₁ y w st t1 R₁ rx h₁=>?_) (xo ho elts k p pos.line F.env) (tS (lR hm) ho _);exact Kq (li cx ht rx R₁ h₁ λ_=>cx.hn (by rw [<-hnh];exact (Bool.or_false _).symm)) (λ_ s₂ ⟨m',st2,R₂,q⟩=>⟨ρ₁,m',.next,t1.trans st2,R₂,.next,q⟩) λ_ _ x=>x
theorem xp (G:GOk C)(cx:aC C c F n)(R:Rel C F ρ m s)(t3:aB F.W ρ₀ s₀ ρ s)(rx:Rep C ρ s.heap x xv)(ry:Rep C ρ s.heap y yv)(ru:Rep C ρ s.heap u uv)(h:qY x y u (Q .next) m) :
  BY (mod C) A (setItem xv yv uv) (λ_ s'=>ke C F ρ₀ s₀ Q .next s') E s:=by
 refine Kz λhn=>?_
 cases y with
 | str k=>
  obtain ⟨r,rfl,h1⟩:=fD h;refine e13 (qS h1) λes hes hlen hq=>?_;obtain ⟨a,rfl,g⟩:=rx.inv;obtain ⟨t,rfl,z⟩:=ry.inv;obtain ⟨kvs,dk,rk,zz⟩:=R.hp.objs _ _ _ hes g;refine hn (wpAny_setItem_pairs (knd:=strKind C.prog C.w) (k:=str k) (Pk _ _ _ _) dk (λh' hd hs=>?_) (by rw [rk.length];exact LA hlen));have hk:∀b ob,b≠a->s.heap.get? b=J ob->h'.get? b=J ob:=λb ob q e=>(hs.2 b q).trans e;have hsol:bg s.heap h':=dW hk (dB (R.hp.objs _ _ _ hes g));have hnd:(kvs.map (·.1)).Nodup:=by obtain ⟨_,_,_,_,_,_,_,_,hn⟩:=dk;exact hn
  obtain ⟨R₄,st₄⟩:=R.put (s':={ s with heap:=h',toks:=s.toks+1 }) cx.fm g hes (o:=.dict (bH es k u)) hk rfl rfl
   ⟨_,hd,(lW rk hnd z ru).up hsol (Kw _),dO (nW es k u) hlen⟩
  exact ⟨_,_,.next,t3.trans st₄,R₄,.next,hq⟩
 | int k=>
  obtain ⟨r,rfl,h1⟩:=fD h;refine e12 (cY h1) λxs hi h1=>?_;refine e13 (de h1) λj hj h1 hq=>?_;obtain ⟨t,rfl⟩:=ry.inv;exact hn (CQ cx.fm R rx hi hj h1 ru λs' R₄ st₄=>⟨_,_,.next,t3.trans st₄,R₄,.next,hq⟩)
 | _=>exact h
set_option tactic.hygienic true in
theorem xq (G:GOk C)(cx:aC C c F n):SS C X n c F (.setIdx o i e):=by
 intro st hc Q m h;obtain ⟨hv,hc⟩:=au hc;obtain ⟨tg,h1,hc⟩:=ah hc;rw [dF hv rfl,cU h1];clear hv h1;generalize (aY st).e2=v at *;generalize (aY st).p=pos at *;refine e02 (au hc) λhc ho=>?_;obtain ⟨hc,he⟩:=au hc;obtain ⟨hox,hcomp⟩:=au hc;obtain ⟨⟨ov,iv⟩,hx,ho⟩:=ah ho;obtain ⟨p,rfl⟩:=qb hx;obtain ⟨ho,hi⟩:=au ho;intro s ρ R;refine wpAny_Assign_Subscript ((gL G cx e v he _ m h).go R (.refl _ _ _) λρ₁ s₁ m₁ x xv st t1 R₁ rx h₁=>?_) (fZ (lR hcomp) hox _ _ _);refine (gL G cx o ov ho _ m₁ h₁).go R₁ t1 λρ₂ s₂ m₂ y yv st2 t2 R₂ ry h₂=>?_;exact (gL G cx i iv hi _ m₂ h₂).go R₂ t2 λρ₃ s₃ m₃ z zv st3 t3 R₃ rz h₃=>xp G cx R₃ t3 (ry.step st3) rz ((rx.step st2).step st3) h₃
theorem CS (G:GOk C)(cx:aC C c F n):SS C X n c F (.expr e):=by
 intro st hc Q m h;obtain ⟨hv,hc⟩:=au hc;refine e02 (au hc) λhc he=>?_;refine e02 (au hc) λh1 h2=>?_;rw [dF hv rfl];intro s ρ R;exact wpAny_Expr_any ((gL G cx e _ he _ m h).go R (.refl _ _ _) λρ₁ s₁ m₁ y w st t1 R₁ rx h₁=>⟨_,_,.next,t1,R₁,.next,h₁⟩) cx.inter (fZ (lR h2) h1 _ _ _)
theorem GF (G:GOk C)(cx:aC C c F n)(ia:SSs C X n c F a)(ib:SSs C X n c F b):SS C X n c F (.ite d a b):=by
 intro st hc Q m h;refine e02 (au hc) λhv hc=>?_;refine e02 (au hc) λhc hb=>?_;refine e02 (au hc) λhd ha=>?_;rw [dF hv rfl];intro s ρ R;refine wpAny_If ((zF G cx d _ hd _ m h).go R (.refl _ _ _) λρ₁ s₁ m₁ t st t1 R₁ h₁=>?_)
 cases t with
 | true=>exact Kq (ia _ ha Q m₁ h₁ s₁ ρ₁ R₁) (ke.back t1) (Er.back t1)
 | false=>exact Kq (ib _ hb Q m₁ h₁ s₁ ρ₁ R₁) (ke.back t1) (Er.back t1)
theorem GG (G:GOk C)(cx:aC C c F n)(fo:qm F){t:List Nat}{many:Bool}{k:IK}{src:List ME}{body:List MSt}(ib:SSs C X n c F body):SS C X n c F (.for_ t many k src body):=by
 intro st hc Q m h;refine e02 (au hc) λhv hc=>?_;refine e02 (au hc) λhc hb=>?_;refine e02 (au hc) λhc hi=>?_;refine e02 (au hc) λhc hx=>?_;refine e02 (au hc) λhc hkk=>?_;refine e02 (au hc) λhc hm=>?_;refine e02 (au hc) λhc ht=>?_;refine e02 (au hc) λhnh hb2=>?_;rw [dF hv rfl,Ms.mp hb2];intro s ρ R;refine e12 (ah hi) λxs hxs hi=>?_;refine wpAny_For (Kq (u2 G cx hnh (λa ha=>(sEs G src X c F cx a ha).1) hxs hi (lT ht) (λe=>by
  obtain rfl:=(Cb hm).resolve_left λq=>q e;refine e32 (jd ht) λa b d e _=>?_;exact ⟨a,b,d,e,trivial⟩) (P:=λitems g m=>fb g (λv P m=>asg t many v (λm=>aA (Call C) n body P X m) m) Q items m) h R) (λxv s₁ h₁=>Kq h₁ (λitv s₂ h₂=>?_) λ_ _ x=>x) λ_ _ x=>x) (nq hx _)
 obtain ⟨ρ₂,m₂,items,g,S,U,It,st₂,R₂,wk,h0,as,hS,_,hf,hU,_⟩:=h₂;obtain rfl:=hU (Lh _▸hkk);refine GD cx fo R.hp.base wk hS (λx v ρ m s P R rv hst=>?_) st₂ R₂ h0 as hf;refine Kq (li (E:=λ_ _=>False) cx ht rv R hst λ_=>cx.hn hnh) (λ_ s₁ ⟨m',st1,R₁,q⟩=>?_) λ_ _ x=>x.elim;exact Kq (ib _ hb P m' q s₁ ρ R₁) (ke.back st1) (Er.back st1)
theorem zL (G:GOk C)(cx:aC C c F n)(fo:qm F)(ib:SSs C X n c F body):SS C X n c F (.while_ d body):=by
 intro st hc Q m h;refine e02 (au hc) λhv hc=>?_;refine e02 (au hc) λhc hb=>?_;refine e02 (au hc) λhb2 hd=>?_;rw [dF hv rfl,Ms.mp hb2];refine e11 h λk h=>?_;intro s ρ R;refine wpAny_While (codeAny_whileLoop (WhI C F (cz (λP m=>wpE (Call C) n d (bX P) X m) (λP m=>aA (Call C) n body P X m) Q) ρ s) (λk s₁ hI=>?_) k ⟨ρ,m,.refl _ _ _,R,h⟩);obtain ⟨ρ₁,m₁,st₁,R₁,hw⟩:=hI
 cases k with
 | zero=>rw [qV] at hw;exact hw.elim
 | succ k=>
  rw [hO] at hw;refine Kq (zF G cx d _ hd _ m₁ hw s₁ ρ₁ R₁) (λt s₂ ⟨ρ₂,m₂,st₂,R₂,h₂⟩=>?_) λe s' x=>mL cx.fm fo R.hp.base (Er.back st₁ e s' x)
  cases t with
  | true=>
   rw [if_pos rfl];refine Kq (ib _ hb _ m₂ h₂ s₂ ρ₂ R₂) (λf s₃ ⟨ρ₃,m₃,fl,st₃,R₃,hfl,h₃⟩=>?_) λe s' x=>mL cx.fm fo R.hp.base (Er.back (st₁.trans st₂) e s' x);have stt:=(st₁.trans st₂).trans st₃
   cases fl with
   | next=>obtain rfl:=hfl.inv;exact ⟨k,Lp k,ρ₃,m₃,stt,R₃,h₃⟩
   | cont=>obtain rfl:=hfl.inv;exact ⟨k,Lp k,ρ₃,m₃,stt,R₃,h₃⟩
   | brk=>obtain rfl:=hfl.inv;exact ⟨ρ₃,m₃,.next,stt,R₃,.next,h₃⟩
   | ret r=>obtain ⟨v,rfl,rv⟩:=hfl.inv;exact ⟨ρ₃,m₃,.ret _,stt,R₃,.ret rv,h₃⟩
  | false=>
   rw [if_neg (by decide)];exact O6 ⟨ρ₂,m₂,.next,st₁.trans st₂,R₂,.next,h₂⟩
theorem zM (h:u9 e=aT):e=.cst .none:=by
 cases e with
 | cst v=>cases v<;>first | rfl | exact ff h
 | _=>exact ff h
theorem GH (G:GOk C)(cx:aC C c F n):SS C X n c F (.ret e):=by
 intro st hc Q m h;obtain ⟨hv,hc⟩:=au hc;rw [dF hv rfl];clear hv;intro s ρ R
 cases ho:(aY st).o1 with
 | some x=>
  rw [ho] at hc;exact wpAny_Return_some ((gL G cx e _ hc _ m h).go R (.refl _ _ _) λρ₁ s₁ m₁ y w st t1 R₁ rx h₁=>⟨_,_,_,t1,R₁,.ret rx,h₁⟩)
 | none=>
  rw [ho] at hc;obtain rfl:=zM hc;exact wpAny_Return_none ⟨ρ,m,.ret .none,.refl _ _ _,R,.ret .none,h⟩
theorem CT:SS C X n c F .cont:=by
 intro st hc Q m h;rw [dF hc rfl];intro s ρ R;exact wpAny_Continue ⟨_,_,_,.refl _ _ _,R,.cont,h⟩
theorem CU:SSs C X n c F []:=by
 intro es hc Q m h
 cases es with
 | nil=>intro s ρ R;exact O6 ⟨_,_,_,.refl _ _ _,R,.next,h⟩
 | cons=>exact ff hc
theorem zN (ix:SS C X n c F x)(iss:SSs C X n c F ss):SSs C X n c F (x::ss):=by
 intro es hc Q m h
 cases es with
 | nil=>exact ff hc
 | cons e es=>
  replace hc:=au hc;intro s ρ R;refine wpAny_execs_cons (Kq (ix e hc.1 _ m h s ρ R) (λf s₁ ⟨ρ₁,m₁,fl,st,R₁,hfl,h₁⟩=>?_) λ_ _ x=>x)
  cases fl with
  | next=>obtain rfl:=hfl.inv;exact Kq (iss es hc.2 Q m₁ h₁ s₁ ρ₁ R₁) (ke.back st) (Er.back st)
  | brk=>obtain rfl:=hfl.inv;exact ⟨_,_,_,st,R₁,.brk,h₁⟩
  | cont=>obtain rfl:=hfl.inv;exact ⟨_,_,_,st,R₁,.cont,h₁⟩
  | ret r=>obtain ⟨v,rfl,rv⟩:=hfl.inv;exact ⟨_,_,_,st,R₁,.ret rv,h₁⟩
end
theorem gM:∀(es:List (List Nat × MV)) (x:List Nat) (v:MV) (k:List Nat),aN (bH es x v) k=if k=x then J v else aN es k
 | [],x,v,k=>by
  show (match x==k with | true=>J v | false=>bY)=_;by_cases e:k=x
  ·subst e;rw [beq_self_eq_true,if_pos rfl]
  ·rw [if_neg e,beq_eq_false_iff_ne.mpr (LP e)];rfl
 | (y,w)::r,x,v,k=>by
  have ih:=gM r x v k;by_cases e:y=x
  ·subst e;show aN (match y==y with | true=>(y,v)::r | false=>(y,w)::bH r y v) k=_;rw [beq_self_eq_true];show (match y==k with | true=>J v | false=>aN r k)=if k=y then J v else (match y==k with | true=>J w | false=>aN r k)
   by_cases e2:k=y
   ·subst e2;rw [beq_self_eq_true,if_pos rfl]
   ·rw [if_neg e2,beq_eq_false_iff_ne.mpr (LP e2)]
  ·show aN (match y==x with | true=>(y,v)::r | false=>(y,w)::bH r x v) k=_;rw [beq_eq_false_iff_ne.mpr e];show (match y==k with | true=>J w | false=>aN (bH r x v) k)=if k=x then J v else (match y==k with | true=>J w | false=>aN r k)
   by_cases e2:y=k
   ·subst e2;rw [beq_self_eq_true,if_neg e]
   ·rw [beq_eq_false_iff_ne.mpr e2];exact ih
theorem rM:∀{es:List (List Nat × MV)}{k:List Nat},aN es k≠bY->k∈es.map (·.1)
 | [],_,h=>absurd rfl h
 | (y,w)::r,k,h=>by
  by_cases e:y=k
  ·subst e;exact IS ..
  ·refine IN _ (rM λq=>h ?_);show (match y==k with | true=>J w | false=>aN r k)=bY;rw [beq_eq_false_iff_ne.mpr e];exact q
section
theorem zO (G:GOk C)(cx:aC C c F n)(R:Rel C F ρ m s)(hx:Rep C ρ s.heap (.inst k i) v)(hu:Rep C ρ s.heap u uv)(hi:m.heap[i]?=J (.attrs es))(hl:es.length<1000)(hy:y=str x)(hno:dZ.contains y=aT)(ha:c.at_ k y=aT)
  (h:∀s',aB F.W ρ s ρ s'->Rel C F ρ (m.put i (.attrs (bH es x u))) s'->P () s'):BY (mod C) A (setAttr v y uv) P E s:=by
 obtain ⟨a,K,N,da,mA,rfl,hc,hN,hao,hρ,hns,I,had,haK,h1,h2⟩:=nR G R hx hi;refine e03 (G.quiet _ _ hc) λq1 q2 q3=>?_;obtain ⟨nm,q,bs,sn,sub,col,dd,k0,k1,k2,k3,k5,e⟩:=nP hN;obtain ⟨hp,gg,dr,t,os⟩:=s;subst hy;refine store_attr (ns:=es.map λp=>str p.1) PySem.F.store_object e hN.ns q1 (cx.attr _ _ ha) (rI hno) haK I (λh' tk' I' hk hx'=>?_) (λz hz=>?_) (by rw [iF,sizeLine_eq];exact n1 hl)
 ·refine e15 (hx' _ hao) λo₁ e1 e2 e3 e4 e5=>?_;have e6:=e5 da rfl;refine e14 I' λo₂ g1 g2 g3 g4=>?_;obtain rfl:=same e1 g1;have hns':h'.Ns1 da (λy=>if y=str x then J uv else mA y):=by
   rcases g4 with ⟨g4,_⟩ | ⟨d',g4,_,g5⟩
   ·exact bc g4 e6
   ·obtain rfl:=same e6 g4;exact g5
  have ho:o₁=lP K da:=by
   obtain ⟨c1,d1,t1,s1⟩:=o₁;simp only at e2 e3 e4 e6;subst e2;subst e3;subst e4;subst e6;rfl
  subst ho;have hkk:∀b ob,b≠da->hp.get? b=J ob->h'.get? b=J ob:=λb ob hb eb=>by
   by_cases hba:b=a
   ·subst hba;obtain rfl:=same hao eb;exact e1
   ·exact hk b ob hba (λo₀ dx q1 q2=>by obtain rfl:=same hao q1;obtain rfl:=By q2;exact hb) eb
  have hsol:bg hp h':=dW hkk (dB (R.hp.objs _ _ _ hi hρ));obtain ⟨R',st⟩:=R.put (s':=⟨h',gg,dr,tk',os⟩) cx.fm hρ hi (o:=.attrs (bH es x u)) hkk rfl rfl
   (show yg _ _ _ _ _ from ⟨_,hns',λz w e=>by
    rw [gM] at e;by_cases ez:z=x
    ·subst ez;obtain rfl:=By ((if_pos rfl).symm.trans e);exact ⟨uv,if_pos rfl,hu.up hsol (Kw _)⟩
    ·rw [if_neg ez] at e;refine e12 (h1 z w e) λw' hw rw'=>?_;exact ⟨w',by rw [if_neg λq=>ez (mH q)];exact hw,rw'.up hsol (Kw _)⟩,λz e=>by
    rw [gM] at e;by_cases ez:z=x
    ·subst ez;exact jF ((if_pos rfl).symm.trans e)
    ·rw [if_neg ez] at e;rw [if_neg λq=>ez (mH q)];exact h2 z e,dO (nW es x u) hl⟩)
  exact h _ st R'
 ·have ez:z=str z.cps.toList:=by obtain ⟨⟨l⟩⟩:=z;rfl
  rw [ez];refine KW.mpr ?_;have hk:z.cps.toList∈es.map (·.1):=rM λq=>hz (by rw [ez];exact h2 _ q);refine e12 (KW.mp hk) λp hp e=>?_;exact ⟨p,hp,congrArg str e⟩
theorem tV (G:GOk C)(cx:aC C c F n):SS C X n c F (.setAttr k o x e):=by
 intro st hc Q m h;refine e02 (au hc) λhv hc=>?_;refine e12 (ah hc) λtg h1 hc=>?_;rw [dF hv rfl,cU h1];clear hv h1;generalize (aY st).e2=v at *;generalize (aY st).p=pos at *;refine e02 (au hc) λhc ho=>?_;refine e02 (au hc) λhc he=>?_;refine e02 (au hc) λhox hcomp=>?_;obtain ⟨⟨ov,name,p⟩,hx,ho⟩:=ah ho;obtain rfl:=nn hx;obtain ⟨hc,ho⟩:=au ho;refine e02 (au hc) λhc hat=>?_;refine e02 (au hc) λhn hno=>?_;intro s ρ R;refine plainObj_wpAny_Assign_Attribute ((gL G cx e v he _ m h).go R (.refl _ _ _) λρ₁ s₁ m₁ u uv st t1 R₁ ru h₁=>?_) (fZ (lR hcomp) hox _ _ _);refine (gL G cx o ov ho _ m₁ h₁).go R₁ t1 λρ₂ s₂ m₂ y yv st2 t2 R₂ ry h₂=>?_;obtain ⟨i,rfl,h3⟩:=qX h₂;refine e13 (qW h3) λes hi hl hq=>?_;exact zO G cx R₂ ry (ru.step st2) hi hl (tJ hn) hno hat λs' st3 R'=>⟨_,_,.next,t2.trans st3,R',.next,hq⟩
end
section
theorem zP (G:GOk C)(cx:aC C c F n):SS C X n c F (.raise k):=λst hc Q m h=>ff h.1
end
section
theorem GI (G:GOk C)(cx:aC C c F n)(fo:qm F)(ib:∀X',SSs C X' n c F body)(ih:∀F',aC C (inH c) F' n->qm F'->SSs C noX n (inH c) F' h):SS C X n c F (.try_ body k v h):=λst hc Q m h=>ff h.1
end
section
mutual
theorem GJ (G:GOk C):∀(me:MSt) (X:XM) (c:Cx) (F:Fm),aC C c F n->qm F->SS C X n c F me
 | .asg t many e,X,c,F,cx,fo=>GE G cx
 | .setAttr k o x e,X,c,F,cx,fo=>tV G cx
 | .setIdx o i e,X,c,F,cx,fo=>xq G cx
 | .expr e,X,c,F,cx,fo=>CS G cx
 | .ite d a b,X,c,F,cx,fo=>GF G cx (fM G a X c F cx fo) (fM G b X c F cx fo)
 | .for_ t many k src body,X,c,F,cx,fo=>GG G cx fo (fM G body X c F cx fo)
 | .while_ d body,X,c,F,cx,fo=>zL G cx fo (fM G body X c F cx fo)
 | .ret e,X,c,F,cx,fo=>GH G cx
 | .cont,X,c,F,cx,fo=>CT
 | .raise k,X,c,F,cx,fo=>zP G cx
 | .try_ body k v h,X,c,F,cx,fo=>GI G cx fo (λX'=>fM G body X' c F cx fo) λF' cx' fo'=>fM G h noX _ F' cx' fo'
theorem fM (G:GOk C):∀(ss:List MSt) (X:XM) (c:Cx) (F:Fm),aC C c F n->qm F->SSs C X n c F ss
 | [],X,c,F,cx,fo=>CU
 | x::ss,X,c,F,cx,fo=>zN (GJ G x X c F cx fo) (fM G ss X c F cx fo)
end
end
set_option genCtorIdx false in
structure Sg where
 fn:Nat->Option Str
 gl:Nat->Option (Str × MV)
 hf:Nat->Bool
 cn:Nat->Option Str
 xn:Nat->Option Str
 mt:Nat->Option (Nat × Str)
 at_:Nat->Str->Bool
noncomputable def CV (sc:Scope)(ns:List Str)(z:Sg)(nh:Bool):Cx:=⟨λx=>sc.names.lookup x,λi=>ns[i]?,z.fn,z.gl,aT,λi=>decide (ns.length<=i),nh,z.hf,z.cn,z.xn,z.mt,z.at_⟩
noncomputable def vc (C:Glo)(g b:KO)(z:Sg):Prop:=yF C g b z.fn z.gl z.cn z.xn
structure J8 (C:Glo)(z:Sg):Prop where
 meth:∀f k x,z.mt f=J (k,x)->∃a,C.fa f=J a/\C.cm k x=J (.ref a)/\∃o,C.base.get? a=J o/\o.cls=.type "function"
 attr:∀k x,z.at_ k x=aT->C.cm k x=bY
 hf:z.hf=C.hf
noncomputable def qo (sc:Scope)(ps ns:List Str):Bool:=
 ps.isPrefixOf ns&&decide ns.Nodup&&ns.all (λx=>sc.names.lookup x==J .local||(sc.names.lookup x==J .cell&&((cellsFrom 0 sc.names []).lookup x).isSome))
theorem rN (h:qo sc ps ns=aT):ps<+:ns/\ns.Nodup/\∀x∈ns,sc.names.lookup x=J .local\/(sc.names.lookup x=J .cell/\((cellsFrom 0 sc.names []).lookup x).isSome=aT):=by
 refine e02 (au h) λh h3=>?_;refine e02 (au h) λh1 h2=>?_;refine ⟨List.isPrefixOf_iff_prefix.mp h1,of_decide_eq_true h2,λx hx=>?_⟩;refine Lm (Np.mp (K2.mp h3 x hx)) (λq=>?_) λq=>?_
 ·exact .inl (eq_of_beq q)
 ·exact .inr ⟨eq_of_beq (au q).1,(au q).2⟩
inductive I7 (C:Glo)(z:Sg)(nh:Bool)(d:Fn)(a:KO):Prop
 | mk (o:OO) (fd:FuncData) (body:List Pm) (ps ns:List Str) (ho:C.base.get? a=J o) (hd:o.data=.func fd) (hcd:C.base.CodeRec fd.code fd.qualname) (hbody:fd.body=.stmts body) (hclo:fd.closure=[]) (hco:fd.scope.isCoroutine=Z) (hgen:fd.scope.isGenerator=Z)
   (hk:fd.scope.kind=.function) (hbind:∀vals:List DO,vals.length=ps.length->bindArgs fd ⟨vals,[]⟩=pure (ps.zip vals)) (hps:ps.length=d.args) (hns:qo fd.scope ps ns=aT) (hchk:jt (CV fd.scope ns z nh) d.body body=aT) (hgl:vc C fd.globals fd.builtins z)
noncomputable def vd (C:Glo)(z:Sg)(P:Nat->Option Fn):Prop:=J8 C z/\∀f d a,P f=J d->C.fa f=J a->I7 C z (!C.hf f) d a
theorem fh:∀(names:List (Str × NameKind)) (n k:Nat) (acc acc':List (Str × KO)) (x:Str),(∀y,(acc.lookup y).isSome=(acc'.lookup y).isSome)->((cellsFrom n names acc).lookup x).isSome=((cellsFrom k names acc').lookup x).isSome
 | [],n,k,acc,acc',x,h=>h x
 | (y,kd)::r,n,k,acc,acc',x,h=>by
  unfold cellsFrom
  split
  ·refine fh r _ _ _ _ x λz=>?_;simp only [K9]
   split
   ·rfl
   ·exact h z
  ·exact fh r _ _ _ _ x h
section
theorem CW {ps:List Str}{ws:List DO}(hl:ws.length=ps.length){i:Nat}{x:Str}{w:DO}(e1:ps[i]?=J x)(e2:ws[i]?=J w):(ps.zip ws)[i]?=J (x,w):=by
 rw [Nl];exact ⟨e1,e2⟩
theorem lX (k:Str->Option NameKind):∀(l:List (Str × DO)) (m:Str->Option DO) (x:Str),(∀p∈l,p.1≠x)->bindL k l m x=m x
 | [],m,x,_=>rfl
 | (n,v)::r,m,x,h=>by
  unfold bindL;rw [lX k r _ x λp hp=>h p (IN _ hp)];have:n≠x:=h _ (IS ..)
  split
  ·exact if_neg λq:x=n=>this q.symm
  ·rfl
theorem lY (k:Str->Option NameKind):∀(l:List (Str × DO)) (m:Str->Option DO) (x:Str),(∀p∈l,p.1≠x)->bindC k l m x=m x
 | [],m,x,_=>rfl
 | (n,v)::r,m,x,h=>by
  unfold bindC;rw [lY k r _ x λp hp=>h p (IN _ hp)];have:n≠x:=h _ (IS ..)
  split
  ·rfl
  ·exact if_neg λq:x=n=>this q.symm
theorem xr (k:Str->Option NameKind)(l:List (Str × DO))(m:Str->Option DO)(x:Str)(w:DO)(hn:(l.map (·.1)).Nodup)(hm:(x,w)∈l)(hk:k x=J .local):bindL k l m x=J w:=by
 induction l generalizing m with
 | nil=>exact aO hm
 | cons p r ih=>
  refine e02 (Mm.mp hn) λh1 h2=>?_;unfold bindL;refine Lm (IF.mp hm) (λe=>?_) λhm=>?_
  ·subst e;rw [lX k r _ _ λp hp q=>h1 (KW.mpr ⟨p,hp,q⟩),if_pos hk];exact if_pos rfl
  ·exact ih _ h2 hm
theorem xt (k:Str->Option NameKind)(l:List (Str × DO))(m:Str->Option DO)(x:Str)(w:DO)(hn:(l.map (·.1)).Nodup)(hm:(x,w)∈l)(hk:k x≠J .local):bindC k l m x=J w:=by
 induction l generalizing m with
 | nil=>exact aO hm
 | cons p r ih=>
  obtain ⟨n,v⟩:=p;simp only [Nx,Mm] at hn;unfold bindC;refine Lm (IF.mp hm) (λe=>?_) λhm=>?_
  ·cases e
   rw [lY k r _ _ λp hp q=>hn.1 (KW.mpr ⟨p,hp,q⟩),if_neg hk];simp
  ·exact ih _ hn.2 hm
theorem xu (e:(ec d vs hp).get i=J v):vs[i]?=J v:=by
 have hw:(vs.map J++M8 _ bY)[i]?=J (J v):=MS.get_at e
 rcases LO i (vs.map J).length with hi | hi
 ·rw [Ld hi,ID] at hw;refine e12 (EQ.mp hw) λu h1 h2=>?_;exact h1.trans h2
 ·rw [K7 hi] at hw;exact aJ (List.eq_of_mem_replicate (rW hw)).symm
noncomputable def lj (A:M9)(env:Env)(ns:List Str)(frs:List KO):Fm where
 env:=env
 A:=A.deeper env
 W:=env.locals::ns.filterMap (λx=>if env.kindOf x=J .local then bY else env.cells.lookup x)
 V:=[]
 lay:=λi=>match ns[i]? with
  | some x=>if env.kindOf x=J .local then J (.nm env.locals x) else match env.cells.lookup x with
   | some c=>J (.cl c)
   | none=>bY
  | none=>bY
 frs:=env.locals::frs
theorem CX (e:(lj A env ns frs).lay i=J l):∃x,ns[i]?=J x/\((env.kindOf x=J .local/\l=.nm env.locals x)\/(env.kindOf x≠J .local/\∃c,env.cells.lookup x=J c/\l=.cl c)):=by
 replace e:(match ns[i]? with
  | some x=>if env.kindOf x=J .local then J (.nm env.locals x) else match env.cells.lookup x with
   | some c=>J (.cl c)
   | none=>bY
  | none=>bY)=J l:=e
 cases hx:ns[i]? with
 | none=>rw [hx] at e;exact aJ e
 | some x=>
  rw [hx] at e;refine ⟨x,rfl,?_⟩;by_cases q:env.kindOf x=J .local
  ·exact .inl ⟨q,(By ((if_pos q).symm.trans e)).symm⟩
  ·replace e:=(if_neg q).symm.trans e
   cases hc:env.cells.lookup x with
   | none=>rw [hc] at e;exact aJ e
   | some c=>rw [hc] at e;exact .inr ⟨q,c,rfl,(By e).symm⟩
inductive GK (C:Glo)(Q:MV->List MO->Prop)(ρ:List KO)(s:Kv)(v:DO)(s':Kv):Prop
 | mk (ρ':List KO) (hp':List MO) (x:MV) (st:aB [] ρ s ρ' s') (H:Hp C ρ' hp' s'.heap) (rx:Rep C ρ' s'.heap x v) (hq:Q x hp'):GK C Q ρ s v s'
theorem pC (G:GOk C){z:Sg}{P:Nat->Option Fn}(H:vd C z P){n f:Nat}{vs:List MV}{Q:MV->List MO->Prop}{X:XT}{hp:List MO}{d:Fn}(hP:P f=J d)(hlen:vs.length=d.args)
  (hw:aA (Call C) n d.body (fin Q) (xin X) (ec d vs hp)) {A:M9}{s:Kv}{ws:List DO}{a:KO}(hA:A.handled=bY\/C.hf f=aT) (hH:Hp C ρ hp s.heap) (hgens:s.gens=#[]) (rl:aL C ρ s.heap vs ws)
  {frs:List KO}(hfrs:∃es,A.frames=J es/\∀e∈es,e.scope.kind≠.module/\∃L∈frs,e.frame=J L) (hout:∀L∈frs,Iz C ρ s.heap L)
  (hroom:A.depth+(n+1)<=999) (hunits:A.units<=3 * A.depth+4) (hfa:C.fa f=J a) :
  BY (mod C) A (call (.ref a) ws) (GK C Q ρ s) (ErC C X ρ s) s:=by
 obtain ⟨o,fd,body,ps,ns,ho,hd,hcd,hbody,hclo,hco,hgen,hk,hbind,hps,hns,hchk,hgl⟩:=H.2 f d a hP hfa;refine e03 (rN hns) λhpre hnd hall=>?_;have hwl:ws.length=ps.length:=by rw [rl.length,hlen,hps]
 have hmem:∀x∈ps,x∈ns:=λx hx=>hpre.subset hx;have hcellS:∀k x,((cellsFrom k fd.scope.names []).lookup x).isSome=((cellsFrom 0 fd.scope.names []).lookup x).isSome:=λk x=>fh _ _ _ _ _ _ λ_=>rfl;have hzip:∀p∈ps.zip ws,p.1∈ps:=λp hp=>(O5 (a:=p.1) (b:=p.2) hp).1;have hzn:((ps.zip ws).map (·.1)).Nodup:=by
  rw [List.map_fst_zip (n1 (Km hwl.symm))];exact hnd.sublist hpre.sublist
 refine wpAny_call (codeAny_call_cells (by show _<1000;exact n1 hroom) (hH.base _ _ ho) hd (G.nolimit.keeps hH.base) (hcd.keeps hH.base) hbody (hbind ws hwl) hclo (λx hx=>?_) (λs₁ ic=>?_) hco hgen hk)
 ·rcases hall _ (hmem _ (hzip x hx)) with q | ⟨q,q'⟩
  ·exact .inl q
  ·exact .inr ⟨q,by rw [hcellS];exact q'⟩
 ·generalize henv:callEnvC fd s.heap.objs.size a=env at ic ⊢;have eL:env.locals=s.heap.objs.size:=by rw [<-henv];rfl
  have eK:∀x,env.kindOf x=fd.scope.names.lookup x:=λx=>by rw [<-henv];rfl
  have eC:env.cells=cellsFrom (s.heap.objs.size+1) fd.scope.names []:=by rw [<-henv];rfl
  have eS:env.scope=fd.scope:=by rw [<-henv];rfl
  have eF:env.frame=J env.locals:=by rw [<-henv];rfl
  have eG:env.globals=fd.globals/\env.builtins=fd.builtins:=by rw [<-henv];exact ⟨rfl,rfl⟩
  obtain ⟨⟨⟨h₁,tk,hs₁⟩,hns1,hkeep,hfresh⟩,hcell,hapart,habove⟩:=ic;have fL:s.heap.get? env.locals=bY:=bZ hfresh;have hcl:∀x c,env.cells.lookup x=J c->s₁.heap.IsCell c (bindC env.kindOf (ps.zip ws) (λ_=>bY) x)/\s.heap.get? c=bY:=λx c e=>by
   refine ⟨hcell x c e,bZ ?_⟩;have:=habove x c (mem_of_lookup e);exact LA (Kn hfresh this)
  have hg1:s₁.gens=s.gens/\s₁.os=s.os:=by rw [hs₁];exact ⟨rfl,rfl⟩
  have hW:∀b∈(lj A env ns frs).W,s.heap.get? b=bY/\WOk s₁.heap b:=λb hb=>by
   rcases IF.mp hb with rfl | hb
   ·refine e33 hns1 λo es ep e1 e2 _=>?_;exact ⟨fL,o,e1,.inl ⟨es,ep,e2⟩⟩
   ·refine e12 (List.mem_filterMap.mp hb) λx hx e=>?_
    split at e
    ·exact aJ e
    ·obtain ⟨⟨o,e1,e2⟩,e3⟩:=hcl x b e;exact ⟨e3,o,e1,.inr ⟨_,e2⟩⟩
  have hlay:∀i l,(lj A env ns frs).lay i=J l->∃x,ns[i]?=J x/\((env.kindOf x=J .local/\l=.nm env.locals x)\/(env.kindOf x≠J .local/\∃c,env.cells.lookup x=J c/\l=.cl c)):=λi l e=>CX e;have hidx:∀(i j:Nat) (x:Str),ns[i]?=J x->ns[j]?=J x->i=j:=λi j x e1 e2=>by
   have h1:=iN.mp e1;have h2:=iN.mp e2;exact (OJ hnd).mp (h1.2.trans h2.2.symm)
  have ok':bb (lj A env ns frs):=by
   refine ⟨IS ..,λi l e=>?_,λi j l e1 e2=>?_,?_,?_⟩
   ·obtain ⟨x,hx,⟨q,rfl⟩ | ⟨q,c,hc,rfl⟩⟩:=hlay i l e
    ·exact IS ..
    ·refine tO _ (IN _ (List.mem_filterMap.mpr ⟨x,rW hx,?_⟩));rw [if_neg q];exact hc
   ·refine e12 (hlay i l e1) λx hx q1=>?_;refine e12 (hlay j l e2) λy hy q2=>?_
    rcases q1 with ⟨_,rfl⟩ | ⟨_,c,hc,rfl⟩
    ·rcases q2 with ⟨_,q⟩ | ⟨_,c',_,q⟩
     ·cases q;exact hidx i j x hx hy
     ·cases q
    ·rcases q2 with ⟨_,q⟩ | ⟨_,c',hc',q⟩
     ·cases q
     ·cases q
      have:=name_of_addr hapart (mem_of_lookup hc) (mem_of_lookup hc');subst this;exact hidx i j x hx hy
   ·show env.scope.kind=.function;rw [eS];exact hk
   ·refine e12 hfrs λes h1 h2=>?_;refine ⟨env::es,by show A.frames.map (env::·)=_;rw [h1];rfl,λe he=>?_⟩
    rcases IF.mp he with rfl | he
    ·exact ⟨by rw [eS,hk];decide,_,IS ..,eF⟩
    ·obtain ⟨q1,L,q2,q3⟩:=h2 e he;exact ⟨q1,L,IN _ q2,q3⟩
  have fo:qm (lj A env ns frs):=by
   refine e12 hfrs λes h1 _=>?_;exact ⟨⟨es,by show A.frames.map (env::·)=_;rw [h1];rfl⟩,eF⟩
  have cx:aC C (CV fd.scope ns z (!C.hf f)) (lj A env ns frs) n:=by
   refine ⟨ok',λx=>eK x,λi x e=>?_,?_,H.1.meth,H.1.attr,λe=>?_,H.1.hf,?_,?_,?_,λi a e _=>(nO.mp (ok'.lay i _ e)).elim id (λq=>nomatch q),λi e=>?_⟩
   ·have hx:ns[i]?=J x:=e
    rcases hall x (rW hx) with q | ⟨q,q'⟩
    ·refine .inl ⟨(eK x).trans q,?_⟩;simp only [lj,hx,eK,q,if_true]
    ·have hne:fd.scope.names.lookup x≠J .local:=by rw [q];intro q;cases q
     rw [<-hcellS (s.heap.objs.size+1),<-eC] at q';obtain ⟨c,hc⟩:=K6.mp q';refine .inr ⟨c,.inl ((eK x).trans q),hc,?_⟩;simp only [lj,hx,eK,q,hc];rfl
   ·show vc C env.globals env.builtins z;rw [eG.1,eG.2];exact hgl
   ·refine hA.resolve_right λq=>?_;replace e:(!C.hf f)=aT:=e;rw [q] at e;cases e
   ·show A.units+3<=3 * (A.depth+1)+4;exact n1 hunits
   ·show A.depth+1+n<=999;exact n1 hroom
   ·show interactive env=Z;unfold interactive;rw [eS,hk];rfl
   ·have e:ns.length<=i:=by simpa [CV] using e
    simp only [lj,Li e]
  have hk':∀b ob,s.heap.get? b=J ob->s₁.heap.get? b=J ob:=hkeep;have hs0:bg s.heap s₁.heap:=λb ob e _=>hk' b ob e;have R₁:Rel C (lj A env ns frs) ρ (ec d vs hp) s₁:=by
   refine ⟨?_,⟨_,hns1⟩,λb hb=>?_,λi v e=>?_,λi c e=>?_,λL hL=>?_,hg1.1.trans hgens⟩
   ·show Hp C ρ hp s₁.heap;exact hH.up hs0 (λb _ ob e=>hk' b ob e) λb ob e=>hk' b ob (hH.base b ob e)
   ·have hb:b∈(lj A env ns frs).W:=(nO.mp hb).elim id λq=>by exact aO q
    refine e02 (hW b hb) λh1 h2=>?_;refine ⟨λq=>?_,cA (m:=⟨[],hp⟩) hH h1,h2⟩;obtain ⟨o',e'⟩:=Hp.there (m:=⟨[],hp⟩) hH q;exact bc h1 e'
   ·have hv:=xu e;refine e12 (rl.get hv) λw hw1 hw2=>?_;have hi:i<ps.length:=by rw [<-hwl];exact (iN.mp hw1).1
    have hpi:ps[i]?=J ps[i]:=KC hi;have hni:ns[i]?=J ps[i]:=by
     obtain ⟨t,rfl⟩:=hpre;rw [Ld hi];exact hpi
    have hz:(ps[i],w)∈ps.zip ws:=rW (CW hwl hpi hw1)
    rcases cx.nm i ps[i] hni with ⟨q1,q2⟩ | ⟨c,q1,q2,q3⟩
    ·refine ⟨_,q2,_,w,hns1,?_,hw2.up hs0 (Kw _)⟩;exact xr _ _ _ _ _ hzn hz q1
    ·refine ⟨_,q3,w,?_,hw2.up hs0 (Kw _)⟩;have:=(hcl ps[i] c q2).1;rw [xt _ _ _ _ w hzn hz] at this
     ·exact this
     ·intro q;have q1':env.kindOf ps[i]=J .cell\/env.kindOf ps[i]=J .free/\cdc ps[i]=Z:=q1;rw [q] at q1'
      rcases q1' with q1' | ⟨q1',_⟩<;>cases q1'
   ·obtain ⟨x,hx,⟨q,q'⟩ | ⟨q,c',hc,q'⟩⟩:=hlay i _ e
    ·cases q'
    ·cases q';exact ⟨_,(hcl x c hc).1⟩
   ·rcases IF.mp hL with rfl | hL
    ·refine ⟨λq=>?_,cA (m:=⟨[],hp⟩) hH fL,?_⟩
     ·obtain ⟨o',e'⟩:=Hp.there (m:=⟨[],hp⟩) hH q;exact bc fL e'
     ·refine e33 hns1 λo es ep e1 e2 _=>?_;exact ⟨o,e1,es,ep,e2⟩
    ·obtain ⟨h1,h2,o,h3,h4⟩:=hout L hL;exact ⟨h1,h2,o,hk' L o h3,h4⟩
  have hnW:∀b ob,s.heap.get? b=J ob->b∉(lj A env ns frs).W:=λb ob e q=>by rw [(hW b q).1] at e;exact aJ e
  have hnn:∀b,s₁.heap.get? b=bY->s.heap.get? b=bY:=λb q=>by
   cases e:s.heap.get? b with
   | none=>rfl
   | some ob=>rw [hk' b ob e] at q;exact jF q
  have hst:∀{ρ' s'},aB (lj A env ns frs).W ρ s₁ ρ' s'->aB [] ρ s ρ' s':=λ{ρ' s'} st=>
   ⟨st.pre,λb hb=>(st.new b hb).imp id (hnn b),λb ob e h1 _=>st.keep b ob (hk' b ob e) h1 (hnW b ob e),λb ob e hsd=>st.solid b ob (hk' b ob e) hsd,λb ob e=>st.alive b ob (hk' b ob e),st.gens.trans hg1.1,st.os.trans hg1.2⟩
  refine Kq (fM G d.body (xin X) _ _ cx fo body hchk (fin Q) (ec d vs hp) hw s₁ ρ R₁) (λfl s' hf=>?_) λe s' he=>?_
  rotate_left
  ·exact OQ he
  obtain ⟨ρ',m',f',st,R',hfl,hq⟩:=hf;have key:∀v x,Rep C ρ' s'.heap x v->Q x m'.heap->GK C Q ρ s v s':=λv x rx hq=>⟨ρ',m'.heap,x,hst st,R'.hp,rx,hq⟩
  cases f' with
  | next=>obtain rfl:=hfl.inv;exact key .none .none .none hq
  | brk=>exact hq.elim
  | cont=>exact hq.elim
  | ret r=>obtain ⟨v,rfl,rv⟩:=hfl.inv;exact key _ _ rv hq
theorem xw (okF:bb F)(R:Rel C F ρ m s)(st:aB [] ρ s ρ' s')(hH:Hp C ρ' hp' s'.heap):aB F.W ρ s ρ' s'/\Rel C F ρ' ⟨m.vars,hp'⟩ s':=by
 have hD:∀b ob,s.heap.get? b=J ob->b∉ρ->ni s.heap s'.heap b:=λb ob e hb ob' e'=>by
  obtain rfl:=same e e'
  rcases st.keep b ob e hb (by exact LD) with q | ⟨_,sl,q⟩
  ·exact ⟨_,q,rfl,rfl⟩
  ·exact ⟨_,q,rfl,rfl⟩
 refine ⟨⟨st.pre,st.new,λb ob e h1 _=>st.keep b ob e h1 (by exact LD),st.solid,st.alive,st.gens,st.os⟩,R.up okF st.solid st.pre hH st.new (λb hb=>?_) (λL hL=>?_) st.gens⟩
 ·obtain ⟨h1,_,ob,e,_⟩:=R.w b hb;exact hD b ob e h1
 ·obtain ⟨h1,_,ob,e,_⟩:=R.out L hL;exact hD L ob e h1
set_option tactic.hygienic true in
theorem GL (G:GOk C){z:Sg}{P:Nat->Option Fn}(H:vd C z P):aD P (Call C):=by
 intro n f vs Q X hp d hP hlen hw F m s ρ ws a okF hA hm R rl hroom hunits hfa;refine Kq (pC G H hP hlen hw hA (by rw [<-hm];exact R.hp) R.gens rl okF.frs R.out hroom hunits hfa) (λv s' hr=>?_) λe s' hr=>?_
 ·obtain ⟨ρ',hp',x,st,hH,rx,hq⟩:=hr;refine e02 (xw okF R st hH) λst' R'=>?_;exact ⟨ρ',⟨m.vars,hp'⟩,x,st',R',rx,rfl,hq⟩
 ·exact OQ hr
end
noncomputable def gN (ns:List Str)(mg:Str->Option DO)(h:KR):Prop:=ns=[]
theorem gN.keeps (x:gN ns mg h)(k:∀b o,h.get? b=J o->h'.get? b=J o):gN ns mg h':=x
noncomputable def lm (x:Str)(es:List (List Nat × Int))(prog:Nz)(w:Mw)(h:KR):Prop:=∃mg a kvs,h.Ns mainGlobals mg/\mg x=J (.ref a)/\(a==sysModules)=Z/\h.DictOf (strKind prog w) a kvs/\CK es kvs
theorem tW (h:kW e=J x):∃k t i u,e.key=.str k t/\e.val=.int i u/\x=(e.hash,k,i):=by
 unfold kW at h
 cases hk:e.key with
 | str k t=>
  rw [hk] at h
  cases hv:e.val with
  | int i u=>rw [hv] at h;exact ⟨k,t,i,u,rfl,rfl,(By h).symm⟩
  | _=>rw [hv] at h;exact aJ h
 | _=>rw [hk] at h;exact aJ h
theorem oX (h:e9 (e::l)=J ys):∃x xs,kW e=J x/\e9 l=J xs/\ys=x::xs:=by
 replace h:(match kW e with
  | some x=>match e9 l with
   | some xs=>J (x::xs)
   | none=>bY
  | none=>bY)=J ys:=h
 cases h1:kW e with
 | none=>rw [h1] at h;exact aJ h
 | some x=>
  rw [h1] at h
  cases h2:e9 l with
  | none=>rw [h2] at h;exact aJ h
  | some xs=>rw [h2] at h;exact ⟨x,xs,rfl,rfl,(By h).symm⟩
theorem tX (h:e9 l=J (es.map λp=>(hashStr w (str p.1),str p.1,p.2)))(hl:∀p∈es,p.1.length<=line) :
  ∃kvs,(∀e∈l,∃k,(strKind prog w).is k e.key=aT/\e.hash=(strKind prog w).hash k)/\Pairs (strKind prog w) l kvs/\CK es kvs/\kvs.map (·.1)=es.map λp=>str p.1:=by
 induction l generalizing es with
 | nil=>
  cases es with
  | nil=>exact ⟨[],λe he=>aO he,.nil,.nil,rfl⟩
  | cons=>exact nomatch By h
 | cons e l ih=>
  refine e23 (oX h) λx xs h1 h2 h3=>?_
  cases es with
  | nil=>exact nomatch h3
  | cons p es=>
   obtain ⟨hx,rfl⟩:=LX h3;refine e14 (ih h2 λp hp=>hl p (IN _ hp)) λkvs k1 k2 k3 k4=>?_;obtain ⟨s,t,j,u,ek,ev,rfl⟩:=tW h1;have e1:hashStr w (str p.1)=e.hash:=congrArg PE hx;obtain rfl:str p.1=s:=congrArg (λq=>q.2.1) hx;obtain rfl:p.2=j:=congrArg (λq=>q.2.2) hx;have hk:(strKind prog w).is (str p.1) e.key=aT:=by rw [ek];exact beq_self_eq_true _
   refine ⟨(str p.1,.int p.2 u)::kvs,λe' he=>?_,.cons hk ev k2,.cons (hl _ (IS ..)) k3,congrArg (str p.1::·) k4⟩
   rcases IF.mp he with rfl | he
   ·exact ⟨str p.1,hk,e1.symm⟩
   ·exact k1 e' he
theorem I8 (hl:∀p∈es,p.1.length<=line)(hn:(es.map λp=>str p.1).Nodup)(h:oZ x s=qR es w):lm x es prog w s.heap:=by
 unfold oZ at h;refine Kz λhz=>?_
 cases ha:s.heap.nsMap mainGlobals x with
 | none=>rw [ha] at h;exact aJ h
 | some v=>
 rw [ha] at h
 cases v with
 | ref a=>
  dsimp only at h
  cases ho:s.heap.get? a with
  | none=>rw [ho] at h;exact aJ h
  | some o=>
  rw [ho] at h;dsimp only at h
  cases hd:o.data with
  | dict ds ep=>
   rw [hd] at h;dsimp only at h
   cases hc:(a != sysModules&&o.cls==.type "dict"&&o.dict.isNone&&o.slots.size==0&&s.heap.isNs mainGlobals) with
   | false=>rw [hc] at h;exact aJ h
   | true=>
     rw [hc] at h;refine hz ?_;refine e02 (KU.mp hc) λhc h5=>?_;refine e02 (KU.mp hc) λhc h4=>?_;refine e02 (KU.mp hc) λhc h3=>?_;refine e02 (KU.mp hc) λh1 h2=>?_;refine e14 (tX (prog:=prog) h hl) λkvs k1 k2 k3 k4=>?_;refine ⟨_,a,kvs,.of_isNs h5,ha,by simpa using h1,⟨o,ds,ep,ho,⟨eq_of_beq h2,Mb.mp h3,?_⟩,hd,λe he=>k1 e (by simpa using he),k2,by rw [k4];exact hn⟩,k3⟩;exact Array.eq_empty_of_size_eq_zero (eq_of_beq h4)
  | _=>rw [hd] at h;exact aJ h
 | _=>exact aJ h
theorem lm.keeps (y:lm x es prog w h)(k:∀b o,h.get? b=J o->h'.get? b=J o):lm x es prog w h':=by
 obtain ⟨mg,a,kvs,h1,h2,h3,⟨o,ds,ep,e,r⟩,h5⟩:=y;exact ⟨mg,a,kvs,h1.keeps k,h2,h3,⟨o,ds,ep,k _ _ e,r⟩,h5⟩
noncomputable abbrev Tab:=List (Nat × Str × List Str × Fn)
noncomputable abbrev CY:=List (Nat × Nat × Str × List Str × Fn)
noncomputable abbrev J9:=List (Nat × Str × List Str)
noncomputable def rO (tab:Tab)(f:Nat):Option Str:=(tab.lookup f).map (·.1)
noncomputable def fnP (tab:Tab)(f:Nat):Option Fn:=(tab.lookup f).map (·.2.2)
noncomputable def xx (mt:CY)(f:Nat):Option (Nat × Str):=(mt.lookup f).map λe=>(e.1,e.2.1)
noncomputable def mtP (mt:CY)(f:Nat):Option Fn:=(mt.lookup f).map (·.2.2.2)
set_option genCtorIdx false in
structure mz where
 tab:Tab
 mt:CY
 ct:J9
 xs:List Str
 hf:Nat->Bool
 gl:Nat->Option (Str × MV)
noncomputable def mz.P (t:mz)(f:Nat):Option Fn:=(fnP t.tab f).or (mtP t.mt f)
noncomputable def mz.sg (t:mz):Sg where
 fn:=rO t.tab
 gl:=t.gl
 hf:=t.hf
 cn k:=(t.ct.lookup k).map (·.1)
 xn k:=t.xs[k]?
 mt:=xx t.mt
 at_ k y:=match t.ct.lookup k with
  | some e=>e.2.contains y
  | none=>Z
noncomputable def eM:Option DO->Option KO
 | some (.ref a)=>J a
 | _=>bY
noncomputable def nX (z:Sg)(nh:Bool)(ns:List Str)(d:Fn)(params:Arguments)(scope:Scope)(body:List Pm):Bool:=
 params.posonlyargs.isEmpty&&params.vararg.isNone&&params.kwonlyargs.isEmpty&&params.kwarg.isNone&&!scope.isCoroutine&&!scope.isGenerator&&scope.kind==.function&&
 (params.args.map (·.arg)).length==d.args&&qo scope (params.args.map (·.arg)) ns&&jt (CV scope ns z nh) d.body body
noncomputable def rP (recs:List DefRec)(t:mz):Bool:=
 t.tab.all λe=>recs.any λr=>r.name==e.2.1&&nX t.sg (!t.hf e.1) e.2.2.1 e.2.2.2 r.params r.scope r.body
noncomputable def nY (cs:List ClsRec)(t:mz):Bool:=
 t.mt.all λe=>(t.tab.lookup e.1).isNone&&ax (t.ct.lookup e.2.1) λc=>cs.any λk=>k.name==c.1&&k.meths.any λm=>m.name==e.2.2.1&&nX t.sg (!t.hf e.1) e.2.2.2.1 e.2.2.2.2 m.params m.scope m.body
noncomputable def rQ (cs:List ClsRec)(t:mz):Bool:=t.ct.all λe=>cs.any λk=>k.name==e.2.1&&e.2.2.all λx=>k.statics.contains x
noncomputable def eqV (v w:DO):Bool:=match v with
 | .builtin a=>match w with
  | .builtin b=>a==b
  | _=>Z
 | .type a=>match w with
  | .type b=>a==b
  | _=>Z
 | _=>Z
theorem GM (h:eqV v w=aT):v=w:=by
 cases v with
 | builtin a=>
  cases w with
  | builtin b=>exact congrArg _ (eq_of_beq h)
  | _=>exact ff h
 | type a=>
  cases w with
  | type b=>exact congrArg _ (eq_of_beq h)
  | _=>exact ff h
 | _=>exact ff h
noncomputable def Ez (p:Nz)(loose:List Str):Bool:=
 c0.all λq=>!startupNames.contains q.1&&!loose.contains q.1&&!((recsOf p).map (·.name)).contains q.1&&!((litsOf p).map (·.1)).contains q.1&&!((clssOf p loose).map (·.name)).contains q.1&&!(q.1==("__name__":Str))&&
  ax (bootBuiltins q.1) (eqV q.2)
set_option tactic.hygienic true in
theorem fi:∀{l:List (Nat × α)}{k:Nat}{v:α},l.lookup k=J v->(k,v)∈l
 | [],k,v,h=>by exact aJ h
 | (a,b)::r,k,v,h=>by
  rw [K9] at h
  split at h
  ·rename_i e;obtain rfl:=By h;have:k=a:=by exact eq_of_beq e
   subst this;exact IS ..
  ·exact IN _ (fi h)
set_option tactic.hygienic true in
theorem nZ:∀{ps:List Str}{vs:List DO}{x:Str},vs.length=ps.length->x∈ps->((ps.zip vs).lookup x).isSome=aT
 | [],_,_,_,h=>by exact aO h
 | p::ps,[],_,h,_=>by cases h
 | p::ps,v::vs,x,hl,h=>by
  rw [List.zip_cons_cons,K9]
  split
  ·rfl
  ·rename_i e;refine nZ (by simpa using hl) ?_
   rcases IF.mp h with rfl | h
   ·simp at e
   ·exact h
theorem ju:∀{ps:List Str}{vs:List DO}(pre:List (Str × DO)),vs.length=ps.length->ps.Nodup->(∀x∈ps,pre.lookup x=bY)->ps.filterMap (λn=>((pre++ps.zip vs).lookup n).map (n,·))=ps.zip vs
 | [],_,_,_,_,_=>rfl
 | p::ps,[],_,h,_,_=>by cases h
 | p::ps,v::vs,pre,hl,hn,hp=>by
  rw [Mm] at hn;have e1:(pre++(p::ps).zip (v::vs)).lookup p=J v:=by
   rw [List.lookup_append,hp p (IS ..)];simp [K9]
  rw [List.filterMap_cons,e1];simp only [Option.map_some];rw [List.zip_cons_cons];congr 1;have e2:pre++(p,v)::ps.zip vs=(pre++[(p,v)])++ps.zip vs:=by simp
  rw [e2];refine ju (pre++[(p,v)]) (by simpa using hl) hn.2 λx hx=>?_;rw [List.lookup_append,hp x (IN _ hx)];have:(x==p)=Z:=by
   cases e:x==p with
   | false=>rfl
   | true=>
    have:x=p:=by exact eq_of_beq e
    subst this;exact absurd hx hn.1
  simp [K9,this]
theorem rR (h1:fd.params.posonlyargs=[])(h2:fd.params.vararg=bY)(h3:fd.params.kwonlyargs=[])(h4:fd.params.kwarg=bY)(h5:fd.defaults=.none)
  (e5:(decide (vals.length > (fd.params.args.map (·.arg)).length))=Z) (e2:(fd.params.args.map (·.arg)).filter (λn=>(((fd.params.args.map (·.arg)).zip vals).lookup n).isNone)=[])
  (e3:(fd.params.args.map (·.arg)).filterMap (λn=>(((fd.params.args.map (·.arg)).zip vals).lookup n).map (n,·))=(fd.params.args.map (·.arg)).zip vals):bindArgs fd ⟨vals,[]⟩=pure ((fd.params.args.map (·.arg)).zip vals):=by
 obtain ⟨a1,a2,⟨b1,b2,b3,b4,b5,b6,b7⟩,a4,a5,a6,a7,a8,a9,a10,a11,a12,a13,a14,a15⟩:=fd;dsimp only at h1 h2 h3 h4 h5 e5 e2 e3 ⊢;subst h1 h2 h3 h4 h5;refine (if_neg (c:=(decide (vals.length > (b2.map (·.arg)).length)&&aT)=aT) (by rw [e5];decide)).trans ?_;have hd:∀k,List.drop k ((bY:Option (Array DO)).getD #[]).toList=[]:=λk=>Pe;rw [hd];refine (if_neg (c:=(!(((b2.map (·.arg)).take ((b2.map (·.arg)).length-0)).filter (λn=>(((b2.map (·.arg)).zip vals).lookup n).isNone)).isEmpty)=aT) (by rw [Nat.sub_zero,KD,e2];decide)).trans ?_;have hz:(List.drop ((b2.map (·.arg)).length-0) (b2.map (·.arg))).zip ([]:List DO)=[]:=List.zip_nil_right;refine (congrArg (λl=>(forIn (m:=Sem) l ((b2.map (·.arg)).zip vals) _ >>= _)) hz).trans ?_;exact congrArg (λl=>(pure l:Sem (List (Str × DO)))) ((congrArg (List.filterMap _) (Kr (b2.map (·.arg)))).trans e3)
theorem tY (h1:fd.params.posonlyargs=[])(h2:fd.params.vararg=bY)(h3:fd.params.kwonlyargs=[])(h4:fd.params.kwarg=bY)(h5:fd.defaults=.none)
  (hn:(fd.params.args.map (·.arg)).Nodup) (hl:vals.length=(fd.params.args.map (·.arg)).length):bindArgs fd ⟨vals,[]⟩=pure ((fd.params.args.map (·.arg)).zip vals):=by
 have e1:∀x∈fd.params.args.map (·.arg),(((fd.params.args.map (·.arg)).zip vals).lookup x).isNone=Z:=λx hx=>by
  have:=nZ hl hx
  cases e:((fd.params.args.map (·.arg)).zip vals).lookup x with
  | none=>rw [e] at this;cases this
  | some=>rfl
 have e2:(fd.params.args.map (·.arg)).filter (λn=>(((fd.params.args.map (·.arg)).zip vals).lookup n).isNone)=[]:=by
  rw [List.filter_eq_nil_iff];intro x hx;rw [e1 x hx];simp
 have e3:=ju (ps:=fd.params.args.map (·.arg)) (vs:=vals) [] hl hn λ_ _=>rfl;rw [O7] at e3;exact rR h1 h2 h3 h4 h5 (decide_eq_false (by rw [hl];exact Nt _)) e2 e3
end Internal
end
section
namespace Internal
open PySem PySem.W PyProof.Rows
section
noncomputable abbrev fS (prog:Nz) (w:Mw) (h:KR) (t:mz) (mg:Str->Option DO) (cm:Nat->Str->Option DO):Glo where
 prog:=prog
 w:=w
 base:=h
 fa f:=match rO t.tab f with
  | some x=>eM (mg x)
  | none=>match xx t.mt f with
   | some q=>eM (cm q.1 q.2)
   | none=>bY
 ca k:=match t.ct.lookup k with
  | some e=>eM (mg e.1)
  | none=>bY
 xa k:=match t.xs[k]? with
  | some x=>eM (mg x)
  | none=>bY
 cm:=cm
 hf:=t.hf
theorem n4 (e:eM o=J a):o=J (.ref a):=by
 cases o with
 | none=>exact aJ e
 | some v=>cases v<;>first | ((first | exact aJ e | obtain rfl:=By e);rfl) | exact aJ e
end
section
theorem I9 (XF:gN t.xs mg h):GX (fS prog w h t mg cm) where
 nox:=λk=>by
  show (match t.xs[k]? with
   | some x=>eM (mg x)
   | none=>bY)=bY
  rw [show t.xs=[] from XF];rfl
theorem GN (XF:gN t.xs mg h)(e:t.sg.xn k=J x):∃K,(fS prog w h t mg cm).xa k=J K/\mg x=J (.ref K):=by
 replace e:t.xs[k]?=J x:=e;rw [show t.xs=[] from XF] at e;exact aJ e
theorem GO {C:Glo}{ρ:List KO}{s s':Kv}{e:DO}{P:Prop}(hx:ErC C (λ_ _=>False) ρ s e s'):P:=OQ hx
end
section
noncomputable def zQ (t:mz)(mg:Str->Option DO)(h:KR)(cm:Nat->Str->Option DO):Prop:=∀k e,t.ct.lookup k=J e->∃K N,mg e.1=J (.ref K)/\ClsAt h K N (cm k)
inductive FdO (h:KR)(v:Option DO)(ps:Arguments)(sc:Scope)(body:List Pm):Prop
 | mk (a:KO) (o:OO) (fd:FuncData) (h1:v=J (.ref a)) (h2:h.get? a=J o) (h3:o.data=.func fd) (h4:h.CodeRec fd.code fd.qualname) (h5:fd.body=.stmts body) (h6:fd.closure=[]) (h7:fd.defaults=.none) (h8:fd.params=ps) (h9:fd.scope=sc) (h10:fd.globals=mainGlobals) (h11:fd.builtins=builtinsNs)
theorem GP (T:Top p loose mean mg mb h)(hr:r∈recsOf p):FdO h (mg r.name) r.params r.scope r.body:=by
 obtain ⟨a,o,pm,code,doc,h1,h2,h3,h4⟩:=T.fn r hr;exact ⟨a,o,_,h1,h2,h3,h4,rfl,rfl,rfl,rfl,rfl,rfl,rfl⟩
theorem zR {c:ClsRec}{K N:KO}{mN:Str->Option DO}(P:PlainAt h c K N mN){m:MethRec}(hm:m∈c.meths):FdO h (mN m.name) m.params m.scope m.body:=by
 obtain ⟨a,o,pm,code,doc,h1,h2,_,h3,h4⟩:=P.meths m hm;exact ⟨a,o,_,h1,h2,h3,h4,rfl,rfl,rfl,rfl,rfl,rfl,rfl⟩
theorem tZ (hchk:rP (recsOf p) t=aT)(e:t.tab.lookup f=J (x,ns,d)):∃r∈recsOf p,r.name=x/\nX t.sg (!t.hf f) ns d r.params r.scope r.body=aT:=by
 unfold rP at hchk;rw [K2] at hchk;have:=hchk _ (fi e);rw [Ls] at this;refine e12 this λr hr h=>?_;rw [IT] at h;exact ⟨r,hr,eq_of_beq h.1,h.2⟩
theorem CZ {K N N':KO}{m m':Str->Option DO}(x:ClsAt h K N m)(y:ClsAt h K N' m'):m=m':=by
 obtain ⟨nm,q,bs,sn,sub,col,dd,k0,k1,k2,k3,k5,e⟩:=nP x;obtain ⟨nm',q',bs',sn',sub',col',dd',l0,l1,l2,l3,l5,e'⟩:=nP y;have hN:N=N':=by
  have:=congrArg OO.data (same e e');injection this with q
  injection q
 subst hN;exact k9 x.ns y.ns
theorem n5 (TE:TopE p loose mg h)(hcm:zQ t mg h cm)(hk:t.ct.lookup k=J e)(hc:c∈plainsOf p loose)(hn:c.name=e.1):∃K N,mg e.1=J (.ref K)/\PlainAt h c K N (cm k):=by
 refine e22 (hcm k e hk) λK N h1 h2=>?_;refine e32 (TE c hc) λC N' mN h3 P=>?_;rw [hn,h1] at h3;cases h3;have:=CZ P.cls h2;subst this;exact ⟨K,N',h1,P.ofCmp⟩
inductive GQ (pl:List ClsRec)(t:mz)(f k:Nat)(x:Str)(ns:List Str)(d:Fn):Prop
 | mk (h0:(t.tab.lookup f).isNone=aT) (ce:Str × List Str) (hce:t.ct.lookup k=J ce) (c:ClsRec) (hc:c∈pl) (hn:c.name=ce.1) (m:MethRec) (hm:m∈c.meths) (hmn:m.name=x) (hck:nX t.sg (!t.hf f) ns d m.params m.scope m.body=aT)
theorem qp (hm:nY (plainsOf p loose) t=aT)(e:t.mt.lookup f=J (k,x,ns,d)):GQ (plainsOf p loose) t f k x ns d:=by
 unfold nY at hm;rw [K2] at hm;have:=hm _ (fi e);rw [IT] at this;obtain ⟨h0,h1⟩:=this;refine e12 (ah h1) λce hce h1=>?_;rw [Ls] at h1;refine e12 h1 λc hc h1=>?_;rw [IT] at h1;obtain ⟨h2,h3⟩:=h1;rw [Ls] at h3;refine e12 h3 λm hm h3=>?_;rw [IT] at h3;exact ⟨h0,ce,hce,c,hc,eq_of_beq h2,m,hm,eq_of_beq h3.1,h3.2⟩
theorem Ja (TE:TopE p loose mg h)(hct:rQ (plainsOf p loose) t=aT):∃cm,zQ t mg h cm:=by
 refine Classical.axiomOfChoice (r:=λk m=>∀e,t.ct.lookup k=J e->∃K N,mg e.1=J (.ref K)/\ClsAt h K N m) λk=>?_
 cases hk:t.ct.lookup k with
 | none=>exact ⟨λ_=>bY,λe he=>by exact aJ he⟩
 | some e=>
  unfold rQ at hct;rw [K2] at hct;have:=hct _ (fi hk);rw [Ls] at this;refine e12 this λc hc h1=>?_;rw [IT] at h1;refine e32 (TE c hc) λC N mN h3 P=>?_;refine ⟨mN,λe' he=>?_⟩;obtain rfl:=By he;exact ⟨C,N,by rw [<-eq_of_beq h1.1];exact h3,P.cls⟩
theorem EA (hct:rQ (plainsOf p loose) t=aT)(hk:t.ct.lookup k=J e):∃c∈plainsOf p loose,c.name=e.1/\∀x,e.2.contains x=aT->x∈c.statics:=by
 unfold rQ at hct;rw [K2] at hct;have:=hct _ (fi hk);rw [Ls] at this;refine e12 this λc hc h1=>?_;rw [IT] at h1;refine ⟨c,hc,eq_of_beq h1.1,λx hx=>?_⟩;have:=K2.mp h1.2 x (KL.mp hx);exact KL.mp this
theorem EB (e:t.tab.lookup f=J (x,ns,d))(h1:mg x=J (.ref a)):(fS prog w h t mg cm).fa f=J a:=by
 show (match rO t.tab f with
  | some x=>eM (mg x)
  | none=>_)=J a
 unfold rO;rw [e];show eM (mg x)=J a;rw [h1];rfl
theorem Jb (e0:(t.tab.lookup f).isNone=aT)(e:t.mt.lookup f=J (k,x,ns,d))(h1:cm k x=J (.ref a)):(fS prog w h t mg cm).fa f=J a:=by
 show (match rO t.tab f with
  | some x=>eM (mg x)
  | none=>match xx t.mt f with
   | some q=>eM (cm q.1 q.2)
   | none=>bY)=J a
 unfold rO xx;rw [Mb.mp e0,e];show eM (cm k x)=J a;rw [h1];rfl
theorem zS (e:(fS prog w h t mg cm).fa f=J a):(∃x ns d,t.tab.lookup f=J (x,ns,d)/\mg x=J (.ref a))\/(t.tab.lookup f=bY/\∃k x ns d,t.mt.lookup f=J (k,x,ns,d)/\cm k x=J (.ref a)):=by
 replace e:(match rO t.tab f with
  | some x=>eM (mg x)
  | none=>match xx t.mt f with
   | some q=>eM (cm q.1 q.2)
   | none=>bY)=J a:=e
 unfold rO xx at e
 cases q:t.tab.lookup f with
 | some z=>
  obtain ⟨x,ns,d⟩:=z;rw [q] at e;exact .inl ⟨x,ns,d,rfl,n4 e⟩
 | none=>
  rw [q] at e
  cases q2:t.mt.lookup f with
  | none=>rw [q2] at e;cases e
  | some z=>
   obtain ⟨k,x,ns,d⟩:=z;rw [q2] at e;exact .inr ⟨rfl,k,x,ns,d,rfl,n4 e⟩
theorem zT {k:Nat}{K:KO}(e:(fS prog w h t mg cm).ca k=J K):∃ce,t.ct.lookup k=J ce/\mg ce.1=J (.ref K):=by
 replace e:(match t.ct.lookup k with
  | some e=>eM (mg e.1)
  | none=>bY)=J K:=e
 cases q:t.ct.lookup k with
 | none=>rw [q] at e;cases e
 | some ce=>rw [q] at e;exact ⟨ce,rfl,n4 e⟩
theorem Jc (T:Top p loose mean mg mb h)(TE:TopE p loose mg h)(XF:gN t.xs mg h)(hcm:zQ t mg h cm)(hi:importsNone p=aT)(hchk:rP (recsOf p) t=aT)(hm:nY (plainsOf p loose) t=aT)(hct:rQ (plainsOf p loose) t=aT):GOk (fS prog w h t mg cm) where
 sys:=by
  obtain ⟨mm,⟨o,es,ep,e,_⟩,_⟩:=(T.seer hi).mods;rw [e];rfl
 nolimit:=T.nolimit
 fns:=λf a e=>by
  rcases zS e with ⟨x,ns,d,e1,e2⟩ | ⟨_,k,x,ns,d,e1,e2⟩
  ·obtain ⟨r,hr,rfl,_⟩:=tZ hchk e1;obtain ⟨a',o,fd,h1,h2,h3⟩:=GP T hr;rw [e2] at h1;cases h1;exact ⟨o,_,h2,h3⟩
  ·obtain ⟨_,ce,hce,c,hc,hn,m,hm,rfl,_⟩:=qp hm e1;refine e22 (n5 TE hcm hce hc hn) λK N _ P=>?_;obtain ⟨a',o,fd,h1,h2,h3⟩:=zR P hm;rw [e2] at h1;cases h1;exact ⟨o,_,h2,h3⟩
 cls:=λk K e=>by
  refine e12 (zT e) λce h1 h2=>?_;refine e22 (hcm k ce h1) λK' N h3 h4=>?_;rw [h2] at h3;cases h3;exact ⟨N,h4⟩
 quiet:=λk K e=>by
  refine e12 (zT e) λce h1 h2=>?_;refine e13 (EA hct h1) λc hc hn _=>?_;refine e22 (n5 TE hcm h1 hc hn) λK' N _ P=>?_;exact ⟨P.quiet _ (tO _ (.head _)),P.quiet _ (tO _ (.tail _ (.head _))),P.quiet _ (tO _ (.tail _ (.tail _ (.head _))))⟩
 x:=I9 XF
theorem zU (fo:FdO C.base v ps sc body)(hv:v=J (.ref a))(hc:nX z nh ns d ps sc body=aT)(hg:vc C mainGlobals builtinsNs z):I7 C z nh d a:=by
 obtain ⟨a',o,fd,h1,ho,hd,hcr,hb,hcl,hdf,rfl,rfl,h10,h11⟩:=fo;obtain rfl:a=a':=by rw [hv] at h1;exact DO.ref.inj (By h1)
 obtain ⟨hc,c10⟩:=au hc;refine e02 (au hc) λhc c9=>?_;refine e02 (au hc) λhc c8=>?_;refine e02 (au hc) λhc c7=>?_;refine e02 (au hc) λhc c6=>?_;refine e02 (au hc) λhc c5=>?_;refine e02 (au hc) λhc c4=>?_;refine e02 (au hc) λhc c3=>?_;refine e02 (au hc) λc1 c2=>?_;have hnd:(fd.params.args.map (·.arg)).Nodup:=by
  have:=(au (au c9).1)
  exact (of_decide_eq_true this.2).sublist (List.isPrefixOf_iff_prefix.mp this.1).sublist
 exact ⟨o,fd,body,fd.params.args.map (λx:Arg=>x.arg),ns,ho,hd,hcr,hb,hcl,lR c5,lR c6,eq_of_beq c7,λvals hv=>tY (Ms.mp c1) (Mb.mp c2) (Ms.mp c3) (Mb.mp c4) hdf hnd hv,eq_of_beq c8,c9,c10,by rw [h10,h11];exact hg⟩
theorem Jd (T:Top p loose mean mg mb h)(TE:TopE p loose mg h)(XF:gN t.xs mg h)(hcm:zQ t mg h cm)(hchk:rP (recsOf p) t=aT)(hm:nY (plainsOf p loose) t=aT)(hct:rQ (plainsOf p loose) t=aT)(hb:Ez p loose=aT)
  (hgl:∀g x v,t.gl g=J (x,v)->∃u,mg x=J u/\∀ρ h',h.StaysIn h'->Rep (fS prog w h t mg cm) ρ h' v u):vd (fS prog w h t mg cm) t.sg t.P:=by
 have hG:vc (fS prog w h t mg cm) mainGlobals builtinsNs t.sg:=by
  refine ⟨mg,mb,T.g,T.b,λf' x' e'=>?_,hgl,λx' v' hm=>?_,λk x e=>?_,λk x e=>?_⟩
  ·obtain ⟨⟨y,ns,d⟩,q,rfl⟩:=EQ.mp e';refine e13 (tZ hchk q) λr hr hrn _=>?_;obtain ⟨a,_,_,g1,_⟩:=GP T hr;rw [hrn] at g1;exact ⟨a,EB q g1,g1⟩
  ·have:=K2.mp hb _ hm;refine e02 (au this) λhc b7=>?_;refine e02 (au hc) λhc b6=>?_;refine e02 (au hc) λhc b5=>?_;refine e02 (au hc) λhc b4=>?_;refine e02 (au hc) λhc b3=>?_;refine e02 (au hc) λb1 b2=>?_;have no:∀{l:List Str},(!l.contains x')=aT->x'∉l:=λq hx=>by
    have q:=lR q;rw [KL.mpr hx] at q;exact tf q
   refine ⟨T.free x' (no b1) (no b2) (no b3) (no b4) (no b5),?_⟩;rw [T.builtins x' λe=>by
    have q:=lR b6;rw [beq_iff_eq.mpr e] at q;exact tf q]
   refine e12 (ah b7) λu h1 h2=>?_;exact h1.trans (congrArg J (GM h2).symm)
  ·obtain ⟨ce,q,rfl⟩:=EQ.mp e;refine e22 (hcm k ce q) λK N h1 _=>?_;refine ⟨K,?_,h1⟩;show (match t.ct.lookup k with
    | some e=>eM (mg e.1)
    | none=>bY)=J K
   rw [q];show eM (mg ce.1)=J K;rw [h1];rfl
  ·exact GN XF e
 refine ⟨⟨λf k x e=>?_,λk x e=>?_,rfl⟩,λf d a hP e=>?_⟩
 ·obtain ⟨⟨k',x',ns,d⟩,q,e⟩:=EQ.mp e;obtain ⟨rfl,rfl⟩:=Ot e;obtain ⟨h0,ce,hce,c,hc,hn,m,hm,hmn,_⟩:=qp hm q;refine e22 (n5 TE hcm hce hc hn) λK N _ P=>?_;obtain ⟨a',o,pm,cd,doc,h1,h2,h3,_⟩:=P.meths m hm;rw [hmn] at h1;exact ⟨a',Jb h0 q h1,h1,o,h2,h3⟩
 ·replace e:(match t.ct.lookup k with
   | some e=>e.2.contains x
   | none=>Z)=aT:=e
  cases q:t.ct.lookup k with
  | none=>rw [q] at e;exact ff e
  | some ce=>
   rw [q] at e;refine e13 (EA hct q) λc hc hn hq=>?_;refine e22 (n5 TE hcm q hc hn) λK' N _ P=>?_;exact P.quiet _ (AT _ (hq x e))
 ·replace hP:(fnP t.tab f).or (mtP t.mt f)=J d:=hP;unfold fnP mtP at hP
  rcases zS e with ⟨x,ns,d',e1,e2⟩ | ⟨e0,k,x,ns,d',e1,e2⟩
  ·rw [e1] at hP;obtain rfl:d'=d:=By hP;refine e13 (tZ hchk e1) λr hr hrn hc=>?_;exact zU (C:=fS prog w h t mg cm) (GP T hr) (by rw [hrn];exact e2) hc hG
  ·rw [e0,e1] at hP;obtain rfl:d'=d:=By hP;obtain ⟨_,ce,hce,c,hc,hn,m,hm,hmn,hck⟩:=qp hm e1;refine e22 (n5 TE hcm hce hc hn) λK N _ P=>?_;exact zU (C:=fS prog w h t mg cm) (zR P hm) (by rw [hmn];exact e2) hck hG
theorem GR (W:Well P h (.ref a) (.list xs))(hl:h.IsList a vs.toArray)(hI:IntsAre vs is)(hz:is.length<=line) :
  Rep (fS prog w h t mg cm) ρ h' (.scr is) (.ref a):=by
 cases W with
 | @list _ us _ e _=>
  obtain ⟨o,e',hc,n,hd⟩:=hl;obtain rfl:=same e e';simp only [Data.seq.injEq] at hd;have:us=vs:=by simpa using hd.1
  subst this;exact .scr e hI hz
theorem zV (T:Top p loose mean mg mb h)(TE:TopE p loose mg h)(XF:gN t.xs mg h)(hcm:zQ t mg h cm)(hi:importsNone p=aT)(hchk:rP (recsOf p) t=aT)(hm:nY (plainsOf p loose) t=aT)(hct:rQ (plainsOf p loose) t=aT)(hb:Ez p loose=aT)
  (hgl:∀g x v,t.gl g=J (x,v)->∃u,mg x=J u/\∀ρ h',h.StaysIn h'->Rep (fS prog w h t mg cm) ρ h' v u)
  (hs:s.heap=h) (hg:s.gens=#[]) (hf:t.tab.lookup f=J (x,ns,d)) (hmg:mg x=J (.ref fa)) (hd:d.args=1)
  (hr:Rep (fS prog w h t mg cm) [] h (.scr is) (.ref a)) (hlaw:∀K:KT,aD t.P K->aA K 600 d.body (fin λv _=>v=.bool aT) (λ_ _=>False) (ec d [.scr is] []))
  (hQ:∀s',(∀b o,h.get? b=J o->s'.heap.get? b=J o)->s'.os=s.os->s'.gens=#[]->Q (.bool aT) s'):BY (model prog w) callerA (call (.ref fa) [.ref a]) Q E s:=by
 subst hs;have G:GOk (fS prog w s.heap t mg cm):=Jc T TE XF hcm hi hchk hm hct;have H:vd (fS prog w s.heap t mg cm) t.sg t.P:=Jd T TE XF hcm hchk hm hct hb hgl;have hfa:(fS prog w s.heap t mg cm).fa f=J fa:=EB hf hmg;have hP:t.P f=J d:=by
  show (fnP t.tab f).or (mtP t.mt f)=J d;unfold fnP;rw [hf];rfl
 have hH:Hp (fS prog w s.heap t mg cm) [] [] s.heap:=⟨λb o e=>e,rfl,MT,λ_ h=>(by exact aO h),λi o a e=>(by simp at e)⟩
 refine Kq (pC (C:=fS prog w s.heap t mg cm) (X:=λ_ _=>False) G H hP (vs:=[.scr is]) (by rw [hd];rfl) (hlaw _ (GL G H)) (A:=callerA) (.inl rfl) hH hg (.cons hr .nil) (frs:=[]) ⟨[],rfl,λe he=>(by exact aO he)⟩ (λL hL=>(by exact aO hL)) (by show 1+300+601<=999;exact nb rfl) (by show 4<=3 * 301+4;exact nb rfl) hfa)
  (λv s' hr=>?_) λe s' hx=>GO hx
 obtain ⟨ρ',hp',y,st,hH',ry,hq⟩:=hr;subst hq
 cases ry
 exact hQ s' hH'.base st.os (st.gens.trans hg)
theorem zW {R:WRecords}{t:WTm}{c:WCtx}(h:WTm.value R t c=J (.bool aT)):WTm.holds R t c=aT:=by
 unfold WTm.holds;rw [h]
theorem xy (l:OpenLaw)(args ds:List WData):l.row.toRowW.claim.post args (.bool aT) ds=aT:=by
 show (WShape.has [] (.bool aT) .bool&&WTm.holds [] (.eq .res (.lit (.bool aT))) _)=aT;rw [IT];have e:W.same (PF aT) (PF aT)=aT:=by decide +kernel
 refine ⟨by decide +kernel,?_⟩;exact zW (congrArg (λb=>J (PF b)) e)
end
section
noncomputable def C0 (prog:Nz)(w:Mw)(h:KR)(t:mz)(mg:Str->Option DO)(cm:Nat->Str->Option DO)(x:Str)(v:MV):Prop:=∃u,mg x=J u/\∀ρ h',h.StaysIn h'->Rep (fS prog w h t mg cm) ρ h' v u
noncomputable def isI (o:Option PyData)(i:Int):Bool:=match o with
 | some (.int j)=>j==i
 | _=>Z
theorem GS (h:isI o i=aT):o=J (.int i):=by
 cases o with
 | none=>exact ff h
 | some d=>
  cases d with
  | int j=>exact congrArg (λj=>J (PyData.int j)) (eq_of_beq h)
  | _=>exact ff h
noncomputable def isT (o:Option PyData)(s:List Nat):Bool:=match o with
 | some (.str x)=>x.cps.toList==s
 | _=>Z
theorem GT (h:isT o s=aT):o=J (.str (str s)):=by
 cases o with
 | none=>exact ff h
 | some d=>
  cases d with
  | str x=>obtain rfl:=eq_of_beq h;rfl
  | _=>exact ff h
theorem n6 (T:Top p loose mean mg mb h)(e:isI (valOf p x) i=aT):C0 prog w h t mg cm x (.int i):=by
 obtain ⟨v,h1,h2⟩:=T.const x _ (GS e);refine ⟨v,h1,λρ h' _=>?_⟩
 cases h2 h'
 exact .int _ _
theorem zX (T:Top p loose mean mg mb h)(e:isT (valOf p x) s=aT)(hs:s.length<=line):C0 prog w h t mg cm x (.str s):=by
 refine e12 (T.const x _ (GT e)) λv h1 h2=>?_;refine ⟨v,h1,λρ h' _=>?_⟩
 cases h2 h'
 exact .str _ _ hs
theorem zY (B:Tables p w' mg h)(e:tupStrsOf p x=J (ss.map λs=>(str s:Str)))(hs:∀s∈ss,s.length<=line):C0 prog w h t mg cm x (.gt ss):=by
 obtain ⟨a,vs,h1,⟨o,h2,h3,n,h4⟩,h5⟩:=B.tupS x _ e;refine ⟨.ref a,h1,λρ h' _=>.gt h2 h3 h4 ?_⟩;clear e h1 h2 h3 h4
 induction ss generalizing vs with
 | nil=>cases h5;exact .nil
 | cons s ss ih=>
  cases h5 with
  | cons _ t r=>exact .cons (.str _ _ (hs s (IS ..))) (ih (λx hx=>hs x (IN _ hx)) _ r)
theorem C3 (T:Top p loose mean mg mb h)(y:lm x es prog w h):C0 prog w h t mg cm x (.cdict es):=by
 refine e35 y λmg' a kvs h1 h2 h3 h4 h5=>?_
 cases k9 h1 T.g
 exact ⟨.ref a,h2,λρ h' _=>.cdict h3 h4 h5⟩
end
end Internal
end
section
namespace Internal
open PySem
noncomputable abbrev vA:ME:=.cst (.int 1)
noncomputable abbrev vB:ME:=.cst (.int 0)
noncomputable abbrev vC:ME:=.var 0
noncomputable abbrev vD:ME:=.cst (.str [110,117,109,98,101,114])
noncomputable abbrev vE:ME:=.var 1
noncomputable abbrev vF:ME:=.cst (.str [115,101,116])
noncomputable abbrev vG:ME:=.cst (.str [110,97,109,101])
noncomputable abbrev vH:ME:=.cst (.int 2)
noncomputable abbrev vI:ME:=.var 2
noncomputable abbrev vJ:ME:=.cst (.str [115,107,105,112])
noncomputable abbrev vK:ME:=.cst (.str [119,104,105,108,101])
noncomputable abbrev vL:ME:=.var 3
noncomputable abbrev vM:ME:=.cst (.str [116,101,108,108])
noncomputable abbrev vN:ME:=.cst (.int 3)
noncomputable abbrev vO:ME:=.var 4
noncomputable abbrev vP:ME:=.cst (.int 5)
noncomputable abbrev vQ:ME:=.cst (.str [97,98,99,100,101,102,103,104,105,106,107,108,109,110,111,112,113,114,115,116,117,118,119,120,121,122])
noncomputable abbrev vR:ME:=.cst (.int 4)
noncomputable abbrev vS:ME:=.cst (.str [105,102])
noncomputable abbrev vT:ME:=.var 5
noncomputable abbrev vU:ME:=.cst (.bool Z)
noncomputable abbrev vV:ME:=.cst (.str [101,110,100])
noncomputable abbrev vW:ME:=.cst (.str [101,108,115,101])
noncomputable abbrev vX:ME:=.cst (.int 8)
noncomputable abbrev vY:ME:=.var 6
noncomputable abbrev vZ:ME:=.cst (.str [47])
noncomputable abbrev uA:ME:=.cst (.str [110,111,117,103,104,116])
noncomputable abbrev uB:ME:=.cst (.str [43])
noncomputable abbrev uC:ME:=.cst (.str [32])
noncomputable abbrev uD:ME:=.cst (.str [60])
noncomputable abbrev uE:ME:=.var 7
noncomputable abbrev uF:ME:=.cst (.int 10)
noncomputable abbrev uG:ME:=.cst (.bool aT)
noncomputable abbrev uH:ME:=.cst (.int 6)
noncomputable abbrev uI:ME:=.cst (.str [])
noncomputable abbrev uJ:ME:=.cst (.int 12)
noncomputable abbrev uK:ME:=.cst (.int 7)
noncomputable abbrev uL:ME:=.cst (.str [48])
noncomputable abbrev uM:ME:=.var 8
noncomputable abbrev uN:ME:=.cst (.int 15)
noncomputable abbrev sA (i:Nat) (e:ME):MSt:=.asg [i] Z e
noncomputable abbrev bA:=ME.bin .add
noncomputable abbrev bS:=ME.bin .sub
noncomputable abbrev bM:=ME.bin .mul
noncomputable abbrev bD:=ME.bin .fdiv
noncomputable abbrev bO:=ME.bin .mod
noncomputable abbrev cE:=ME.cmp .eq
noncomputable abbrev cN:=ME.cmp .ne
noncomputable abbrev cL:=ME.cmp .lt
noncomputable abbrev cG:=ME.cmp .gt
noncomputable abbrev cI:=ME.cmp .inn
noncomputable abbrev cJ:=ME.cmp .nin
noncomputable abbrev aP:=ME.mth .append
noncomputable abbrev eP:=MSt.expr
noncomputable abbrev iX:=ME.idx
noncomputable abbrev cC:=ME.call
noncomputable abbrev rT:=MSt.ret
noncomputable abbrev iT:=MSt.ite
noncomputable abbrev tP:=ME.tup
noncomputable abbrev lS:=ME.list
noncomputable abbrev bL:=ME.blt .len
noncomputable abbrev bI:=ME.blt .int
noncomputable abbrev vAa:ME:=iX (iX vC (.neg vA)) vH
noncomputable abbrev vAb:ME:=lS [vF,vM,vJ,vS,vW,vK,vV]
noncomputable abbrev vAc:ME:=cE (iX vC vB) vG
noncomputable abbrev vAd:ME:=cE (bL [vC]) vH
noncomputable abbrev vAe:ME:=.attr 0 vC [115,101,99,114,101,116,115]
noncomputable abbrev vAf:ME:=.attr 1 vC [110,117,109,98,101,114,115]
noncomputable abbrev vAg:ME:=cE (iX vC vB) vD
noncomputable abbrev vAh:ME:=cE (iX vC vB) vF
noncomputable abbrev vAi:ME:=cE (iX vE vB) vK
noncomputable abbrev vAj:ME:=bO (bD vL uN) vP
noncomputable abbrev vAk:ME:=bD vI (.cst (.int 500))
noncomputable abbrev vAl:ME:=.bin .pow uF uH
noncomputable abbrev vAm:ME:=bA vP (bO (bD vI (.cst (.int 120))) vP)
noncomputable abbrev vAn:ME:=.umth 0 66 [116,111,108,100] vC []
noncomputable abbrev vAo:ME:=.attr 0 vC [111,112,101,110,115]
noncomputable abbrev vAp:ME:=.attr 1 vC [116,117,114,110,115]
noncomputable def ik:Fn:=⟨2,2,[rT (.and [.isi vC [.int],.not (.isi vC [.bool]),.cmp2 .le .le vB vC vE])]⟩
noncomputable def kf:Fn:=⟨1,1,[rT (cC 22 [vC,bS (.glob 0 (.int 1000000)) vA])]⟩
noncomputable def jM:Fn:=⟨1,2,[iT (.or [.not (.isi vC [.str]),.not (.cmp2 .le .le vA (bL [vC]) (.glob 5 (.int 8))),cI vC (.glob 1 (.gt [[115,101,116],[116,101,108,108],[115,107,105,112],[105,102],[101,108,115,101],[119,104,105,108,101],[101,110,100]]))]) [rT vU] [],iT (cJ (iX vC vB) (.glob 3 (.str [97,98,99,100,101,102,103,104,105,106,107,108,109,110,111,112,113,114,115,116,117,118,119,120,121,122]))) [rT vU] [],.for_ [1] Z .val [vC] [iT (.and [cJ vE (.glob 3 (.str [97,98,99,100,101,102,103,104,105,106,107,108,109,110,111,112,113,114,115,116,117,118,119,120,121,122])),cJ vE (.glob 4 (.str [48,49,50,51,52,53,54,55,56,57]))]) [rT vU] []],rT uG]⟩
noncomputable def df:Fn:=⟨2,3,[iT (cG vE (.glob 6 (.int 12))) [.raise 4] [],iT (.or [.not (.isi vC [.tuple]),.not (.cmp2 .le .le vH (bL [vC]) vN),.not (.isi (iX vC vB) [.str])]) [.raise 3] [],iT vAd [sA 2 (.or [.and [cE (iX vC vB) vD,cC 23 [iX vC vA]],.and [cE (iX vC vB) vG,cC 24 [iX vC vA]]]),iT (.not vI) [.raise 3] [],rT (.cst .none)] [],iT (cJ (iX vC vB) (.glob 2 (.gt [[43],[45],[42],[47],[60],[61]]))) [.raise 3] [],eP (cC 55 [iX vC vA,bA vE vA]),eP (cC 55 [iX vC vH,bA vE vA])]⟩
noncomputable def eW:Fn:=⟨1,1,[iT vAg [rT (lS [])] [],iT vAc [rT (lS [iX vC vA])] [],rT (bA (cC 0 [iX vC vA]) (cC 0 [iX vC vH]))]⟩
noncomputable def lZ:Fn:=⟨1,1,[rT (.blt .sortedSet [cC 0 [vC]])]⟩
noncomputable def cg:Fn:=⟨1,2,[iT vAd [rT (lS [])] [],sA 1 (bA (cC 2 [iX vC vA]) (cC 2 [iX vC vH])),iT (cE (iX vC vB) vZ) [sA 1 (bA vE (cC 0 [iX vC vH]))] [],rT vE]⟩
noncomputable def il:Fn:=⟨1,1,[rT (.blt .sortedSet [cC 2 [vC]])]⟩
noncomputable def gO:Fn:=⟨1,1,[iT vAd [rT vU] [],rT (.or [cE (iX vC vB) vZ,cC 4 [iX vC vA],cC 4 [iX vC vH]])]⟩
noncomputable def pD:Fn:=⟨3,3,[iT (cE vC uB) [rT (bO (bA vE vI) (.glob 0 (.int 1000000)))] [],iT (cE vC (.cst (.str [45]))) [rT (bO (bS vE vI) (.glob 0 (.int 1000000)))] [],iT (cE vC (.cst (.str [42]))) [rT (bO (bM vE vI) (.glob 0 (.int 1000000)))] [],iT (cE vC uD) [rT (bI [cL vE vI])] [],iT (cE vC (.cst (.str [61]))) [rT (bI [cE vE vI])] [],iT (cE vI vB) [rT (.cst .none)] [],rT (bD vE vI)]⟩
noncomputable def ej:Fn:=⟨2,4,[iT vAg [rT (iX vC vA)] [],iT vAc [rT (iX vE (iX vC vA))] [],sA 2 (cC 18 [iX vC vA,vE]),sA 3 (cC 18 [iX vC vH,vE]),iT (.or [.isN aT vI,.isN aT vL]) [rT (.cst .none)] [],rT (cC 17 [iX vC vB,vI,vL])]⟩
noncomputable def l7:Fn:=⟨1,1,[rT (.isi vC [.list,.tuple])]⟩
noncomputable def dG:Fn:=⟨1,1,[iT (cE (iX vC vB) vS) [rT (lS [iX vC vH,iX vC vN])] [],iT (cE (iX vC vB) vK) [rT (lS [iX vC vH])] [],rT (lS [])]⟩
noncomputable def fU:Fn:=⟨1,1,[iT (cE (iX vC vB) vJ) [rT (.cst .none)] [],iT vAh [rT (iX vC vH)] [],rT (iX vC vA)]⟩
noncomputable def l8:Fn:=⟨1,2,[iT (.or [.not (.isi vC [.tuple]),cE (bL [vC]) vB,.not (.isi (iX vC vB) [.str])]) [rT vU] [],iT (.or [cJ (iX vC vB) (.glob 9 (.cdict [([115,101,116],3),([116,101,108,108],2),([115,107,105,112],1),([105,102],4),([119,104,105,108,101],3)])),cN (bL [vC]) (iX (.glob 9 (.cdict [([115,101,116],3),([116,101,108,108],2),([115,107,105,112],1),([105,102],4),([119,104,105,108,101],3)])) (iX vC vB))]) [rT vU] [],iT (.and [cE (iX vC vB) vF,.not (cC 24 [iX vC vA])]) [rT vU] [],rT (.blt .all [.comp (cC 56 [vE]) [1] Z .val [cC 25 [vC]] []])]⟩
noncomputable def kg:Fn:=⟨2,4,[.for_ [2] Z .val [vC] [iT (.not (cC 57 [vI])) [.raise 3] [],iT (cG vE (.glob 7 (.int 8))) [.raise 4] [],iT (cN (iX vI vB) vJ) [eP (cC 55 [cC 26 [vI],vA])] [],.for_ [3] Z .val [cC 25 [vI]] [eP (cC 58 [vL,bA vE vA])]]]⟩
noncomputable def jv:Fn:=⟨2,3,[iT (.not (cC 56 [vC])) [.raise 1] [],.for_ [2] Z .val [vC] [iT (.not (cC 24 [vI])) [.raise 1] [],iT (cI vI vE) [.raise 2] [],eP (aP vE [vI])]]⟩
noncomputable def n7:Fn:=⟨1,3,[sA 1 (lS []),.for_ [2] Z .val [vC] [iT (cE (iX vI vB) vS) [eP (aP vE [tP [iX vI vB,iX vI vA,cC 60 [iX vI vH],cC 60 [iX vI vN]]])] [iT (cE (iX vI vB) vK) [eP (aP vE [tP [iX vI vB,iX vI vA,cC 60 [iX vI vH]]])] [eP (aP vE [vI])]]],rT (.blt .tuple [vE])]⟩
noncomputable def l9:Fn:=⟨3,8,[sA 3 (lS []),sA 4 vE,.for_ [5] Z .val [vC] [eP (aP vL [tP [vO,vT,vI]]),sA 4 (bA vO vA),.for_ [6] Z .val [cC 25 [vT]] [sA 7 (cC 61 [vY,vO,bA vI (tP [iX vT vA])]),eP (.mth .extend vL [uE]),sA 4 (bA vO (bL [uE]))]],rT vL]⟩
noncomputable def md:Fn:=⟨1,2,[sA 1 (lS []),iT vAh [eP (aP vE [iX vC vA])] [],iT (cN (iX vC vB) vJ) [eP (.mth .extend vE [cC 1 [cC 26 [vC]]])] [],rT vE]⟩
noncomputable def eN:Fn:=⟨4,6,[sA 4 (lS []),eP (cC 59 [vE,vO]),sA 5 (bL [vO]),eP (cC 59 [vI,vO]),iT (.not (cC 56 [vL])) [.raise 3] [],eP (cC 58 [vL,vA]),.setAttr 0 vC [111,112,101,110,115] (.sl vO bY (J vT)),.setAttr 0 vC [115,101,99,114,101,116,115] (.sl vO (J vT) bY),.setAttr 0 vC [114,111,119,115] (cC 60 [vL])]⟩
noncomputable def gj:Fn:=⟨1,5,[sA 1 (bA vAo vAe),.for_ [2,3,4] aT .val [cC 61 [.attr 0 vC [114,111,119,115],vA,tP []]] [sA 1 (bA vE (cC 62 [vL]))],rT (.blt .sortedSet [vE])]⟩
noncomputable def g6:Fn:=⟨2,2,[iT (cI vE vAo) [rT (.cst (.str [111,112,101,110]))] [],iT (cI vE vAe) [rT (.cst (.str [115,101,99,114,101,116]))] [],rT (.cst (.str [102,114,101,101]))]⟩
noncomputable def g7:Fn:=⟨1,1,[rT (tP [.blt .list [.attr 0 vC [111,112,101,110,115]],.blt .list [.attr 0 vC [115,101,99,114,101,116,115]]])]⟩
noncomputable def gk:Fn:=⟨1,1,[rT (.attr 0 vC [114,111,119,115])]⟩
noncomputable def im:Fn:=⟨1,3,[sA 1 (lS []),.for_ [2] Z .val [vC] [eP (.mth .extend vE [cC 1 [vI]])],rT vE]⟩
noncomputable def jw:Fn:=⟨2,3,[sA 2 (cC 101 [vE]),iT (cN (iX vC vB) vJ) [sA 2 (bA vI (cC 1 [cC 26 [vC]]))] [],rT (.blt .sortedSet [vI])]⟩
noncomputable def rS:Fn:=⟨1,6,[sA 1 (lS []),.for_ [2,3,4] aT .val [cC 61 [.umth 0 67 [98,108,111,99,107] vC [],vA,tP []]] [iT (cE (iX vL vB) vF) [eP (.mth .extend vE [.comp (tP [vI,vT,iX vL vA]) [5] Z .val [cC 102 [vL,vO]] []])] []],rT vE]⟩
noncomputable def kh:Fn:=⟨1,9,[sA 1 .dict0,sA 2 (lS []),.for_ [3] Z .val [iX vAn vA] [.setIdx vE vL (lS [tP [vB,vL]]),eP (aP vI [vL])],sA 4 (cC 103 [vC]),sA 5 vB,.while_ (cL vT (bL [vI])) [sA 6 (iX vI vT),sA 5 (bA vT vA),.for_ [7,8,3] aT .val [vO] [iT (.and [cE uM vY,cJ vL vE,cE (.umth 0 65 [107,105,110,100] vC [vL]) (.cst (.str [102,114,101,101]))]) [.setIdx vE vL (bA (iX vE vY) (lS [tP [uE,vL]])),eP (aP vI [vL])] []]],rT vE]⟩
noncomputable def fN:Fn:=⟨3,4,[sA 3 (lS []),iT (.and [cE (iX vE vB) vF,cE (.umth 0 65 [107,105,110,100] vC [iX vE vA]) (.cst (.str [111,112,101,110]))]) [eP (aP vL [tP [vF,cC 102 [vE,vI]]])] [],iT (cE (iX vE vB) vM) [eP (aP vL [tP [vM,cC 102 [vE,vI]]])] [],iT vAi [eP (aP vL [tP [.cst (.str [116,117,114,110]),cC 102 [vE,vI]]])] [],iT (.and [cN (iX vE vB) vJ,cC 4 [cC 26 [vE]]]) [eP (aP vL [tP [uA,bA (cC 3 [cC 26 [vE]]) (cC 101 [vI])]])] [],rT vL]⟩
noncomputable def mf:Fn:=⟨2,4,[sA 2 (.cst .none),.for_ [3] Z .val [vE] [iT (.and [cI vL vC,.or [.isN aT vI,cL (bL [iX vC vL]) (bL [vI])]]) [sA 2 (iX vC vL)] []],rT vI]⟩
noncomputable def pE:Fn:=⟨1,9,[sA 1 (cC 104 [vC]),.for_ [2,3,4] aT .val [cC 61 [.umth 0 67 [98,108,111,99,107] vC [],vA,tP []]] [.for_ [5,6] aT .val [cC 111 [vC,vL,vO]] [sA 7 (cC 112 [vE,vY]),iT (.isN Z uE) [sA 8 uI,iT (cE vT vF) [sA 8 (iX vL vA)] [],rT (tP [vT,bA uE (lS [tP [vI,uM]])])] []]],rT (.cst .none)]⟩
noncomputable def dg:Fn:=⟨1,1,[iT vAd [rT (.blt .str [iX vC vA])] [],rT (bA (bA (bA (bA (iX vC vB) uC) (cC 27 [iX vC vA])) uC) (cC 27 [iX vC vH]))]⟩
noncomputable def dH:Fn:=⟨1,4,[iT (cE (iX vC vB) vJ) [rT (lS [vJ])] [],iT vAh [rT (lS [bA (bA (bA (.cst (.str [115,101,116,32])) (iX vC vA)) uC) (cC 27 [iX vC vH])])] [],sA 1 (lS [bA (bA (iX vC vB) uC) (cC 27 [cC 26 [vC]])]),sA 2 (cC 25 [vC]),.for_ [3] Z .range1 [bL [vI]] [iT (cG vL vB) [eP (aP vE [vW])] [],eP (.mth .extend vE [cC 29 [iX vI vL]])],iT (cN vI (lS [])) [eP (aP vE [vV])] [],rT vE]⟩
noncomputable def n8:Fn:=⟨1,3,[sA 1 (lS []),.for_ [2] Z .val [vC] [eP (.mth .extend vE [cC 28 [vI]])],rT vE]⟩
noncomputable def jN:Fn:=⟨1,3,[iT (cC 24 [vC]) [rT (tP [vG,vC])] [],iT (.or [.not (.cmp2 .le .le vA (bL [vC]) (.glob 8 (.int 6))),.and [cE (iX vC vB) uL,cN vC uL]]) [.raise 7] [],.for_ [1] Z .val [vC] [iT (cJ vE (.glob 4 (.str [48,49,50,51,52,53,54,55,56,57]))) [.raise 7] []],sA 2 (bI [vC]),iT (.not (cC 23 [vI])) [.raise 7] [],rT (tP [vD,vI])]⟩
noncomputable def eE:Fn:=⟨3,8,[iT (.or [.cmp .ge vE (bL [vC]),cG vI (.glob 6 (.int 12))]) [.raise 7] [],sA 3 (iX vC vE),iT (cJ vL (.glob 2 (.gt [[43],[45],[42],[47],[60],[61]]))) [rT (tP [cC 30 [vL],bA vE vA])] [],.asg [4,5] aT (cC 31 [vC,bA vE vA,bA vI vA]),.asg [6,7] aT (cC 31 [vC,vT,bA vI vA]),rT (tP [tP [vL,vO,vY],uE])]⟩
noncomputable def gm:Fn:=⟨1,3,[.asg [1,2] aT (cC 31 [vC,vB,vA]),iT (cN vI (bL [vC])) [.raise 7] [],rT vE]⟩
noncomputable def ki:Fn:=⟨3,3,[iT (.or [.cmp .ge vE (bL [vC]),cN (iX vC vE) vI]) [.raise 7] []]⟩
noncomputable def cH:Fn:=⟨3,10,[iT (cG vI (.glob 7 (.int 8))) [.raise 7] [],sA 3 (.mth .split (iX vC vE) [uC]),iT (cE vL (lS [vJ])) [rT (tP [tP [vJ],bA vE vA])] [],iT (.and [cE (iX vL vB) vF,cG (bL [vL]) vA,cC 24 [iX vL vA]]) [rT (tP [tP [vF,iX vL vA,cC 32 [.sl vL (J vH) bY]],bA vE vA])] [],iT (cE (iX vL vB) vM) [rT (tP [tP [vM,cC 32 [.sl vL (J vA) bY]],bA vE vA])] [],iT (cE (iX vL vB) vK) [sA 4 (cC 32 [.sl vL (J vA) bY]),.asg [5,6] aT (cC 35 [vC,bA vE vA,bA vI vA]),eP (cC 33 [vC,vY,vV]),rT (tP [tP [vK,vO,vT],bA vY vA])] [],iT (cN (iX vL vB) vS) [.raise 7] [],sA 4 (cC 32 [.sl vL (J vA) bY]),.asg [7,8] aT (cC 35 [vC,bA vE vA,bA vI vA]),eP (cC 33 [vC,uM,vW]),.asg [9,6] aT (cC 35 [vC,bA uM vA,bA vI vA]),eP (cC 33 [vC,vY,vV]),rT (tP [tP [vS,vO,uE,.var 9],bA vY vA])]⟩
noncomputable def jx:Fn:=⟨3,5,[sA 3 (lS []),.while_ (.and [cL vE (bL [vC]),cN (iX vC vE) vW,cN (iX vC vE) vV]) [.asg [4,1] aT (cC 34 [vC,vE,vI]),eP (aP vL [vO])],rT (tP [.blt .tuple [vL],vE])]⟩
noncomputable def ve:Fn:=⟨1,3,[.asg [1,2] aT (cC 35 [vC,vB,vA]),iT (cN vI (bL [vC])) [.raise 7] [],rT vE]⟩
noncomputable def fj:Fn:=⟨2,6,[.asg [2,3] aT vAn,sA 4 (bA vI vL),iT (.or [.not (.isi vE [.dict]),cN (bL [vE]) (bL [vO])]) [.raise 5] [],.for_ [5] Z .val [vO] [iT (.or [cJ vT vE,.not (cC 23 [iX vE vT])]) [.raise 5] []]]⟩
noncomputable def eO:Fn:=⟨4,5,[.setAttr 1 vC [110,117,109,98,101,114,115] .dict0,.for_ [4] Z .val [.umth 0 64 [110,97,109,101,115] vE []] [.setIdx vAf vO (.mth .get vI [vO,vB])],.setAttr 1 vC [116,117,114,110,115] vL,.setAttr 1 vC [115,97,105,100] (lS [])]⟩
noncomputable def dh:Fn:=⟨3,6,[sA 3 vI,.for_ [4] Z .val [vE] [sA 5 (.umth 1 85 [100,111,95,114,111,119] vC [vO,vL]),iT (.isN Z vT) [rT vT] [],sA 3 (bA vL (bL [cC 61 [tP [vO],vA,tP []]]))],rT (.cst .none)]⟩
noncomputable def bK:Fn:=⟨3,4,[iT (cE (iX vE vB) vJ) [rT (.cst .none)] [],iT vAi [rT (.umth 1 86 [100,111,95,108,111,111,112] vC [vE,vI])] [],sA 3 (cC 18 [cC 26 [vE],.attr 1 vC [110,117,109,98,101,114,115]]),iT (.isN aT vL) [rT (tP [uA,vI])] [],iT (cE (iX vE vB) vF) [.setIdx vAf (iX vE vA) vL] [iT (cE (iX vE vB) vM) [eP (aP (.attr 1 vC [115,97,105,100]) [vL])] [iT (cN vL vB) [rT (.umth 1 84 [100,111,95,114,111,119,115] vC [iX vE vH,bA vI vA])] [rT (.umth 1 84 [100,111,95,114,111,119,115] vC [iX vE vN,bA (bA vI vA) (bL [cC 61 [iX vE vH,vA,tP []]])])]]],rT (.cst .none)]⟩
noncomputable def di:Fn:=⟨3,5,[.while_ uG [sA 3 (cC 18 [iX vE vA,.attr 1 vC [110,117,109,98,101,114,115]]),iT (.isN aT vL) [rT (tP [uA,vI])] [],iT (cE vL vB) [rT (.cst .none)] [],iT (cE vAp vB) [rT (tP [.cst (.str [116,105,114,101,100]),vI])] [],.setAttr 1 vC [116,117,114,110,115] (bS vAp vA),sA 4 (.umth 1 84 [100,111,95,114,111,119,115] vC [iX (cC 25 [vE]) vB,bA vI vA]),iT (.isN Z vO) [rT vO] []]]⟩
noncomputable def t0:Fn:=⟨3,7,[eP (cC 82 [vC,vE]),iT (.not (cC 22 [vI,.glob 10 (.int 1000)])) [.raise 6] [],sA 3 (.new 1 83 [vC,vE,vI]),sA 4 (.umth 1 84 [100,111,95,114,111,119,115] vL [.umth 0 67 [98,108,111,99,107] vC [],vA]),iT (.isN aT vO) [sA 4 (tP [.cst (.str [100,111,110,101]),vB])] [],sA 5 (.comp (tP [vY,iX (.attr 1 vL [110,117,109,98,101,114,115]) vY]) [6] Z .val [.umth 0 64 [110,97,109,101,115] vC []] []),rT (tP [iX vO vB,iX vO vA,vT,.attr 1 vL [115,97,105,100]])]⟩
noncomputable def iq:Fn:=⟨2,2,[iT (cL vE (bL [vC])) [rT (iX vC vE)] [],rT vB]⟩
noncomputable def kj:Fn:=⟨1,1,[rT (bO (bA (bM vC (.cst (.int 48271))) (.cst (.int 7919))) (.cst (.int 2147483647)))]⟩
noncomputable def ir:Fn:=⟨1,4,[sA 1 (iX vQ (bO (bD vC vX) (.cst (.int 26)))),sA 2 vC,.for_ [3] Z .range1 [bO vC vX] [sA 2 (cC 6 [vI]),sA 1 (bA vE (iX (.cst (.str [97,98,99,100,101,102,103,104,105,106,107,108,109,110,111,112,113,114,115,116,117,118,119,120,121,122,48,49,50,51,52,53,54,55,56,57])) (bO vI (.cst (.int 36)))))],iT (cI vE vAb) [rT (bA vE uL)] [],rT vE]⟩
noncomputable def iu:Fn:=⟨2,6,[sA 2 vQ,sA 3 (bO vE (bL [vC])),iT (cG vL vB) [sA 2 (bA vI (.cst (.str [48,49,50,51,52,53,54,55,56,57])))] [],sA 4 (bA (bA (.mth .find vI [iX vC vL]) vA) (bO (bD vE vX) (bS (bL [vI]) vA))),sA 5 (bA (bA (.sl vC bY (J vL)) (iX vI (bO vO (bL [vI])))) (.sl vC (J (bA vL vA)) bY)),iT (cI vT vAb) [rT (bA vT uL)] [],rT vT]⟩
noncomputable def gP:Fn:=⟨2,5,[sA 2 (lS []),.for_ [3] Z .range1 [uF] [sA 0 (cC 6 [vC]),sA 4 (cC 7 [bD vC vP]),iT (.and [cE (bO vL vH) vA,cE (bO (bD vE vR) vH) vA]) [sA 4 (cC 8 [iX vI (bS vL vA),cC 6 [bA vE vL]])] [],.while_ (.or [cI vO vI,cI vO vAb]) [sA 4 (bA (.sl vO bY (J uK)) (iX vQ (bO (bA (bA vE (bL [vO])) vL) (.cst (.int 26))))),sA 1 (bA vE vP)],eP (aP vI [vO])],rT vI]⟩
noncomputable def fV:Fn:=⟨2,2,[iT (.and [cN vE (lS []),cG (bO vC vN) vB]) [rT (tP [vG,iX vE (bO (bD vC vN) (bL [vE]))])] [],iT (cE (bO (bD vC vN) vR) vB) [rT (tP [vD,bO (bD vC uJ) vAl])] [],rT (tP [vD,bO (bD vC uJ) vP])]⟩
noncomputable def dI:Fn:=⟨5,7,[sA 0 (cC 6 [vC]),iT (.or [cE vO vA,cL (bO vC vX) vN]) [rT (cC 10 [bD vC vX,vE])] [],sA 5 (iX (lS [uB,.cst (.str [45]),.cst (.str [42]),uD,.cst (.str [61]),uB,.cst (.str [45]),uD,vZ,vZ]) (bO (bD vC vX) (iX (lS [vX,uF]) (bI [vL])))),sA 6 (cC 11 [bA (bM vC vN) vA,vE,vI,vL,bS vO vA]),iT (.and [cE vT vZ,cL (bO (bD vC (.cst (.int 80))) vR) vN]) [rT (tP [vT,vY,tP [vD,bA vA (bO (bD vC (.cst (.int 320))) (.cst (.int 9)))]])] [],iT (cE vT vZ) [rT (tP [vT,vY,cC 11 [bA (bM vC vP) vH,vI,vI,vL,bS vO vA]])] [],rT (tP [vT,vY,cC 11 [bA (bM vC vP) vH,vE,vI,vL,bS vO vA]])]⟩
noncomputable def bk:Fn:=⟨1,1,[iT vAg [rT (lS [])] [],iT vAc [rT (lS [iX vC vA])] [],rT (bA (cC 37 [iX vC vA]) (cC 37 [iX vC vH]))]⟩
noncomputable def cq:Fn:=⟨4,8,[sA 4 (.sl vC bY (J vP)),sA 5 vC,iT (.or [.and [cE vL vB,cE (bO (bD vE uJ) vH) vB],.and [cE vL vH,vI,cG (bO (bD vE uJ) vN) vB]]) [sA 5 vO] [iT (cE vL vH) [sA 5 (.sl vC (J vP) bY)] []],iT (cG vL vB) [sA 4 vT] [],sA 6 (cC 11 [vE,vT,vO,.or [cG vL vB,.not vI],bA vA (bO (bD vE (.cst (.int 24))) vR)]),rT (tP [vY,cN (.comp uE [7] Z .val [cC 37 [vY]] [cI uE (.sl vC (J vP) bY)]) (lS [])])]⟩
noncomputable def fW:Fn:=⟨1,2,[sA 1 (.mth .pop vC []),iT vAi [iT (.and [cE (iX (iX vE vA) vB) uD,cE (iX (iX (iX vE vA) vA) vB) vG]) [eP (aP (iX vE vH) [tP [vF,iX (iX (iX vE vA) vA) vA,tP [uB,iX (iX vE vA) vA,tP [vD,vA]]]])] [],eP (aP vAa [tP [vK,iX vE vA,.blt .tuple [iX vE vH]]])] [iT (.isN aT (iX vE vR)) [eP (aP vC [lS [iX vE vB,iX vE vA,lS [],iX vE vN,.blt .tuple [iX vE vH]]])] [eP (aP vAa [tP [vS,iX vE vA,iX vE vR,.blt .tuple [iX vE vH]]])]]]⟩
noncomputable def gQ:Fn:=⟨4,11,[sA 4 (bO vI uJ),sA 5 (cN (.comp (.var 10) [10] Z .val [vC] [iX (.var 10) vN]) (lS [])),.asg [6,7] aT (cC 38 [vE,vI,vT,vL]),sA 8 (.and [cE vL vB,.or [vT,uE]]),iT (cE vL vH) [sA 4 (iX (lS [vB,vR,vX,vB]) (bO (bD vI uK) vR))] [],iT (cL vO vR) [sA 9 (iX (lS [vE,vE,iX (lS [.sl vE bY (J vP),.sl vE (J vP) bY]) (bI [cE (bO (bD vI uK) vR) vN])]) vL),iT uM [sA 9 (.sl vE (J vP) bY)] [],eP (aP vAa [tP [vF,iX (.var 9) (bO (bD vI (.cst (.int 96))) (bL [.var 9])),vY]])] [iT (.and [cE vO vR,.not uM]) [eP (aP vAa [tP [vM,vY]])] [iT (cE vO vP) [eP (aP vAa [tP [vJ]])] [iT (.and [cL vO vX,cL (bL [vC]) vX]) [eP (aP vC [lS [vS,vY,lS [],uE,.cst .none]])] [iT (.and [cL vO uF,cL (bL [vC]) vX,.not uM]) [iT (.and [cE vL vB,cG (bO (bD vI (.cst (.int 96))) vR) vB]) [sA 6 (tP [uD,tP [vG,iX vE (bO (bD vI (.cst (.int 384))) vP)],tP [vD,bA vA (bO (bD vI (.cst (.int 1920))) vR)]])] [],eP (aP vC [lS [vK,vY,lS [],uE,.cst .none]])] [iT (cG (bL [vC]) vA) [eP (cC 39 [vC])] []]]]]]]⟩
noncomputable def eH:Fn:=⟨3,8,[sA 3 (lS [lS [uI,.cst .none,lS [],vU,.cst .none]]),.for_ [4,5] aT .enum [vC] [sA 6 (cC 6 [bM (cC 6 [bA vT (bM (.cst (.int 131)) vO)]) (bA vO vH)]),sA 7 vB,iT (.and [cE vI vA,cE (bO (bD vY (.cst (.int 4096))) vR) vB]) [sA 7 vA] [],iT (.and [cG vI vA,cE vO (bO vI (bL [vC]))]) [sA 7 vH] [],eP (cC 40 [vL,vE,vY,uE])],.while_ (cG (bL [vL]) vA) [eP (cC 39 [vL])],rT (iX (iX vL vB) vH)]⟩
noncomputable def jy:Fn:=⟨1,1,[iT vAh [rT (lS [])] [],rT (.blt .list [.sl vC (J vH) bY])]⟩
noncomputable def iw:Fn:=⟨1,1,[iT (cE (iX vC vB) vJ) [rT (tP [vD,vB])] [],rT (iX vC (bA vA (bI [cE (iX vC vB) vF])))]⟩
noncomputable def jz:Fn:=⟨3,5,[.for_ [3] Z .val [vC] [eP (aP vI [tP [vL,vE]]),.for_ [4] Z .val [cC 72 [vL]] [eP (cC 107 [vO,bA vE (cC 37 [cC 106 [vL]]),vI])]],rT vI]⟩
noncomputable def jA:Fn:=⟨2,7,[sA 2 (.blt .list [iX vC vA]),sA 3 uG,.while_ vL [sA 3 vU,.for_ [4,5] aT .val [vE] [iT (.and [cE (iX vO vB) vF,cJ (iX vO vA) (bA (iX vC vB) vI)]) [iT (cN (.comp vY [6] Z .val [bA (cC 37 [iX vO vH]) vT] [cI vY vI]) (lS [])) [eP (aP vI [iX vO vA]),sA 3 uG] []] []]],rT vI]⟩
noncomputable def cp:Fn:=⟨2,2,[iT (.or [cE (iX vC vB) vD,.and [cE (iX vC vB) vG,.not vE]]) [rT (lS [])] [],iT vAc [rT (lS [iX vC vA])] [],rT (bA (cC 114 [iX vC vA,vE]) (cC 114 [iX vC vH,.or [vE,cE (iX vC vB) vZ]]))]⟩
noncomputable def bU:Fn:=⟨1,1,[iT vAd [rT vU] [],rT (.or [cE (iX vC vB) vZ,cC 115 [iX vC vA],cC 115 [iX vC vH]])]⟩
noncomputable def ci:Fn:=⟨4,11,[sA 4 (cC 106 [vE]),sA 5 (lS []),sA 6 (.comp uM [8] Z .val [bA (cC 37 [vO]) vI] [cI uM vL]),iT (.and [cE (iX vE vB) vF,cI (iX vE vA) (iX vC vB)]) [eP (aP vT [tP [vF,iX vE vA,vY]])] [],iT (cE (iX vE vB) vM) [eP (aP vT [tP [vM,uI,vY]])] [],iT vAi [eP (aP vT [tP [.cst (.str [116,117,114,110]),uI,vY]])] [],iT (cC 115 [vO]) [sA 7 (.comp (.var 9) [9] Z .val [bA (cC 114 [vO,vU]) vI] [cI (.var 9) vL]),eP (aP vT [tP [uA,uI,uE]])] [],iT (cE (iX vE vB) vJ) [rT (lS [])] [],rT (.comp (.var 10) [10] Z .val [vT] [cN (iX (.var 10) vH) (lS [])])]⟩
noncomputable def kl:Fn:=⟨3,6,[.for_ [3,4] aT .enum [vE] [sA 5 (cC 116 [vC,iX vO vB,iX vO vA,vI]),iT (cN vT (lS [])) [rT (bA (tP [bA vL vA]) (iX vT vB))] []],rT (.cst .none)]⟩
noncomputable def jB:Fn:=⟨3,7,[sA 3 .dict0,.for_ [4,5] aT .enum [vI] [sA 6 (cC 6 [cC 5 [vC,bA vE vO]]),.setIdx vL vT (iX (lS [bO (bD vY vX) vR,bO (bD vY vX) vAl]) (bI [cG (bO vY vX) vP]))],rT vL]⟩
noncomputable def fO:Fn:=⟨1,1,[iT vAg [rT (.blt .str [iX vC vA])] [],iT vAc [rT (iX vC vA)] [],rT (bA (bA (bA (bA (iX vC vB) uC) (cC 42 [iX vC vA])) uC) (cC 42 [iX vC vH]))]⟩
noncomputable def gR:Fn:=⟨1,3,[sA 1 (lS []),.for_ [2] Z .val [vC] [iT (cE (iX vI vB) vF) [eP (aP vE [bA (bA (bA (.cst (.str [115,101,116,32])) (iX vI vA)) uC) (cC 42 [iX vI vH])])] [iT (cE (iX vI vB) vJ) [eP (aP vE [vJ])] [eP (aP vE [bA (bA (iX vI vB) uC) (cC 42 [iX vI vA])])]],iT (cE (iX vI vB) vS) [sA 1 (bA (bA (bA (bA vE (cC 43 [iX vI vH])) (lS [vW])) (cC 43 [iX vI vN])) (lS [vV]))] [],iT (cE (iX vI vB) vK) [sA 1 (bA (bA vE (cC 43 [iX vI vH])) (lS [vV]))] []],rT vE]⟩
noncomputable def iz:Fn:=⟨3,6,[iT (.or [cN (iX vC vB) (iX vE vB),cN (iX vC vA) (iX vE vA),cN (iX vC vN) (iX vE vN)]) [rT vU] [],sA 3 (.comp vO [4] Z .val [iX vC vH] [cJ (iX vO vB) vI]),rT (cE vL (.comp vT [5] Z .val [iX vE vH] [cJ (iX vT vB) vI]))]⟩
noncomputable def cK:Fn:=⟨4,8,[sA 4 (iX vC (bO vL vP)),sA 5 (iX (lS [tP [vG,vI],tP [uB,tP [vG,vO],tP [vG,vI]],tP [uD,tP [vG,vI],tP [vD,vH]]]) (bO (bD vL vP) vN)),sA 6 (tP [vF,vO,tP [uB,tP [vG,vO],tP [vD,vA]]]),iT (cE vE vB) [rT (tP [vF,iX vC vAj,vT])] [],iT (cE vE vA) [rT (tP [vM,vT])] [],iT (cE vE vH) [rT (tP [vK,tP [uD,tP [vG,vI],tP [vD,vN]],tP [tP [vF,vI,tP [uB,tP [vG,vI],tP [vD,vA]]]]])] [],iT (cE vE vN) [rT (tP [vF,iX vC (bA vP vAj),tP [vZ,tP [vD,uK],vT]])] [],sA 7 (iX (lS [tP [vF,iX vC vAj,tP [uB,tP [vG,vO],tP [vD,vA]]],tP [vM,tP [vG,vO]]]) (bO vE vH)),iT (cE vE uH) [sA 7 (tP [vK,tP [uD,tP [vG,vO],tP [vD,vN]],tP [vY]])] [],iT (cE vE uK) [sA 7 (tP [vF,iX vC (bA vP vAj),tP [vZ,tP [vG,vO],tP [vD,bO (bD vL (.cst (.int 75))) vH]]])] [],rT (tP [vS,vT,iX (lS [tP [uE],tP []]) (bO (bD vL (.cst (.int 150))) vH),iX (lS [tP [uE],tP []]) (bS vA (bO (bD vL (.cst (.int 150))) vH))])]⟩
noncomputable def bm:Fn:=⟨3,7,[sA 3 (iX vC (bA vP (bO (bD vI (.cst (.int 24))) vP))),sA 4 (lS []),iT (cE (bO vI vN) vA) [eP (aP vO [tP [vF,iX vC vAm,tP [uB,tP [vG,vL],tP [vD,vA]]]]),sA 3 (iX vC vAm)] [],sA 5 (cC 123 [vC,bO (bD vI vN) vX,vL,cC 6 [vI]]),iT (.or [cE (bO vAk vN) vA,cE (bO vAk uH) vH]) [sA 5 (tP [vS,tP [.cst (.str [61]),tP [vG,iX vC vB],tP [vG,iX vC vB]],tP [vT],tP [tP [vJ]]])] [],sA 6 (bO (bD vI (.cst (.int 1500))) (bA (bL [vE]) vA)),iT (cG (bO vAk vN) vB) [sA 6 vB] [],rT (bA (bA (bA (.sl vE bY (J vY)) vO) (lS [vT])) (.sl vE (J vY) bY))]⟩
noncomputable def km:Fn:=⟨4,7,[sA 4 (cC 5 [vC,vH]),sA 5 (cC 41 [.sl vC (J vE) (J vI),vL,bI [cE (bO vO vR) vN]]),iT (.or [cE (bO vO vR) vA,cE (bO vO vR) vH]) [sA 6 (bA (bA (bD vO vR) (bM (.cst (.int 1009)) (bO (cC 5 [vC,vB]) vAl))) (bM (.cst (.int 31)) (bO (cC 5 [vC,vA]) vAl))),rT (cC 124 [vL,vT,cC 6 [cC 6 [vY]]])] [],rT vT]⟩
noncomputable def iA:Fn:=⟨2,8,[sA 2 (iX (lS [vB,bO (bD vE vR) vN,bO (bD vE vR) (.cst (.int 20)),vB]) (bO vE vR)),sA 3 (lS [.comp (bA (.cst (.str [121,111])) (.blt .str [vO])) [4] Z .range1 [vI] [],.comp (bA (.cst (.str [121,115])) (.blt .str [vT])) [5] Z .range1 [bA vI (bO (bD vE vR) vH)] []]),rT (.comp (.comp uE [7] Z .val [vY] [cJ uE vC]) [6] Z .val [vL] [])]⟩
noncomputable def fP:Fn:=⟨3,8,[sA 3 (lS [.blt .list [iX vE vB],.blt .list [iX vE vA]]),sA 4 vI,.for_ [5,6] aT .enum [vC] [iT (cG (bO vO vN) vB) [eP (aP (iX vL (bD vT vP)) [vY])] [],sA 4 (bD vO vN)],sA 7 (lS [bO (bD vI (.cst (.int 27))) (.blt .max [vA,bL [iX vL vB]]),bO (bD vI (.cst (.int 189))) (.blt .max [vA,bL [iX vL vA]])]),rT (lS [bA (.sl (iX vL vB) (J (iX uE vB)) bY) (.sl (iX vL vB) bY (J (iX uE vB))),bA (.sl (iX vL vA) (J (iX uE vA)) bY) (.sl (iX vL vA) bY (J (iX uE vA)))])]⟩
noncomputable def bJ:Fn:=⟨1,15,[sA 1 (cC 9 [cC 5 [vC,vB],cC 5 [vC,vA]]),sA 2 (cC 95 [vE,cC 6 [cC 5 [vC,vA]]]),sA 3 (cC 96 [vE,vI,cC 6 [cC 5 [vC,vB]]]),sA 4 (cC 125 [vC,.cst (.int 14),.cst (.int 38),vE]),sA 5 (cC 43 [vO]),sA 6 (cC 36 [.blt .list [vT]]),iT (cN (cC 29 [vY]) vT) [rT vU] [],sA 7 (.new 0 63 [.blt .tuple [iX vL vB],.blt .tuple [iX vL vA],vY]),sA 8 (cC 107 [vO,lS [],lS []]),sA 9 (cC 108 [vL,uM]),sA 10 (.isN Z (cC 113 [uE])),iT (cN (.var 10) (.isN Z (cC 117 [vL,uM,.var 9]))) [rT vU] [],iT (.var 10) [rT uG] [],sA 11 (cC 89 [vC,vN,bA (iX vL vB) (iX vL vA)]),sA 12 (cC 89 [vC,.cst (.int 9),bA (iX vL vB) (iX vL vA)]),.for_ [13] Z .val [iX vL vA] [iT (cG (bO (cC 5 [vC,vA]) vR) vB) [.setIdx (.var 12) (.var 13) (iX (lS [vB,bA vA (bO (iX (.var 12) (.var 13)) vN)]) (bI [cE (iX (.var 11) (.var 13)) vB]))] []],.for_ [13] Z .val [iX vL vB] [.setIdx (.var 12) (.var 13) (iX (.var 11) (.var 13))],sA 14 (bO (cC 5 [vC,.cst (.int 13)]) (.cst (.int 26))),rT (cC 131 [cC 87 [uE,.var 11,.var 14],cC 87 [uE,.var 12,.var 14],.var 9])]⟩
noncomputable def gl:Nat->Option (Str × MV)
 | 0=>J ("MODULUS",(.int 1000000))
 | 1=>J ("WORDS",(.gt [[115,101,116],[116,101,108,108],[115,107,105,112],[105,102],[101,108,115,101],[119,104,105,108,101],[101,110,100]]))
 | 10=>J ("MOST_TURNS",(.int 1000))
 | 2=>J ("SIGNS",(.gt [[43],[45],[42],[47],[60],[61]]))
 | 3=>J ("LETTERS",(.str [97,98,99,100,101,102,103,104,105,106,107,108,109,110,111,112,113,114,115,116,117,118,119,120,121,122]))
 | 4=>J ("FIGURES",(.str [48,49,50,51,52,53,54,55,56,57]))
 | 5=>J ("MOST_SIGNS",(.int 8))
 | 6=>J ("DEEPEST",(.int 12))
 | 7=>J ("DEEPEST_ROW",(.int 8))
 | 8=>J ("MOST_FIGURES",(.int 6))
 | 9=>J ("THINGS",(.cdict [([115,101,116],3),([116,101,108,108],2),([115,107,105,112],1),([105,102],4),([119,104,105,108,101],3)]))
 | _=>bY
noncomputable def tab:Tab:=(22,"is_whole",["thing","most"],ik)::
 (23,"is_number",["thing"],kf)::
 (24,"is_name",["thing","sign"],jM)::
 (55,"need_formula",["thing","deep","good"],df)::
 (0,"all_names",["formula"],eW)::
 (1,"names_in",["formula"],lZ)::
 (2,"all_right_names",["formula","found"],cg)::
 (3,"right_names",["formula"],il)::
 (4,"divides",["formula"],gO)::
 (17,"joined",["sign","one","other"],pD)::
 (18,"reckoned",["formula","values","one","other"],ej)::
 (56,"is_block",["thing"],l7)::
 (25,"blocks_in",["row"],dG)::
 (26,"formula_of",["row"],fU)::
 (57,"has_form",["row"],l8)::
 (58,"need_rows",["block","deep","row","inner"],kg)::
 (59,"need_names",["names","known","name"],jv)::
 (60,"settled",["block","rows","row"],n7)::
 (61,"numbered",["block","first","above","found","number","row","inner","rows"],l9)::
 (62,"names_of",["row","found"],md)::
 (101,"names_above",["above","found","formula"],im)::
 (102,"sources_of",["row","above","found"],jw)::
 (103,"flows",["program","found","number","row","above"],rS)::
 (104,"roads",["program","found","waiting","name","ways","at","source","number","one"],kh)::
 (111,"leaks_of",["program","row","above","found"],fN)::
 (112,"shortest",["secret","names","best","name"],mf)::
 (113,"looked",["program","secret","number","row","above","way","names","road","last"],pE)::
 (27,"formula_text",["formula"],dg)::
 (28,"row_lines",["row","found","blocks","k"],dH)::
 (29,"written",["block","found","row"],n8)::
 (30,"leaf_of",["word","sign","number"],jN)::
 (31,"formula_from",["words","at","deep","word","one","behind","other","end"],eE)::
 (32,"whole_formula",["words","formula","end"],gm)::
 (33,"need_line",["lines","at","line"],ki)::
 (34,"row_from",["lines","at","deep","words","formula","block","end","first","between","second"],cH)::
 (35,"block_from",["lines","at","deep","rows","row"],jx)::
 (36,"read",["lines","block","end"],ve)::
 (82,"need_values",["program","values","opens","secrets","names","name"],fj)::
 (87,"run",["program","values","turns","running","stop","pairs"],t0)::
 (5,"_law_cell_at",["_law_script","_law_k"],iq)::
 (6,"_law_mixed",["_law_number"],kj)::
 (7,"_law_name_by",["_law_cell","_law_found","_law_number","_law_k"],ir)::
 (8,"_law_twin",["_law_name","_law_cell","_law_some","_law_at","_law_step","_law_found"],iu)::
 (9,"_law_names",["_law_one","_law_other","_law_names_here","_law_k","_law_name"],gP)::
 (10,"_law_end_by",["_law_number","_law_names_here"],fV)::
 (11,"_law_formula_by",["_law_number","_law_names_here","_law_low","_law_divide","_law_left","_law_sign","_law_one"],dI)::
 (37,"_law_all_names",["_law_formula_here"],bk)::
 (38,"_law_row_by",["_law_names_here","_law_more_here","_law_dark","_law_mode","_law_low","_law_some","_law_formula_here"],cq)::
 (39,"_law_closed",["_law_stack","_law_frame"],fW)::
 (40,"_law_put",["_law_stack","_law_names_here","_law_more_here","_law_mode","_law_way","_law_dark","_law_formula_here","_law_secret_here","_law_shut","_law_some"],gQ)::
 (41,"_law_block_by",["_law_cells","_law_names_here","_law_loose","_law_stack","_law_turn","_law_cell","_law_more_here","_law_mode"],eH)::
 (72,"_law_blocks",["_law_row"],jy)::
 (106,"_law_formula",["_law_row"],iw)::
 (107,"_law_listed",["_law_block","_law_around","_law_rows","_law_row","_law_inner"],jz)::
 (108,"_law_secret",["_law_pairs","_law_rows","_law_secret_here","_law_grown","_law_row","_law_around"],jA)::
 (114,"_law_divisors",["_law_formula_here","_law_right"],cp)::
 (115,"_law_has_division",["_law_formula_here"],bU)::
 (116,"_law_leaks",["_law_pairs","_law_row","_law_around","_law_secret_here","_law_formula_here","_law_found","_law_sources","_law_right"],ci)::
 (117,"_law_first",["_law_pairs","_law_rows","_law_secret_here","_law_k","_law_one","_law_found"],kl)::
 (89,"_law_values",["_law_script","_law_at","_law_names_here","_law_values_here","_law_k","_law_name","_law_cell"],jB)::
 (42,"_law_text",["_law_formula_here"],fO)::
 (43,"_law_lines",["_law_block","_law_lines_here","_law_row"],gR)::
 (131,"_law_alike",["_law_one","_law_other","_law_secret_here","_law_mine"],iz)::
 (123,"_law_leaking",["_law_names_here","_law_way","_law_dark","_law_cell","_law_low","_law_one","_law_more_here","_law_inner"],cK)::
 (124,"_law_with_leak",["_law_names_here","_law_block","_law_cell","_law_dark","_law_rows","_law_leak","_law_at"],bm)::
 (125,"_law_drawn",["_law_script","_law_low","_law_high","_law_names_here","_law_cell","_law_block","_law_more_here"],km)::
 (95,"_law_more",["_law_names_here","_law_cell","_law_many","_law_found"],iA)::
 (96,"_law_told",["_law_names_here","_law_more_here","_law_cell","_law_rows","_law_number","_law_k","_law_name","_law_at"],fP)::
 (132,"law",["_law_script","_law_names_here","_law_more_here","_law_pairs","_law_made","_law_lines_here","_law_block","_law_program","_law_rows","_law_secret_here","_law_refused","_law_values_here","_law_others","_law_name","_law_turns"],bJ)::[]
noncomputable def mtab:CY:=[(63,0,"__init__",["self","opens","secrets","block","known","many"],eN),
 (64,0,"names",["self","found","number","row","above"],gj),
 (65,0,"kind",["self","name"],g6),
 (66,0,"told",["self"],g7),
 (67,0,"block",["self"],gk),
 (83,1,"__init__",["self","program","values","turns","name"],eO),
 (84,1,"do_rows",["self","block","first","number","row","stop"],dh),
 (85,1,"do_row",["self","row","number","value"],bK),
 (86,1,"do_loop",["self","row","number","value","stop"],di)]
noncomputable def PP (f:Nat):Option Fn:=(fnP tab f).or (mtP mtab f)
end Internal
end
section
namespace Internal
theorem rU (I:Nat->MS->Prop)(Rt:MV->MS->Prop)(h0:I 0 m)(hg:∀i m,I i m->aS g m.heap)
  (hstep:∀i x m (P:Fl->MS->Prop),items[i]?=J x->I i m->(∀m',I (i+1) m'->P .next m')->(∀m',I (i+1) m'->P .cont m')->(∀r m',Rt r m'->P (.ret r) m')->step x P m)
  (hend:∀m,I items.length m->Q .next m) (hret:∀r m,Rt r m->Q (.ret r) m):fb g step Q items m:=by
 have key:∀(l:List MV) (i:Nat) (m:MS),i+l.length=items.length->items.drop i=l->I i m->fb g step Q l m:=by
  intro l
  induction l with
  | nil=>
   intro i m hl e hI;have hl:i=items.length:=hl;subst hl;rw [m7];exact ⟨hg _ m hI,hend m hI⟩
  | cons x l ih=>
   intro i m hl e hI;have hlt:i<items.length:=by simp only [KQ] at hl;exact n1 (Km hl)
   have e':=Le hlt;rw [e] at e';simp only [L7.injEq] at e';rw [iV];refine ⟨hg i m hI,hstep i x m _ (by rw [KC hlt,e'.1]) hI (λm' h'=>?_) (λm' h'=>?_) λr m' h'=>hret r m' h'⟩
   ·exact ih (i+1) m' (by simp only [KQ] at hl;lia) e'.2.symm h'
   ·exact ih (i+1) m' (by simp only [KQ] at hl;lia) e'.2.symm h'
 exact key items 0 m (by simp) (by simp) h0
theorem gS (st:Nat->σ->MS)(I:Nat->σ->Prop)(w:σ)(e0:m=st 0 w)(h0:I 0 w)(hg:∀i w,I i w->aS g (st i w).heap)
  (hstep:∀i x w (P:Fl->MS->Prop),items[i]?=J x->I i w->(∀w,I (i+1) w->P .next (st (i+1) w))->(∀w,I (i+1) w->P .cont (st (i+1) w))->step x P (st i w)) (hend:∀w,I items.length w->Q .next (st items.length w)):fb g step Q items m:=by
 refine rU (λi m=>∃w,m=st i w/\I i w) (λ_ _=>False) ⟨w,e0,h0⟩ (λi m hI=>?_) (λi x m P hx hI h1 h2 _=>?_) (λm hI=>?_) (λ_ _ h=>h.elim)
 ·obtain ⟨w,rfl,h⟩:=hI;exact hg i w h
 ·obtain ⟨w,rfl,h⟩:=hI;exact hstep i x w P hx h (λw h=>h1 _ ⟨w,rfl,h⟩) λw h=>h2 _ ⟨w,rfl,h⟩
 ·obtain ⟨w,rfl,h⟩:=hI;exact hend w h
theorem gT {α β:Type}(st:Nat->α->β->MS)(I:Nat->α->β->Prop){g:Gd}{step:MV->(Fl->MS->Prop)->MS->Prop}{Q:Fl->MS->Prop}{items:List MV}{m:MS}(a:α)(b:β)(e0:m=st 0 a b)(h0:I 0 a b)(hg:∀i a b,I i a b->aS g (st i a b).heap)
  (hstep:∀i x a b (P:Fl->MS->Prop),items[i]?=J x->I i a b->(∀a b,I (i+1) a b->P .next (st (i+1) a b))->(∀a b,I (i+1) a b->P .cont (st (i+1) a b))->step x P (st i a b)) (hend:∀a b,I items.length a b->Q .next (st items.length a b)):fb g step Q items m:=
 gS (λi (w:α × β)=>st i w.1 w.2) (λi w=>I i w.1 w.2) (a,b) e0 h0 (λi w=>hg i w.1 w.2) (λi x w P hx hI h1 h2=>hstep i x w.1 w.2 P hx hI (λa b h=>h1 (a,b) h) λa b h=>h2 (a,b) h) λw=>hend w.1 w.2
theorem gV {α β γ:Type}(st:Nat->α->β->γ->MS)(I:Nat->α->β->γ->Prop){g:Gd}{step:MV->(Fl->MS->Prop)->MS->Prop}{Q:Fl->MS->Prop}{items:List MV}{m:MS}(a:α)(b:β)(c:γ)(e0:m=st 0 a b c)(h0:I 0 a b c)(hg:∀i a b c,I i a b c->aS g (st i a b c).heap)
  (hstep:∀i x a b c (P:Fl->MS->Prop),items[i]?=J x->I i a b c->(∀a b c,I (i+1) a b c->P .next (st (i+1) a b c))->(∀a b c,I (i+1) a b c->P .cont (st (i+1) a b c))->step x P (st i a b c)) (hend:∀a b c,I items.length a b c->Q .next (st items.length a b c)):fb g step Q items m:=
 gS (λi (w:α × β × γ)=>st i w.1 w.2.1 w.2.2) (λi w=>I i w.1 w.2.1 w.2.2) (a,b,c) e0 h0 (λi w=>hg i w.1 w.2.1 w.2.2) (λi x w P hx hI h1 h2=>hstep i x w.1 w.2.1 w.2.2 P hx hI (λa b c h=>h1 (a,b,c) h) λa b c h=>h2 (a,b,c) h) λw=>hend w.1 w.2.1 w.2.2
theorem vf {α β γ δ:Type}(st:Nat->α->β->γ->δ->MS)(I:Nat->α->β->γ->δ->Prop){g:Gd}{step:MV->(Fl->MS->Prop)->MS->Prop}{Q:Fl->MS->Prop}{items:List MV}{m:MS}(a:α)(b:β)(c:γ)(d:δ)(e0:m=st 0 a b c d)(h0:I 0 a b c d)(hg:∀i a b c d,I i a b c d->aS g (st i a b c d).heap)
  (hstep:∀i x a b c d (P:Fl->MS->Prop),items[i]?=J x->I i a b c d->(∀a b c d,I (i+1) a b c d->P .next (st (i+1) a b c d))->(∀a b c d,I (i+1) a b c d->P .cont (st (i+1) a b c d))->step x P (st i a b c d)) (hend:∀a b c d,I items.length a b c d->Q .next (st items.length a b c d)):fb g step Q items m:=
 gS (λi (w:α × β × γ × δ)=>st i w.1 w.2.1 w.2.2.1 w.2.2.2) (λi w=>I i w.1 w.2.1 w.2.2.1 w.2.2.2) (a,b,c,d) e0 h0 (λi w=>hg i w.1 w.2.1 w.2.2.1 w.2.2.2) (λi x w P hx hI h1 h2=>hstep i x w.1 w.2.1 w.2.2.1 w.2.2.2 P hx hI (λa b c d h=>h1 (a,b,c,d) h) λa b c d h=>h2 (a,b,c,d) h) λw=>hend w.1 w.2.1 w.2.2.1 w.2.2.2
theorem mM {α β γ δ ε:Type}(st:Nat->α->β->γ->δ->ε->MS)(I:Nat->α->β->γ->δ->ε->Prop){g:Gd}{step:MV->(Fl->MS->Prop)->MS->Prop}{Q:Fl->MS->Prop}{items:List MV}{m:MS}(a:α)(b:β)(c:γ)(d:δ)(e:ε)(e0:m=st 0 a b c d e)(h0:I 0 a b c d e)(hg:∀i a b c d e,I i a b c d e->aS g (st i a b c d e).heap)
  (hstep:∀i x a b c d e (P:Fl->MS->Prop),items[i]?=J x->I i a b c d e->(∀a b c d e,I (i+1) a b c d e->P .next (st (i+1) a b c d e))->(∀a b c d e,I (i+1) a b c d e->P .cont (st (i+1) a b c d e))->step x P (st i a b c d e)) (hend:∀a b c d e,I items.length a b c d e->Q .next (st items.length a b c d e)):fb g step Q items m:=
 gS (λi (w:α × β × γ × δ × ε)=>st i w.1 w.2.1 w.2.2.1 w.2.2.2.1 w.2.2.2.2) (λi w=>I i w.1 w.2.1 w.2.2.1 w.2.2.2.1 w.2.2.2.2) (a,b,c,d,e) e0 h0 (λi w=>hg i w.1 w.2.1 w.2.2.1 w.2.2.2.1 w.2.2.2.2) (λi x w P hx hI h1 h2=>hstep i x w.1 w.2.1 w.2.2.1 w.2.2.2.1 w.2.2.2.2 P hx hI (λa b c d e h=>h1 (a,b,c,d,e) h) λa b c d e h=>h2 (a,b,c,d,e) h) λw=>hend w.1 w.2.1 w.2.2.1 w.2.2.2.1 w.2.2.2.2
theorem kn {α β γ δ ε ζ:Type}(st:Nat->α->β->γ->δ->ε->ζ->MS)(I:Nat->α->β->γ->δ->ε->ζ->Prop){g:Gd}{step:MV->(Fl->MS->Prop)->MS->Prop}{Q:Fl->MS->Prop}{items:List MV}{m:MS}(a:α)(b:β)(c:γ)(d:δ)(e:ε)(f:ζ)(e0:m=st 0 a b c d e f)(h0:I 0 a b c d e f)(hg:∀i a b c d e f,I i a b c d e f->aS g (st i a b c d e f).heap)
  (hstep:∀i x a b c d e f (P:Fl->MS->Prop),items[i]?=J x->I i a b c d e f->(∀a b c d e f,I (i+1) a b c d e f->P .next (st (i+1) a b c d e f))->(∀a b c d e f,I (i+1) a b c d e f->P .cont (st (i+1) a b c d e f))->step x P (st i a b c d e f)) (hend:∀a b c d e f,I items.length a b c d e f->Q .next (st items.length a b c d e f)):fb g step Q items m:=
 gS (λi (w:α × β × γ × δ × ε × ζ)=>st i w.1 w.2.1 w.2.2.1 w.2.2.2.1 w.2.2.2.2.1 w.2.2.2.2.2) (λi w=>I i w.1 w.2.1 w.2.2.1 w.2.2.2.1 w.2.2.2.2.1 w.2.2.2.2.2) (a,b,c,d,e,f) e0 h0 (λi w=>hg i w.1 w.2.1 w.2.2.1 w.2.2.2.1 w.2.2.2.2.1 w.2.2.2.2.2) (λi x w P hx hI h1 h2=>hstep i x w.1 w.2.1 w.2.2.1 w.2.2.2.1 w.2.2.2.2.1 w.2.2.2.2.2 P hx hI (λa b c d e f h=>h1 (a,b,c,d,e,f) h) λa b c d e f h=>h2 (a,b,c,d,e,f) h) λw=>hend w.1 w.2.1 w.2.2.1 w.2.2.2.1 w.2.2.2.2.1 w.2.2.2.2.2
structure A3 (p1 p2 p3:Prop):Prop where
 h1:p1
 h2:p2
 h3:p3
structure A4 (p1 p2 p3 p4:Prop):Prop where
 h1:p1
 h2:p2
 h3:p3
 h4:p4
structure A5 (p1 p2 p3 p4 p5:Prop):Prop where
 h1:p1
 h2:p2
 h3:p3
 h4:p4
 h5:p5
structure A6 (p1 p2 p3 p4 p5 p6:Prop):Prop where
 h1:p1
 h2:p2
 h3:p3
 h4:p4
 h5:p5
 h6:p6
structure A7 (p1 p2 p3 p4 p5 p6 p7:Prop):Prop where
 h1:p1
 h2:p2
 h3:p3
 h4:p4
 h5:p5
 h6:p6
 h7:p7
theorem A3.el {p1 p2 p3 G:Prop}(h:A3 p1 p2 p3)(k:p1->p2->p3->G):G:=k h.h1 h.h2 h.h3
theorem A4.el {p1 p2 p3 p4 G:Prop}(h:A4 p1 p2 p3 p4)(k:p1->p2->p3->p4->G):G:=k h.h1 h.h2 h.h3 h.h4
theorem A5.el {p1 p2 p3 p4 p5 G:Prop}(h:A5 p1 p2 p3 p4 p5)(k:p1->p2->p3->p4->p5->G):G:=k h.h1 h.h2 h.h3 h.h4 h.h5
theorem A6.el {p1 p2 p3 p4 p5 p6 G:Prop}(h:A6 p1 p2 p3 p4 p5 p6)(k:p1->p2->p3->p4->p5->p6->G):G:=k h.h1 h.h2 h.h3 h.h4 h.h5 h.h6
theorem jf (I:Nat->MS->Prop)(hno:∀m,¬ I 0 m)
  (hturn:∀k m (W:MS->Prop),I (k+1) m->(∀m',I k m'->W m')->c (cWh b W Q) m):∀(k:Nat) (m:MS),I k m->cz c b Q k m
 | 0,m,h=>(hno m h).elim
 | k+1,m,h=>by
  rw [hO];exact hturn k m (λm=>cz c b Q k m) h λm' h'=>jf I hno hturn k m' h'
theorem qq (st:σ->MS)(I:Nat->σ->Prop)(hno:∀w,¬ I 0 w)
  (hturn:∀k w (W:MS->Prop),I (k+1) w->(∀w,I k w->W (st w))->c (cWh b W Q) (st w)) (k:Nat) (w:σ) (e:m=st w) (h:I k w):cz c b Q k m:=
 jf (λk m=>∃w,m=st w/\I k w) (λm h=>by obtain ⟨w,_,h⟩:=h;exact hno w h) (λk m W h hW=>by obtain ⟨w,rfl,h⟩:=h;exact hturn k w W h λw h=>hW _ ⟨w,rfl,h⟩) k m ⟨w,e,h⟩
noncomputable abbrev Hpp:=List MO
theorem aa (x:h<+:hp):h<+:hp++[o]:=x.trans (Lb _ _)
theorem aj (h:List MO):h<+:h:=Kw _
theorem af {h hp:List MO}(x:h<+:hp){i:Nat}{o:MO}(e:h[i]?=J o):hp[i]?=J o:=by
 obtain ⟨t,rfl⟩:=x;rw [Ld (iN.mp e).1];exact e
theorem aF (x:h<+:hp)(e:h.length<=i):h<+:hp.set i o:=by
 obtain ⟨t,rfl⟩:=x;rw [List.set_append_right _ _ e];exact Lb _ _
theorem ac (h:List α)(o:α):(h++[o])[h.length]?=J o:=by simp
theorem ai {α:Type}{h:List α}{o o':α}{i:Nat}(e:h[i]?=J o):(h++[o'])[i]?=J o:=by
 rw [Ld (iN.mp e).1];exact e
theorem get_set {h:List α}(e:h[i]?=J o):(h.set i o')[i]?=J o':=by
 have:=(iN.mp e).1;simp [this]
theorem kq {m:MS}:(m.push o).heap[m.heap.length]?=J o:=ac _ _
theorem gW {m:MS}{o o':MO}{i:Nat}(e:m.heap[i]?=J o):(m.push o').heap[i]?=J o:=ai e
theorem xA {m:MS}{o o':MO}:((m.push o).push o').heap[m.heap.length]?=J o:=ai (ac _ _)
theorem iB (h1:-16777216<=k)(h2:k<=16777216):dz .range1 [.int k] hp=J ((LH k.toNat).map (λ(i:Nat)=>.int i),bY):=by
 show (match decide (-16777216<=k/\k<=16777216) with
  | true=>J ((LH k.toNat).map (λ(i:Nat)=>MV.int i),bY)
  | false=>bY)=_
 rw [decide_eq_true ⟨h1,h2⟩]
theorem aG (e:hp[r]?=J (.list xs)):dz .val [.ref r] hp=J (xs,J (r,.list xs)):=by
 show (match hp[r]? with
  | some (.list xs)=>J (xs,J (r,MO.list xs))
  | _=>bY)=_
 rw [e]
theorem jg (e:hp[r]?=J (.list xs)):dz .enum [.ref r] hp=J (xs.zipIdx.map (λp=>.tup [.int p.2,p.1]),J (r,.list xs)):=by
 show (match hp[r]? with
  | some (.list xs)=>J (xs.zipIdx.map (λp:MV × Nat=>MV.tup [.int p.2,p.1]),J (r,MO.list xs))
  | _=>bY)=_
 rw [e]
theorem kr (e:((LH k).map (λ(i:Nat)=>MV.int i))[i]?=J x):i<k/\x=.int i:=by
 simp only [ID,EQ] at e;refine e12 e λj h1 h2=>?_;obtain ⟨h3,h4⟩:=iN.mp h1;simp at h3 h4;subst h4;exact ⟨h3,h2.symm⟩
theorem lq (k:Nat):((LH k).map (λ(i:Nat)=>MV.int i)).length=k:=by simp
theorem mO {xs:List MV}{i:Nat}{x:MV}(e:(xs.zipIdx.map (λp=>MV.tup [.int p.2,p.1]))[i]?=J x):∃y,xs[i]?=J y/\x=.tup [.int i,y]:=by
 simp only [ID,EQ] at e;obtain ⟨⟨y,j⟩,hj,rfl⟩:=e;rw [List.getElem?_zipIdx] at hj;simp only [EQ,L5] at hj;obtain ⟨y',hy,hj⟩:=hj
 cases hj
 exact ⟨y,hy,rfl⟩
theorem rV {α:Type}{f:α->MV}{l:List α}{j:Nat}{x:MV}{G:MV->Prop}(h:(l.map f)[j]?=J x)(k:∀y,l[j]?=J y->G (f y)):G x:=by
 obtain ⟨y,h1,rfl⟩:=EQ.mp (ID ..▸h);exact k y h1
theorem C4 {k i:Nat}{x:MV}{G:MV->Prop}(e:((LH k).map (λ(i:Nat)=>MV.int i))[i]?=J x)(h:i<k->G (.int i)):G x:=by
 obtain ⟨h1,rfl⟩:=kr e;exact h h1
theorem n9 (xs:List MV):(xs.zipIdx.map (λp=>MV.tup [.int p.2,p.1])).length=xs.length:=by simp
theorem aU (e:hp[r]?=J (.list xs)):lst (.ref r) hp=J (r,xs):=by
 show wA r hp[r]?=_;rw [e];rfl
theorem aH (e:hp[r]?=J (.list xs)):jX .append (.ref r) hp=aT:=by
 show (wA r hp[r]?).isSome=aT;rw [e];rfl
noncomputable def b2n:Bool->Nat
 | true=>1
 | false=>0
noncomputable def sel {α:Type}(d:Bool)(a b:α):α:=match d with
 | true=>b
 | false=>a
theorem kt:g9 (b2i d) [a,b].length=J (b2n d):=by cases d<;>rfl
theorem mP:[a,b][b2n d]?=J (sel d a b):=by cases d<;>rfl
inductive mh {α:Type}(P:Nat->α->Prop):Nat->List α->Prop
 | nil {n}:mh P n []
 | cons {n a l}:P n a->mh P (n+1) l->mh P n (a::l)
theorem mh.get (h:mh P n l)(j:Nat)(hj:j<l.length):∃t,l[j]?=J t/\P (j+n) t:=by
 induction h generalizing j with
 | nil=>exact absurd hj (Mu _)
 | @cons n a l h _ ih=>
  cases j with
  | zero=>exact ⟨a,rfl,by rw [L5];exact h⟩
  | succ j=>
   refine e12 (ih j (Nat.lt_of_succ_lt_succ hj)) λt h1 h2=>?_;exact ⟨t,h1,by rw [Nat.succ_add];exact h2⟩
noncomputable def okS (s:List Nat):Prop:=∀c∈s,c<55296
theorem okS.d (h:okS s):D.ok (.str s)=aT:=K2.mpr λc hc=>decide_eq_true (h c hc)
theorem iC:∀{ss:List (List Nat)},(∀s∈ss,okS s)->D.oks (ss.map .str)=aT
 | [],_=>rfl
 | s::ss,h=>by
  show (D.ok (.str s)&&D.oks (ss.map .str))=aT;rw [(h s (IS ..)).d,iC λt ht=>h t (IN _ ht)];rfl
theorem iE:∀(ss:List (List Nat)),Rds hp (ss.map .str) (ss.map .str)
 | []=>.nil
 | s::ss=>.cons (.str s) (iE ss)
theorem eR (hv:m.get i=J v)(h:Q v m):wpE K n (.var i) Q X m:=by
 show (match m.get i with | some v=>Q v m | none=>False);rw [hv];exact h
theorem bV {ss:List (List Nat)}(hx:okS x)(hs:∀s∈ss,okS s)(h:Q (ss.contains x)):InP hp (.str x) (ss.map .str) Q:=by
 refine .mk (.str x) (ss.map .str) (.str x) (iE ss) (Ko _) hx.d (iC hs) ?_;have e:(ss.map D.str).any (λe=>e.deq (.str x))=ss.contains x:=by
  clear h hs
  induction ss with
  | nil=>rfl
  | cons s ss ih=>
   show ((s==x)||(ss.map D.str).any (λe=>e.deq (.str x)))=(x==s||ss.contains x);rw [ih,BEq.comm]
 rw [e];exact h
theorem Ka {ss:List (List Nat)}(hx:okS x)(hs:∀s∈ss,okS s)(hm:x∉ss)(h:Q Z):InP hp (.str x) (ss.map .str) Q:=bV hx hs (by rw [show ss.contains x=Z from by rw [OC];exact λq=>hm (KL.mp q)];exact h)
theorem ba {k:Int}{n:Nat}(h0:0<=k)(h1:k<n):g9 k n=J k.toNat:=by
 unfold g9;rw [decide_eq_true h0,decide_eq_true h1]
theorem fk {k:Int}{z n:Nat}(e:k=z)(h:z<n):g9 k n=J z:=by
 subst e;exact ba (KZ _) (LN.mpr h)
theorem bn {xs:List α}(h:i<xs.length):xs[i]?=J xs[i]:=KC h
theorem ku (h:0<=k):wz k n=min k.toNat n:=by
 unfold wz;rw [decide_eq_true h]
theorem du (h:0<=k):aQ xs bY (J k)=xs.take k.toNat:=by
 unfold aQ;simp only [ku h,List.drop_zero];rw [<-List.take_eq_take_min]
theorem bN (h:0<=k):aQ xs (J k) bY=xs.drop k.toNat:=by
 unfold aQ;simp only [ku h,KD];refine Lm (Nat.le_total k.toNat xs.length) (λq=>?_) λq=>?_
 ·rw [Mv q]
 ·rw [NZ q,List.drop_length,NN q]
theorem aR (h:n<=1000000):n<=line:=by unfold line;exact dO h (nb rfl)
theorem jO:∀(l t:List (List Nat)),l.Nodup->(∀x∈l,x∈t)->l.length<=t.length
 | [],_,_,_=>Ko _
 | a::l,t,hn,hs=>by
  rw [Mm] at hn;have ha:a∈t:=hs a (IS ..);have:=jO l (t.erase a) hn.2 λx hx=>by
   have hne:x≠a:=λq=>hn.1 (q▸hx);exact (List.mem_erase_of_ne hne).mpr (hs x (IN _ hx))
  rw [List.length_erase_of_mem ha] at this;have:=List.length_pos_of_mem ha;exact Nat.add_le_of_le_sub this (by assumption)
section
variable {Q:MV->List MO->Prop}{X:XT}{h:List MO}
variable {K:KT}(hK:aD PP K)
noncomputable def mix (x:Int):Int:=(x * 48271+7919) % 2147483647
theorem C5 (x:Int):0<=mix x/\mix x<2147483647:=by unfold mix;exact em rfl
noncomputable def cell (is:List Int)(k:Int):Int:=match is[k.toNat]? with
 | some v=>v
 | none=>0
noncomputable abbrev abc:List Nat:=[97,98,99,100,101,102,103,104,105,106,107,108,109,110,111,112,113,114,115,116,117,118,119,120,121,122]
noncomputable abbrev mi:List Nat:=[97,98,99,100,101,102,103,104,105,106,107,108,109,110,111,112,113,114,115,116,117,118,119,120,121,122,48,49,50,51,52,53,54,55,56,57]
theorem qr:∀c∈abc,c∈mi:=by decide
theorem rX:∀c∈mi,c<128:=by decide
noncomputable def Nm (s:List Nat):Prop:=s≠[]/\s.length<=8/\(∀c∈s,c∈mi)/\s.headD 0∈abc
theorem Nm.ok (h:Nm s):okS s:=λc hc=>LY (rX c (h.2.2.1 c hc)) (by decide)
theorem jh (h:s≠[]):(s++t).headD 0=s.headD 0:=by
 cases s with
 | nil=>exact absurd rfl h
 | cons=>rfl
theorem oa {s:List Nat}(h:0<k):(s.take k).headD 0=s.headD 0:=by
 cases s with
 | nil=>rw [Pd]
 | cons=>cases k with
  | zero=>cases h
  | succ=>rfl
noncomputable def kws:List (List Nat):=[[115,101,116],[116,101,108,108],[115,107,105,112],[105,102],[101,108,115,101],[119,104,105,108,101],[101,110,100]]
theorem eI:∀s∈kws,okS s:=by unfold okS kws;decide
theorem vg:∀s∈kws,s.length<=5:=by unfold kws;decide
include hK
theorem cS (hq:Q (.int (mix x)) h):K (n+1) 6 [.int x] Q X h:=by
 refine hK _ _ _ _ _ _ kj rfl rfl ?_;refine ⟨.inr (by unfold fC;decide),?_⟩;exact hq
theorem fX (hk:0<=k)(hq:Q (.int (cell is k)) h):K (n+1) 5 [.scr is,.int k] Q X h:=by
 refine hK _ _ _ _ _ _ iq rfl rfl ?_;unfold cell at hq;by_cases hlt:k<is.length
 ·refine jl (decide_eq_true hlt) ?_
  conv=>whnf
  rw [ba hk hlt];dsimp only;rw [bn (tn hk hlt)] at hq ⊢;exact hq
 ·refine bx (decide_eq_false hlt) ?_;rw [Li ((Int.le_toNat hk).mpr (MX.mp hlt))] at hq;exact hq
theorem zZ {n:Nat}{s:List Nat}{X:XM}{m:MS}(v:Nat)(hv:m.get v=J (.str s))(hs:Nm s)(hq:∀s' h',Nm s'->m.heap<+:h'->Q (.str s') h') :
  aA K n [.ite (.cmp .inn (.var v) (.list [.cst (.str [115,101,116]),.cst (.str [116,101,108,108]),.cst (.str [115,107,105,112]),.cst (.str [105,102]),.cst (.str [101,108,115,101]),.cst (.str [119,104,105,108,101]),.cst (.str [101,110,100])])) [.ret (.bin .add (.var v) (.cst (.str [48])))] [],.ret (.var v)] (fin Q) X m:=by
 have e:∀{Q:PQ} {X:XM} {m':MS},m'.vars=m.vars->Q (.str s) m'->wpE K n (.var v) Q X m':=λ{Q X m'} e h=>by
  exact eR (by rw [<-hv];unfold MS.get;rw [e]) h
 refine e (X:=X) rfl ?_;refine av kq ?_;refine bV hs.ok eI ?_;refine dP (λhc=>?_) λhc=>?_
 ·show wpE K n (.var v) _ X _;refine e (X:=X) rfl ?_;have hl:=vg s (by simpa using hc);refine ⟨by show s.length+1<=2 ^ 24;lia,hq _ _ ⟨by simp,by simp;exact dO hl (nb rfl),?_,by rw [jh hs.1];exact hs.2.2.2⟩ (aa (aj _))⟩;intro c hc
  rcases nO.mp hc with h | h
  ·exact hs.2.2.1 c h
  ·rw [iD.mp h];decide
 ·show wpE K n (.var v) _ X _;refine e (X:=X) rfl ?_;exact hq s _ hs (aa (aj _))
theorem xB {n:Nat}{x:Int}(hq:∀s h',Nm s->h<+:h'->Q (.str s) h'):K (n+2) 7 [.int x] Q X h:=by
 refine hK _ _ _ _ _ _ ir rfl rfl ?_
 conv=>whnf
 rw [ba (em0 rfl) (by show (_:Int)<26;exact em2 rfl)];refine cy (bn (by show _<26;exact emN rfl)) ?_;refine aI (iB (by lia) (by lia)) ?_;refine gV (λi s (z:Int) w=>⟨[J (.int x),J (.str s),J (.int z),w],h⟩) (λi s (z:Int) w=>A3 (s.length=i+1) (∀c∈s,c∈mi) (s.headD 0∈abc)) _ _ _ rfl ⟨rfl,?_,La _⟩ (λ_ _ _ _ _=>trivial) (λi y s z w P hy hI hn _=>?_) (λs z w hI=>?_)
 ·intro c hc;simp only [iD] at hc;subst hc;exact qr _ (La _)
 ·obtain ⟨hi,rfl⟩:=kr hy;obtain ⟨hl,hc,hh⟩:=hI;refine cS hK ?_
  conv=>whnf
  rw [ba (em0 rfl) (by show (_:Int)<36;exact em2 rfl)];refine cy (bn (by show _<36;exact emN rfl)) ?_;refine ⟨by show s.length+1<=2 ^ 24;rw [hl];exact dO (KJ (KJ (LA (LY hi (emN (n:=8) rfl))))) (nb rfl),?_⟩;refine hn _ _ _ ⟨by simp;exact hl,?_,by rw [jh (λq=>by rw [q] at hl;simp at hl)];exact hh⟩;intro c h
  rcases nO.mp h with h | h
  ·exact hc c h
  ·simp only [iD] at h;subst h;exact La _
 ·refine hI.el λhl hc hh=>?_;rw [lq] at hl;exact zZ hK 1 rfl ⟨λq=>by rw [q] at hl;simp at hl,hl▸Nat.succ_le_of_lt (emN (n:=8) rfl),hc,hh⟩ hq
end
section
variable {Q:MV->List MO->Prop}{X:XT}{h:List MO}
variable {K:KT}(hK:aD PP K)
include hK
theorem pF {n:Nat}{s so:List Nat}{c a:Int}{X:XM}(hs:Nm s)(ha:0<=a)(hb:a<s.length)(h1:2<=so.length)(h2:so.length<=36)(h3:∀c∈so,c∈mi)(h4:a=0->∀c∈so,c∈abc)(hq:∀s' h',Nm s'->h<+:h'->Q (.str s') h') :
  aA K n (iu.body.drop 3) (fin Q) X ⟨[J (.str s),J (.int c),J (.str so),J (.int a),bY,bY],h⟩:=by
 conv=>whnf
 rw [ba ha hb];have hA:=tn ha hb;refine cy (bn hA) ?_;intro k hk;refine az (decide_eq_true (by lia)) ?_;refine az (decide_eq_true (kX (n1 h1))) ?_
 conv=>whnf
 have hm:∀x:Int,0<=x % so.length/\x % so.length<so.length:=λx=>have hp:0<so.length:=dO (nb rfl) h1;⟨LM _ (cne hp),Mc _ (kX hp)⟩;rw [ba (hm _).1 (hm _).2];refine cy (bn (tn (hm _).1 (hm _).2)) ?_;have hlen:=hs.2.1;have key:min a.toNat s.length+1+(s.length-(a+1).toNat)<=8:=by
  rw [Int.toNat_add ha (by decide),Mv (LA hA)];exact dO (Km (Of hA)) hlen
 rw [du ha];refine ⟨aR (by rw [KS];exact dO (K5 _ _) (lk key rfl)),?_⟩
 conv=>whnf
 rw [bN (z1 ha)];refine ⟨aR (by rw [eQ,KS,Lf];exact lk key rfl),?_⟩;refine zZ hK 5 rfl ⟨by simp,?_,?_,?_⟩ hq
 ·rw [eQ,eQ,KS,Lf];exact key
 ·intro c hc
  rcases nO.mp hc with h | h
  ·refine Lm (nO.mp h) (λh=>?_) λh=>?_
   ·exact hs.2.2.1 c (LW h)
   ·simp only [iD] at h;subst h;exact h3 _ (La _)
  ·exact hs.2.2.1 c (Ng h)
 ·rw [Ks];by_cases q:a=0
  ·subst q;exact h4 rfl _ (La _)
  ·have q0:a.toNat≠0:=λe=>q (Int.le_antisymm (Int.toNat_eq_zero.mp e) ha);rw [jh (λe=>by have:=congrArg Nh e;rw [KS,NC,Mv (LA hA)] at this;exact q0 this),oa (Os q0)];exact hs.2.2.2
theorem GU {n:Nat}{s:List Nat}{c:Int}(hs:Nm s)(hq:∀s' h',Nm s'->h<+:h'->Q (.str s') h'):K (n+1) 8 [.str s,.int c] Q X h:=by
 refine hK _ _ _ _ _ _ iu rfl rfl ?_;have hp:0<s.length:=MI.mpr hs.1;refine az (decide_eq_true (kX hp)) ?_;have h0:0<=c % (s.length:Int):=LM _ (cne hp);have h1:c % (s.length:Int)<s.length:=Mc _ (kX hp);by_cases q:0<c % (s.length:Int)
 ·refine jl (decide_eq_true q) ?_;refine ⟨aR (by decide),?_⟩;exact pF hK (so:=mi) hs h0 h1 (by decide) (by decide) (λ_ h=>h) (λe=>by lia) hq
 ·refine bx (decide_eq_false q) ?_;exact pF hK (so:=abc) hs h0 h1 (by decide) (by decide) qr (λ_ _ h=>h) hq
end
section
noncomputable def z0 (x:Int):Nat:=97+(x % 26).toNat
theorem z3 (x:Int):abc[(x % 26).toNat]?=J (z0 x):=by
 have h:∀i,i<26->abc[i]?=J (97+i):=by decide
 exact h _ (emN rfl)
theorem C6 (x:Int):z0 x∈mi:=qr _ (rW (z3 x))
noncomputable def oc (p:List Nat)(o:Int)(j:Nat):List Nat:=p++[z0 (o+5 * j)]
theorem C7 (h:i<j)(hj:j<=9):oc p o i≠oc p o j:=λe=>by
 unfold oc at e;have:=List.append_cancel_left e;simp only [L7.injEq,and_true] at this;have h1:(o+5 * (i:Int)) % 26=(o+5 * (j:Int)) % 26:=by rw [<-Nn (em0 rfl:0<=(o+5 * (i:Int)) % 26),Nat.add_left_cancel this,Nn (em0 rfl)]
 have h2:=Int.emod_eq_emod_iff_emod_sub_eq_zero.mp h1.symm;rw [show o+5 * (j:Int)-(o+5 * (i:Int))=((5 * (j-i):Nat):Int) by rw [Int.add_sub_add_left,Int.natCast_mul,Int.natCast_sub (LA h),Int.mul_sub];rfl] at h2;exact (by decide:∀d:Fin 10,0<d.1->((5 * d.1:Nat):Int) % 26≠0) ⟨j-i,MC (dO (Nb _ _) hj)⟩ (Nat.sub_pos_of_lt h) h2
theorem C8 {ss:List (List Nat)}(hl:ss.length<=9)(h:∀i,i<=9->oc p o i∈ss):False:=by
 have hn:((LH 10).map (oc p o)).Nodup:=by
  refine List.pairwise_map.mpr ((List.pairwise_lt_range (n:=10)).imp_of_mem λ{a b} ha hb hlt=>C7 hlt ?_);simp at hb;exact n1 hb
 have:=jO _ ss hn λx hx=>by
  obtain ⟨i,hi,rfl⟩:=KW.mp hx;simp at hi;exact h i (n1 hi)
 simp at this;exact nf (n2 this hl)
noncomputable def Ph (ss:List (List Nat))(i:Int)(k:Nat)(s:List Nat)(u:Int):Prop:=
 21-s.length<=k\/∃p o j,p.length=7/\j<=9/\s=oc p o j/\(∀i',i'<j->oc p o i'∈ss)/\u+8+i=o+5 * ((j:Int)+1)/\11-j<=k
theorem C9 {ss:List (List Nat)}{s:List Nat}(hs:Nm s)(hl:ss.length<=9)(hin:s∈ss\/s∈kws)(h:Ph ss i (k+1) s u) :
  Nm (s.take 7++[z0 (u+s.length+i)])/\Ph ss i k (s.take 7++[z0 (u+s.length+i)]) (u+5):=by
 have hlen:=hs.2.1;have hne:0<s.length:=MI.mpr hs.1;refine ⟨⟨by simp,by simp;lia,λc hc=>?_,by rw [jh (λe=>by have:=congrArg Nh e;rw [KS,NC] at this;lia),oa (by decide)];exact hs.2.2.2⟩,?_⟩
 ·refine Lm (nO.mp hc) (λh=>?_) λh=>?_
  ·exact hs.2.2.1 c (LW h)
  ·simp only [iD] at h;subst h;exact C6 _
 ·rcases h with h | ⟨p,o,j,hp,hj,hc,hv,hu,hk⟩
  ·by_cases q:s.length=8
   ·refine .inr ⟨s.take 7,u+s.length+i,0,by rw [KS,q];rfl,nb rfl,?_,λi' hi=>absurd hi (Mu _),by lia,by rw [q] at h;exact dO (nb rfl:11<=12) (NR h)⟩;unfold oc;simp
   ·refine .inl ?_;rw [eQ,KS];rw [NZ (LK (NE hlen q))];exact Nat.sub_le_iff_le_add.mpr (dO (Nat.sub_le_iff_le_add.mp h) (show k+1+s.length<=k+(s.length+1) by simp +arith only))
  ·have h8:s.length=8:=by rw [hc];unfold oc;rw [eQ,hp];rfl
   have hss:s∈ss:=hin.elim id λq=>by have:=vg s q;lia
   by_cases q:j=9
   ·subst q;exact (C8 (p:=p) (o:=o) hl λi' hi=>by
     by_cases q:i'=9
     ·subst q;rw [<-hc];exact hss
     ·exact hv i' (NE hi q)).elim
   ·refine .inr ⟨p,o,j+1,hp,NE hj q,?_,λi' hi=>?_,by lia,Nat.pred_le_pred hk⟩
    ·have:s.take 7=p:=by rw [hc];unfold oc;rw [<-hp];simp
     rw [this,h8];unfold oc;congr 3
    ·by_cases q:i'=j
     ·subst q;rw [<-hc];exact hss
     ·exact hv i' (NE (LK hi) q)
variable (hK:aD PP K)
include hK
theorem rY {ss:List (List Nat)}{hp:List MO}(hr:hp[r]?=J (.list (ss.map .str)))(hss:∀s∈ss,Nm s)(hl:ss.length<=9)(hs:Nm s)
  (hq:∀s' u' hp',Nm s'->s'∉ss->s'∉kws->hp<+:hp'->Q .next ⟨[J (.int o),J (.int u'),J (.ref r),J (.int i),J (.str s')],hp'⟩) :
  wpS K n (.while_ (.or [.cmp .inn (.var 4) (.var 2),.cmp .inn (.var 4) (.list [.cst (.str [115,101,116]),.cst (.str [116,101,108,108]),.cst (.str [115,107,105,112]),.cst (.str [105,102]),.cst (.str [101,108,115,101]),.cst (.str [119,104,105,108,101]),.cst (.str [101,110,100])])])
   [.asg [4] Z (.bin .add (.sl (.var 4) bY (J (.cst (.int 7)))) (.idx (.cst (.str [97,98,99,100,101,102,103,104,105,106,107,108,109,110,111,112,113,114,115,116,117,118,119,120,121,122])) (.bin .mod (.bin .add (.bin .add (.var 1) (.blt .len [.var 4])) (.var 3)) (.cst (.int 26))))),.asg [1] Z (.bin .add (.var 1) (.cst (.int 5)))])
   Q X ⟨[J (.int o),J (.int u),J (.ref r),J (.int i),J (.str s)],hp⟩:=by
 refine ⟨30,jf (λk m=>∃s u hp',m=⟨[J (.int o),J (.int u),J (.ref r),J (.int i),J (.str s)],hp'⟩/\hp<+:hp'/\Nm s/\Ph ss i k s u) (λm ⟨s,u,hp',_,_,hs,h⟩=>?_) (λk m W hI hW=>?_) 30 _ ⟨s,u,hp,rfl,aj _,hs,.inl (dO (Nb _ _) (nb rfl))⟩⟩
 ·have:=hs.2.1
  rcases h with h | ⟨_,_,j,_,hj,_,_,_,h⟩
  ·exact absurd (dO (NV (Ou.mp h)) this) (by decide)
  ·exact absurd (dO (NV (Ou.mp h)) hj) (by decide)
 ·obtain ⟨s,u,hp',rfl,hpre,hs,hph⟩:=hI;have body:∀hp'',hp<+:hp''->(s∈ss\/s∈kws)->aA K n [.asg [4] Z (.bin .add (.sl (.var 4) bY (J (.cst (.int 7)))) (.idx (.cst (.str [97,98,99,100,101,102,103,104,105,106,107,108,109,110,111,112,113,114,115,116,117,118,119,120,121,122])) (.bin .mod (.bin .add (.bin .add (.var 1) (.blt .len [.var 4])) (.var 3)) (.cst (.int 26))))),.asg [1] Z (.bin .add (.var 1) (.cst (.int 5)))]
    (λf m=>match f with
    | .next=>W m
    | .cont=>W m
    | .brk=>Q .next m
    | .ret r=>Q (.ret r) m) X ⟨[J (.int o),J (.int u),J (.ref r),J (.int i),J (.str s)],hp''⟩:=λhp'' hpre hin=>by
   refine e02 (C9 hs hl hin hph) λg1 g2=>?_
   conv=>whnf
   rw [ba (em0 rfl) (by show (_:Int)<26;exact em2 rfl)];dsimp only;rw [z3];rw [du (by decide)];refine ⟨aR (by rw [KS];exact dO (KJ (L8 7 _)) (nb rfl)),?_⟩;exact hW _ ⟨_,_,hp'',rfl,hpre,g1,g2⟩
  refine av (af hpre hr) ?_;refine bV hs.ok (λt ht=>(hss t ht).ok) ?_;refine dP (λhc=>?_) λhc=>?_
  ·exact body hp' hpre (.inl (by simpa using hc))
  ·refine av kq ?_;refine bV hs.ok eI ?_
   cases hc':kws.contains s with
   | true=>exact body _ (aa hpre) (.inr (by simpa using hc'))
   | false=>exact hq s u _ hs (by simpa using hc) (by simpa using hc') (aa hpre)
noncomputable def EC:List MSt->List MSt
 | .for_ _ _ _ _ b::_=>b
 | _=>[]
theorem Da {h:List MO}(hq:∀(h':List MO) (r:Nat) (ss:List (List Nat)),h<+:h'->h.length<=r->h'[r]?=J (.list (ss.map .str))->ss.length=10->(∀s∈ss,Nm s)->ss.Nodup->(∀s∈ss,s∉kws)->Q (.ref r) h') :
  K (n+3) 9 [.int a,.int b] Q X h:=by
 refine hK _ _ _ _ _ _ gP rfl rfl ?_;refine kn (λi (o:Int) (u:Int) (ss:List (List Nat)) (w3:Option MV) (w4:Option MV) (hp:List MO)=>⟨[J (.int o),J (.int u),J (.ref h.length),w3,w4],hp⟩) (λi (o:Int) (u:Int) (ss:List (List Nat)) (w3:Option MV) (w4:Option MV) (hp:List MO)=>A6 (h<+:hp) (hp[h.length]?=J (.list (ss.map .str))) (ss.length=i) (∀s∈ss,Nm s) ss.Nodup (∀s∈ss,s∉kws))
  a b [] bY bY _ rfl ⟨aa (aj _),ac _ _,rfl,by simp,MT,by simp⟩ (λ_ _ _ _ _ _ _ _=>trivial) (λi y o u ss w3 w4 hp P hy hI hn _=>?_) (λo u ss w3 w4 hp hI=>?_)
 ·obtain ⟨hi,rfl⟩:=kr hy;obtain ⟨hpre,hr,hl,hss,hnd,hkw⟩:=hI;have hi:i<10:=hi;have rest:∀s hp',Nm s->hp<+:hp'->aA K (n+2) ((EC (gP.body.drop 1)).drop 3) P (xin X) ⟨[J (.int (mix o)),J (.int u),J (.ref h.length),J (.int i),J (.str s)],hp'⟩:=λs hp' hs hpre'=>by
   refine rY hK (af hpre' hr) hss (n2 hi (Km hl)) hs λs' u' hp'' hs' h1 h2 hpre''=>?_;have hr':=af (hpre'.trans hpre'') hr;refine az (aH hr') ?_;refine aV (aU hr') ?_;refine ⟨by rw [iF,hl];exact KG hi (aR (nb rfl)),?_⟩;refine hn _ _ (ss++[s']) _ _ _ ⟨aF ((hpre.trans hpre').trans hpre'') (oF _),?_,by simp [hl],?_,?_,?_⟩
   ·rw [get_set hr'];simp
   ·intro t ht
    rcases nO.mp ht with ht | ht
    ·exact hss t ht
    ·simp at ht;subst ht;exact hs'
   ·rw [K1];exact ⟨hnd,by simp,λt ht t' ht'=>by simp at ht';subst ht';exact λq=>h1 (q▸ht)⟩
   ·intro t ht
    rcases nO.mp ht with ht | ht
    ·exact hkw t ht
    ·simp at ht;subst ht;exact h2
  refine cS hK ?_;refine xB hK λs h' hs hpre'=>?_;have hpre':hp<+:h':=hpre';refine sZ (λhodd=>?_) λhodd=>?_
  ·exact rest s h' hs hpre'
  ·have hodd:(i:Int) % 2=1:=by simpa using hodd
   refine sZ (λhu=>?_) λhu=>?_
   ·exact rest s h' hs hpre'
   ·conv=>whnf
    dsimp only [MS.set,List.set];refine ae (af hpre' hr) ?_;have hi:0<i:=Os λq=>by subst q;exact absurd hodd (by decide)
    have hlt:i-1<ss.length:=Nat.lt_of_lt_of_eq (Nat.sub_lt hi Nat.one_pos) hl.symm;rw [show (i:Int)-1=((i-1:Nat):Int) from (Int.natCast_sub hi).symm];refine aw (j:=i-1) (v:=.str ss[i-1]) (ba (KZ _) (by rw [iF];exact LN.mpr hlt)) (by rw [ID,bn hlt];rfl) ?_;refine cS hK ?_;refine GU hK (hss _ (La _)) λs' h'' hs' hpre''=>?_;exact rest s' h'' hs' (hpre'.trans hpre'')
 ·refine hI.el λhpre hr hl hss hnd hkw=>?_;exact hq hp h.length ss hpre (oF _) hr hl hss hnd hkw
end
set_option genCtorIdx false in
inductive Tm where
 | num (k:Int) | nm (s:List Nat) | op (c:Nat) (a b:Tm)
gen_injective_theorems% Tm
noncomputable abbrev z4:List Nat:=[110,117,109,98,101,114]
noncomputable abbrev rZ:List Nat:=[110,97,109,101]
noncomputable def Tm.mv:Tm->MV
 | .num k=>.tup [.str z4,.int k]
 | .nm s=>.tup [.str rZ,.str s]
 | .op c a b=>.tup [.str [c],a.mv,b.mv]
noncomputable def Tm.deep:Tm->Nat
 | .op _ a b=>max a.deep b.deep+1
 | _=>0
noncomputable def Tm.lv:Tm->Nat
 | .num _ | .nm _=>1
 | .op _ a b=>a.lv+b.lv
theorem Tm.lv_le:∀t:Tm,t.lv<=2 ^ t.deep
 | .num _=>oF _
 | .nm _=>oF _
 | .op _ a b=>by
  have ha:=Tm.lv_le a;have hb:=Tm.lv_le b;have h1:2 ^ a.deep<=2 ^ max a.deep b.deep:=Mj (by decide) (KF ..);have h2:2 ^ b.deep<=2 ^ max a.deep b.deep:=Mj (by decide) (KI ..);show a.lv+b.lv<=2 ^ (max a.deep b.deep+1);rw [Nat.pow_succ,Nat.mul_two];exact KH (dO ha h1) (dO hb h2)
noncomputable def cM (c:Nat):Prop:=c=43\/c=45\/c=42\/c=60\/c=61\/c=47
noncomputable def Tm.ok (p:List Nat->Prop):Tm->Prop
 | .num k=>0<=k/\k<1000000
 | .nm s=>p s
 | .op c a b=>cM c/\a.ok p/\b.ok p
theorem Tm.ok.mono (h:∀s,p s->q s):∀{t:Tm},t.ok p->t.ok q
 | .num _,x=>x
 | .nm s,x=>h s x
 | .op _ _ _,⟨x,y,z⟩=>⟨x,y.mono h,z.mono h⟩
theorem jP:∀(ss:List (List Nat)),D.deeps (ss.map .str)=0
 | []=>rfl
 | s::ss=>by show max 0 (D.deeps (ss.map .str))=0;rw [jP ss];rfl
theorem GW (h1:hp[r]?=J (.list (ss.map .str)))(h2:hp[r']?=J (.list []))(hs:∀s∈ss,okS s)(hq:Q (decide (ss=[]))):EqP hp (.ref r) (.ref r') Q:=by
 refine .mk (.list (ss.map .str)) (.list []) (.list h1 (iE ss)) (.list h2 .nil) ?_ (iC hs) rfl ?_
 ·show D.deeps _+1<=1000;rw [jP];decide
 ·cases ss<;>exact hq
section
variable (hK:aD PP K)
include hK
theorem sa {ss:List (List Nat)}{h:List MO}(hr:h[r]?=J (.list (ss.map .str)))(hs:∀s∈ss,okS s)(hq:∀t h',Tm.ok (·∈ss) t->t.deep=0->h<+:h'->Q t.mv h') :
  K (n+1) 10 [.int x,.ref r] Q X h:=by
 refine hK _ _ _ _ _ _ fV rfl rfl ?_;have rest:∀h',h<+:h'->aA K n (fV.body.drop 1) (fin Q) (xin X) ⟨[J (.int x),J (.ref r)],h'⟩:=λh' hpre=>by
  refine dP (λhc=>?_) λhc=>?_
  ·exact hq (.num (x / 12 % 10 ^ (6:Int).toNat)) h' (by show _/\_;rw [show (10:Int) ^ (6:Int).toNat=1000000 by decide];exact em rfl) rfl hpre
  ·exact hq (.num (x / 12 % 5)) h' (by show _/\_;exact em rfl) rfl hpre
 refine GW (ss:=ss) (gW hr) kq hs ?_;by_cases hn:ss=[]
 ·rw [decide_eq_true hn];exact rest _ (aa (aj _))
 ·rw [decide_eq_false hn];have hpos:0<ss.length:=MI.mpr hn;by_cases hc:0<x % 3
  ·refine jl (decide_eq_true hc) ?_;refine av (gW hr) ?_;rw [iF];refine az (decide_eq_true (kX hpos)) ?_;refine ae (gW hr) ?_;have h1:0<=x / 3 % (ss.length:Int):=LM _ (cne hpos);have h2:x / 3 % (ss.length:Int)<ss.length:=Mc _ (kX hpos);have h3:(x / 3 % (ss.length:Int)).toNat<ss.length:=tn h1 h2;exact aw (ba h1 (by rw [iF];exact h2)) (by rw [ID,bn h3];rfl) (hq (.nm _) _ (La h3) rfl (aa (aj _)))
  ·refine bx (decide_eq_false hc) ?_;exact rest _ (aa (aj _))
end
section
theorem t5:∀j,j<10->∃c,cM c/\[MV.str [43],MV.str [45],MV.str [42],MV.str [60],MV.str [61],MV.str [43],MV.str [45],MV.str [60],MV.str [47],MV.str [47]][j]?=J (.str [c])
 | 0,_=>⟨43,by unfold cM;exact by decide,rfl⟩
 | 1,_=>⟨45,by unfold cM;exact by decide,rfl⟩
 | 2,_=>⟨42,by unfold cM;exact by decide,rfl⟩
 | 3,_=>⟨60,by unfold cM;exact by decide,rfl⟩
 | 4,_=>⟨61,by unfold cM;exact by decide,rfl⟩
 | 5,_=>⟨43,by unfold cM;exact by decide,rfl⟩
 | 6,_=>⟨45,by unfold cM;exact by decide,rfl⟩
 | 7,_=>⟨60,by unfold cM;exact by decide,rfl⟩
 | 8,_=>⟨47,by unfold cM;exact by decide,rfl⟩
 | 9,_=>⟨47,by unfold cM;exact by decide,rfl⟩
 | _+10,h=>by lia
variable (hK:aD PP K)
include hK
theorem xC:∀(L:Nat) {n:Nat}{x l:Int}{r rl:Nat}{d:Bool}{ss sl:List (List Nat)}{Q:MV->List MO->Prop}{X:XT}{h:List MO},l=(L:Int)+1->h[r]?=J (.list (ss.map .str))->h[rl]?=J (.list (sl.map .str))->(∀s∈ss,okS s)->(∀s∈sl,okS s)->
  (∀t h',Tm.ok (λs=>s∈ss\/s∈sl) t->t.deep<=L->h<+:h'->Q t.mv h')->K (n+L+2) 11 [.int x,.ref r,.ref rl,.bool d,.int l] Q X h:=by
 intro L
 induction L with
 | zero=>
  intro n x l r rl d ss sl Q X h hl hr hrl hs hsl hq;refine hK _ _ _ _ _ _ dI rfl rfl ?_;refine cS hK ?_;refine jl (by simp [hl]) ?_;refine sa hK hr hs λt h' ht hd hpre=>?_;exact hq t h' (ht.mono λs=>.inl) (n1 (Km hd)) hpre
 | succ L ih=>
  intro n x l r rl d ss sl Q X h hl hr hrl hs hsl hq;refine hK _ _ _ _ _ _ dI rfl rfl ?_;refine cS hK ?_;refine bx (by simp [hl];lia) ?_;refine dP (λhc=>?_) λhc=>?_
  ·refine sa hK hr hs λt h' ht hd hpre=>?_;exact hq t h' (ht.mono λs=>.inl) (n1 (Km hd)) hpre
  ·refine ae kq (aw kt mP ?_);have hj:∃j:Int,(j=8\/j=10)/\sel d (MV.int 8) (.int 10)=.int j:=by
    cases d
    ·exact ⟨8,.inl rfl,rfl⟩
    ·exact ⟨10,.inr rfl,rfl⟩
   refine e12 hj λj hj e1=>?_;rw [e1];have hj0:0<j:=by rcases hj with rfl | rfl<;>decide
   have hj1:j<=10:=by rcases hj with rfl | rfl<;>decide
   refine az (decide_eq_true hj0) ?_;have h1:0<=mix x / 8 % j:=LM _ (MY hj0);have h2:mix x / 8 % j<j:=Mc _ hj0;refine e12 (t5 (mix x / 8 % j).toNat (tn h1 (LQ h2 hj1))) λc hcs e3=>?_;refine ae xA (aw (ba h1 (by show _<(10:Int);exact LQ h2 hj1)) e3 ?_);refine ⟨.inr (by unfold fC;decide),?_⟩;have hp0:∀o o',h<+:(h++[o])++[o']:=λo o'=>aa (aa (aj _));refine ih (n:=n) (by lia) (af (hp0 _ _) hr) (af (hp0 _ _) hrl) hs hsl λt h₁ ht hd hpre0=>?_;have hpre:h<+:h₁:=(hp0 _ _).trans hpre0;clear hpre0;have last:∀{rr:Nat} {sr:List (List Nat)},h₁[rr]?=J (.list (sr.map .str))->(∀s∈sr,okS s)->(∀s,s∈sr\/s∈sl->s∈ss\/s∈sl)->
     K (n+L+2) 11 [.int (mix x * 5+2),.ref rr,.ref rl,.bool d,.int (l-1)] (λv h'=>Q (.tup [.str [c],t.mv,v]) h') (λc h'=>X c h') h₁:=λ{rr sr} g1 g3 g4=>by
    refine ih (by lia) g1 (af hpre hrl) g3 hsl λt' h' ht' hd' hpre'=>?_;refine hq (.op c t t') h' ⟨hcs,ht,ht'.mono g4⟩ ?_ (hpre.trans hpre');exact KJ (mx hd hd')
   refine dP (λq=>?_) λe47=>?_
   ·obtain rfl:c=47:=(LX (eq_of_beq q)).1;refine dP (λh3=>?_) λh3=>?_
    ·refine hq (.op 47 t (.num (1+mix x / 320 % 9))) h₁ ⟨hcs,ht,by show _/\_;lia⟩ ?_ hpre;exact KJ (mx0 hd)
    ·refine ⟨.inr (by unfold fC;decide),?_⟩;exact last (af hpre hrl) hsl λs hs=>hs.elim .inr .inr
   ·refine bx e47 ?_;refine ⟨.inr (by unfold fC;decide),?_⟩;exact last (af hpre hr) hs λs hs=>hs
end
noncomputable abbrev cO:List Nat:=[115,101,116]
noncomputable abbrev dJ:List Nat:=[116,101,108,108]
noncomputable abbrev jC:List Nat:=[115,107,105,112]
noncomputable abbrev wIf:List Nat:=[105,102]
noncomputable abbrev cu:List Nat:=[101,108,115,101]
noncomputable abbrev bv:List Nat:=[119,104,105,108,101]
noncomputable abbrev b8:List Nat:=[101,110,100]
set_option genCtorIdx false in
inductive Rw where
 | set (s:List Nat) (t:Tm) | tell (t:Tm) | skip | ite (t:Tm) (a b:List Rw) | wh (t:Tm) (a:List Rw)
gen_injective_theorems% Rw
noncomputable def Gn (s:List Nat):Prop:=Nm s/\s∉kws
noncomputable def Tm.good (t:Tm):Prop:=t.ok Gn/\t.deep<=3
noncomputable def Tm.txt:Tm->List Nat
 | .num k=>dec k
 | .nm s=>s
 | .op c a b=>[c]++[32]++a.txt++[32]++b.txt
mutual
noncomputable def Rw.mv:Rw->MV
 | .set s t=>.tup [.str cO,.str s,t.mv]
 | .tell t=>.tup [.str dJ,t.mv]
 | .skip=>.tup [.str jC]
 | .ite t a b=>.tup [.str wIf,t.mv,.tup (mvs a),.tup (mvs b)]
 | .wh t a=>.tup [.str bv,t.mv,.tup (mvs a)]
noncomputable def mvs:List Rw->List MV
 | []=>[]
 | r::rs=>r.mv::mvs rs
end
mutual
noncomputable def Rw.good:Rw->Prop
 | .set s t=>Gn s/\t.good
 | .tell t=>t.good
 | .skip=>True
 | .ite t a b=>t.good/\b0 a/\b0 b
 | .wh t a=>t.good/\b0 a
noncomputable def b0:List Rw->Prop
 | []=>True
 | r::rs=>r.good/\b0 rs
end
mutual
noncomputable def Rw.nest:Rw->Nat
 | .ite _ a b=>max (ak a) (ak b)+1
 | .wh _ a=>ak a+1
 | _=>0
noncomputable def ak:List Rw->Nat
 | []=>0
 | r::rs=>max r.nest (ak rs)
end
mutual
noncomputable def Rw.lines:Rw->List (List Nat)
 | .set s t=>[cO++[32]++s++[32]++t.txt]
 | .tell t=>[dJ++[32]++t.txt]
 | .skip=>[jC]
 | .ite t a b=>(wIf++[32]++t.txt)::(lns a++cu::(lns b++[b8]))
 | .wh t a=>(bv++[32]++t.txt)::(lns a++[b8])
noncomputable def lns:List Rw->List (List Nat)
 | []=>[]
 | r::rs=>r.lines++lns rs
end
theorem fQ:∀(a b:List Rw),mvs (a++b)=mvs a++mvs b
 | [],b=>rfl
 | r::a,b=>by show r.mv::mvs (a++b)=r.mv::(mvs a++mvs b);rw [fQ a b]
theorem cv:∀(a b:List Rw),lns (a++b)=lns a++lns b
 | [],b=>rfl
 | r::a,b=>by show r.lines++lns (a++b)=r.lines++lns a++lns b;rw [cv a b,Ks]
theorem eY:∀{a b:List Rw}{k:Nat},ak a<=k->ak b<=k->ak (a++b)<=k
 | [],_,_,_,h=>h
 | r::a,b,k,h,h'=>by
  have h:max r.nest (ak a)<=k:=h;exact NX.mpr ⟨(NX.mp h).1,eY (NX.mp h).2 h'⟩
theorem eZ:∀{rs:List Rw},b0 rs->∀r∈rs,r.good
 | _::_,h,r,hr=>by
  rcases IF.mp hr with rfl | hr
  ·exact h.1
  ·exact eZ h.2 r hr
theorem dw:∀{rs:List Rw}{k:Nat},ak rs<=k->∀r∈rs,r.nest<=k
 | q::rs,k,h,r,hr=>by
  have h:max q.nest (ak rs)<=k:=h
  rcases IF.mp hr with rfl | hr
  ·exact (NX.mp h).1
  ·exact dw (NX.mp h).2 r hr
theorem cj:∀(rs:List Rw),(mvs rs).length=rs.length
 | []=>rfl
 | r::rs=>congrArg (·+1) (cj rs)
theorem xD (r:Rw):1<=r.lines.length:=by
 cases r<;>exact L9 1 _
theorem ky:∀(rs:List Rw),rs.length<=(lns rs).length
 | []=>oF _
 | r::rs=>by
  have h1:=xD r;have h2:=ky rs;show rs.length+1<=(r.lines++lns rs).length;rw [eQ];exact n2 h2 h1
theorem mQ {rs:List Rw}{j:Nat}{x:MV}:(mvs rs)[j]?=J x->∃r,rs[j]?=J r/\x=r.mv:=by
 induction rs generalizing j with
 | nil=>intro h;cases h
 | cons r rs ih=>
  intro h
  cases j with
  | zero=>exact ⟨r,rfl,(By h).symm⟩
  | succ j=>exact ih h
theorem Tm.good.sub (h:(Tm.op c a b).good):a.good/\b.good:=by
 obtain ⟨⟨_,h1,h2⟩,h3⟩:=h;have h3:max a.deep b.deep+1<=3:=h3;exact ⟨⟨h1,n2 h3 (KF a.deep b.deep)⟩,h2,n2 h3 (KI a.deep b.deep)⟩
theorem room (h:k<N):∃M,N=M+1/\k<=M:=⟨N-1,sb (n1 h),Nat.le_sub_one_of_lt h⟩
theorem kc (hK:aD P K)(d:Fn)(hN:k<N)(e:P f=J d)(l:vs.length=d.args)(w:∀M,k<=M->aA K M d.body (fin Q) (xin X) (ec d vs h)):K N f vs Q X h:=by
 obtain ⟨M,rfl,hM⟩:=room hN;exact hK _ _ _ _ _ _ d e l (w M hM)
theorem d7 (r:Rw):lns [r]=r.lines:=Kr _
theorem ap {h:List MO}(hne:i≠j)(e:h[j]?=J o):(h.set i o')[j]?=J o:=by
 rw [Na hne];exact e
theorem bW (hp:List MO)(x y:List (List Nat)):(hp++[MO.list (x.map .str++y.map .str)])[hp.length]?=J (.list ((x++y).map .str)):=by
 rw [ac,KB]
theorem bG {x y:List (List Nat)}(h:x.length+y.length<=100000):(x.map MV.str).length+(y.map MV.str).length<=line:=aR (by rw [iF,iF];exact dO h (nb rfl))
theorem gq (I:Nat->List MV->MS->Prop)(h0:I 0 [] m)(hg:∀i a m,I i a m->aS g m.heap)
  (hstep:∀i x a m (P:Option MV->MS->Prop),items[i]?=J x->I i a m->(∀y m',I (i+1) (a++[y]) m'->P (J y) m')->(∀m',I (i+1) a m'->P bY m')->step x P m)
  (hend:∀a m,I items.length a m->Q a m):dA g step Q items [] m:=by
 have key:∀(l:List MV) (i:Nat) (a:List MV) (m:MS),i+l.length=items.length->items.drop i=l->I i a m->dA g step Q l a m:=by
  intro l
  induction l with
  | nil=>
   intro i a m hl e hI;have hl:i=items.length:=hl;subst hl;rw [kZ];exact ⟨hg _ _ m hI,hend a m hI⟩
  | cons x l ih=>
   intro i a m hl e hI;rw [KQ] at hl;have hlt:i<items.length:=n1 (Km hl);have e':=Le hlt;rw [e] at e';obtain ⟨e1,e2⟩:=LX e';rw [gF];exact ⟨hg i a m hI,hstep i x a m _ (by rw [KC hlt,e1]) hI (λy m' h'=>ih (i+1) _ m' (by lia) e2.symm h') λm' h'=>ih (i+1) _ m' (by lia) e2.symm h'⟩
 exact key items 0 [] m (by simp) (by simp) h0
theorem vh (st:σ->MS)(I:σ->Prop)(w:σ)(e0:m=st w)(h0:I w)(hg:∀w,I w->aS g (st w).heap)
  (hstep:∀(i:Nat) x w (P:Option MV->MS->Prop),items[i]?=J x->I w->(∀y w,I w->P (J y) (st w))->(∀w,I w->P bY (st w))->step x P (st w)) (hend:∀a w,I w->Q a (st w)):dA g step Q items [] m:=by
 refine gq (λi a m=>∃w,m=st w/\I w) ⟨w,e0,h0⟩ (λi a m hI=>?_) (λi x a m P hx hI h1 h2=>?_) (λa m hI=>?_)
 ·obtain ⟨w,rfl,h⟩:=hI;exact hg w h
 ·obtain ⟨w,rfl,h⟩:=hI;exact hstep i x w P hx h (λy w h=>h1 y _ ⟨w,rfl,h⟩) λw h=>h2 _ ⟨w,rfl,h⟩
 ·obtain ⟨w,rfl,h⟩:=hI;exact hend a w h
theorem kz (st:Option MV->MS)(acc:Nat->List MV)(w:Option MV)(e0:m=st w)(a0:acc 0=[])(hg:∀w,aS g (st w).heap)
  (hstep:∀i x w (P:Option MV->MS->Prop),items[i]?=J x->(∀y w,acc (i+1)=acc i++[y]->P (J y) (st w))->(∀w,acc (i+1)=acc i->P bY (st w))->step x P (st w)) (hend:∀w,Q (acc items.length) (st w)):dA g step Q items [] m:=by
 refine gq (λi a m=>∃w,m=st w/\a=acc i) ⟨w,e0,a0.symm⟩ (λi a m hI=>?_) (λi x a m P hx hI h1 h2=>?_) (λa m hI=>?_)
 ·obtain ⟨w,rfl,_⟩:=hI;exact hg w
 ·obtain ⟨w,rfl,rfl⟩:=hI;exact hstep i x w P hx (λy w e=>h1 y _ ⟨w,rfl,e.symm⟩) λw e=>h2 _ ⟨w,rfl,e.symm⟩
 ·obtain ⟨w,rfl,rfl⟩:=hI;exact hend w
theorem Dc (st:σ->MS)(I:Nat->List MV->σ->Prop)(w:σ)(e0:m=st w)(h0:I 0 [] w)(hg:∀i a w,I i a w->aS g (st w).heap)
  (hstep:∀i x a w (P:Option MV->MS->Prop),items[i]?=J x->I i a w->(∀y w,I (i+1) (a++[y]) w->P (J y) (st w))->(∀w,I (i+1) a w->P bY (st w))->step x P (st w)) (hend:∀a w,I items.length a w->Q a (st w)):dA g step Q items [] m:=by
 refine gq (λi a m=>∃w,m=st w/\I i a w) ⟨w,e0,h0⟩ (λi a m hI=>?_) (λi x a m P hx hI h1 h2=>?_) (λa m hI=>?_)
 ·obtain ⟨w,rfl,h⟩:=hI;exact hg i a w h
 ·obtain ⟨w,rfl,h⟩:=hI;exact hstep i x a w P hx h (λy w h=>h1 y _ ⟨w,rfl,h⟩) λw h=>h2 _ ⟨w,rfl,h⟩
 ·obtain ⟨w,rfl,h⟩:=hI;exact hend a w h
theorem e8 (e:hp[r]?=J (.list xs)):jX .extend (.ref r) hp=aT:=by
 show (wA r hp[r]?).isSome=aT;rw [e];rfl
theorem aq {rs:List α}(e:rs[j]?=J r):rs.take (j+1)=rs.take j++[r]:=by
 rw [List.take_add_one,e];rfl
noncomputable abbrev sgs:List (List Nat):=[[43],[45],[42],[47],[60],[61]]
theorem z6:∀s∈sgs,okS s:=by unfold okS;decide
theorem mR (h:cM c):sgs.contains [c]=aT/\okS [c]:=by
 rcases h with rfl | rfl | rfl | rfl | rfl | rfl<;>exact ⟨rfl,by unfold okS;decide⟩
section
variable {Q:MV->List MO->Prop}{X:XT}{h:List MO}
variable {K:KT}(hK:aD PP K)
include hK
theorem Dd (h0:0<=k)(h1:k<=b)(hq:Q (.bool aT) h):K (n+1) 22 [.int k,.int b] Q X h:=by
 refine hK _ _ _ _ _ _ ik rfl rfl ?_;refine jl (decide_eq_true h0) ?_
 conv=>whnf
 rw [decide_eq_true h1];exact hq
theorem od (h0:0<=k/\k<1000000)(hq:Q (.bool aT) h):K (n+2) 23 [.int k] Q X h:=by
 refine hK _ _ _ _ _ _ kf rfl rfl ?_;exact Dd hK h0.1 (z1 h0.2) hq
omit hK in
theorem GY {s:List Nat}(h:∀c∈s,c<128):s.all (λc=>decide (c<128))=aT:=K2.mpr λc hc=>decide_eq_true (h c hc)
omit hK in
theorem si {s:List Nat}(h:∀c∈s,c<128):dz .val [.str s] hp=J (s.map (λc=>.str [c]),bY):=by
 show (match s.all (λc=>decide (c<128)) with
  | true=>J (s.map (λc=>MV.str [c]),bY)
  | false=>bY)=_
 rw [GY h]
omit hK in
theorem sj {s:List Nat}{i:Nat}{x:MV}(e:(s.map (λc=>MV.str [c]))[i]?=J x):∃c∈s,x=.str [c]:=by
 refine e12 (ID ..▸e |> EQ.mp) λc h1 h2=>?_;exact ⟨c,rW h1,h2.symm⟩
omit hK in
theorem oe (h:s≠[]):s[0]?=J (s.headD 0):=by
 cases s with
 | nil=>exact absurd rfl h
 | cons=>rfl
noncomputable abbrev t6:List Nat:=[48,49,50,51,52,53,54,55,56,57]
omit hK in
theorem xE:∀c∈mi,abc.contains c=aT\/t6.contains c=aT:=by decide
theorem iG {n:Nat}{s:List Nat}(hs:Gn s)(hq:Q (.bool aT) h):K (n+1) 24 [.str s] Q X h:=by
 have hp:0<s.length:=MI.mpr hs.1.1;have h8:=hs.1.2.1;refine hK _ _ _ _ _ _ jM rfl rfl ?_;refine jl (decide_eq_true (Ly.mpr hp)) ?_;refine bx (ng (decide_eq_true (Ly.mpr h8))) ?_;refine Ka (ss:=kws) hs.1.ok eI hs.2 ?_;refine aw (ba (by decide) (kX hp)) (oe hs.1.1) ?_;refine bx (ng (KL.mpr hs.1.2.2.2)) ?_;refine aI (si λc hc=>rX c (hs.1.2.2.1 c hc)) ?_;refine gS (λ_ w=>⟨[J (.str s),w],h⟩) (λ_ _=>True) bY rfl trivial (λ_ _ _=>trivial) (λi y w P hy _ hn _=>?_) (λw _=>hq);obtain ⟨c,hc,rfl⟩:=sj hy;have h2:=xE c (hs.1.2.2.1 c hc);refine dP (λq=>?_) λ_=>hn _ trivial;exact bx (ng (h2.resolve_left λr=>by rw [r] at q;exact ff q)) (hn _ trivial)
end
noncomputable def holds (l:Bool)(n:Nat)(hp:List MO)(u:MV)(xs:List MV):Prop:=match l with
 | false=>u=.tup xs
 | true=>∃i,n<=i/\u=.ref i/\hp[i]?=J (.list xs)
mutual
noncomputable def Rw.is (l:Bool)(n:Nat)(hp:List MO):Rw->MV->Prop
 | .set s t,x=>x=.tup [.str cO,.str s,t.mv]
 | .tell t,x=>x=.tup [.str dJ,t.mv]
 | .skip,x=>x=.tup [.str jC]
 | .ite t a b,x=>∃u v,x=.tup [.str wIf,t.mv,u,v]/\(∃xs,holds l n hp u xs/\dK l n hp a xs)/\∃xs,holds l n hp v xs/\dK l n hp b xs
 | .wh t a,x=>∃u,x=.tup [.str bv,t.mv,u]/\∃xs,holds l n hp u xs/\dK l n hp a xs
noncomputable def dK (l:Bool)(n:Nat)(hp:List MO):List Rw->List MV->Prop
 | [],xs=>xs=[]
 | r::rs,xs=>∃y ys,xs=y::ys/\r.is l n hp y/\dK l n hp rs ys
end
noncomputable def dT (l:Bool)(n:Nat)(hp:List MO)(rs:List Rw)(u:MV):Prop:=∃xs,holds l n hp u xs/\dK l n hp rs xs
noncomputable def xF (n n':Nat)(hp hp':List MO):Prop:=n'<=n/\∀i o,n<=i->hp[i]?=J o->hp'[i]?=J o
theorem xF.pre (e:hp<+:hp'):xF n n hp hp':=⟨oF _,λ_ _ _ h=>af e h⟩
section
variable {l:Bool}
theorem holds.up (h:holds l n hp u xs)(e:xF n n' hp hp'):holds l n' hp' u xs:=by
 cases l with
 | false=>exact h
 | true=>obtain ⟨i,h0,h1,h2⟩:=h;exact ⟨i,dO e.1 h0,h1,e.2 i _ h0 h2⟩
mutual
theorem Rw.is_up (e:xF n n' hp hp'):∀(r:Rw) (x:MV),r.is l n hp x->r.is l n' hp' x
 | .set s t,x,h=>h
 | .tell t,x,h=>h
 | .skip,x,h=>h
 | .ite t a b,x,h=>by
  obtain ⟨u,v,h1,⟨xs,h2,h3⟩,ys,h4,h5⟩:=h;exact ⟨u,v,h1,⟨xs,h2.up e,fq e a xs h3⟩,ys,h4.up e,fq e b ys h5⟩
 | .wh t a,x,h=>by
  obtain ⟨u,h1,xs,h2,h3⟩:=h;exact ⟨u,h1,xs,h2.up e,fq e a xs h3⟩
theorem fq (e:xF n n' hp hp'):∀(rs:List Rw) (xs:List MV),dK l n hp rs xs->dK l n' hp' rs xs
 | [],xs,h=>h
 | r::rs,xs,h=>by
  refine e23 h λy ys h1 h2 h3=>?_;exact ⟨y,ys,h1,r.is_up e y h2,fq e rs ys h3⟩
end
theorem dT.stay (h:dT l n hp rs u)(e:xF n n' hp hp'):dT l n' hp' rs u:=let ⟨xs,h1,h2⟩:=h;⟨xs,h1.up e,fq e rs xs h2⟩
theorem dT.up (h:dT l n hp rs u)(e:hp<+:hp'):dT l n hp' rs u:=h.stay (.pre e)
theorem vi:∀{rs:List Rw}{xs:List MV},dK l n hp rs xs->xs.length=rs.length
 | [],xs,h=>by have h:xs=[]:=h;rw [h];rfl
 | r::rs,xs,h=>by
  refine e23 h λy ys h1 _ h3=>?_;rw [h1];exact congrArg (·+1) (vi h3)
theorem qt:∀{rs:List Rw}{xs:List MV},dK l n hp rs xs->∀{j:Nat}{x:MV},xs[j]?=J x->∃r,rs[j]?=J r/\r.is l n hp x
 | [],xs,h,j,x,e=>by have h:xs=[]:=h;rw [h] at e;cases e
 | r::rs,xs,h,j,x,e=>by
  obtain ⟨y,ys,rfl,h2,h3⟩:=h
  cases j with
  | zero=>cases e;exact ⟨r,rfl,h2⟩
  | succ j=>exact qt h3 e
mutual
theorem jD:∀(r:Rw),r.is Z n hp r.mv
 | .set s t=>rfl
 | .tell t=>rfl
 | .skip=>rfl
 | .ite t a b=>⟨_,_,rfl,⟨_,rfl,kA a⟩,_,rfl,kA b⟩
 | .wh t a=>⟨_,rfl,_,rfl,kA a⟩
theorem kA:∀(rs:List Rw),dK Z n hp rs (mvs rs)
 | []=>rfl
 | r::rs=>⟨_,_,rfl,jD r,kA rs⟩
end
theorem sk (h:holds l n hp u xs):∃g,∀hp',hp<+:hp'->dz .val [u] hp'=J (xs,g)/\aS g hp':=by
 cases l with
 | false=>have h:u=.tup xs:=h;subst h;exact ⟨bY,λ_ _=>⟨rfl,trivial⟩⟩
 | true=>obtain ⟨i,_,rfl,h2⟩:=h;exact ⟨_,λhp' e=>⟨aG (af e h2),af e h2⟩⟩
end
section
noncomputable def an:Tm->List (List Nat)
 | .num _=>[]
 | .nm s=>[s]
 | .op _ a b=>an a++an b
theorem dj:∀t:Tm,(an t).length<=t.lv
 | .num _=>Ko _
 | .nm _=>oF _
 | .op c a b=>by
  have h1:=dj a;have h2:=dj b;show (an a++an b).length<=a.lv+b.lv;rw [eQ];exact n2 h2 h1
theorem og (l:List (List Nat)):(aK l).Nodup:=(mK l).imp λh q=>by subst q;exact Nf _ h
theorem kB {l t:List (List Nat)}(h:∀x∈l,x∈t):(aK l).length<=t.length:=jO _ _ (og l) λx hx=>h x (aE.mp hx)
theorem Tm.good.lv {t:Tm}(h:t.good):t.lv<=8:=dO t.lv_le (Mj (j:=3) (by decide) h.2)
theorem xG {c:Nat}(h:cM c){P:Nat->Prop}(h1:P 43)(h2:P 45)(h3:P 42)(h4:P 60)(h5:P 61)(h6:P 47):P c:=by
 rcases h with rfl | rfl | rfl | rfl | rfl | rfl
 ·exact h1
 ·exact h2
 ·exact h3
 ·exact h4
 ·exact h5
 ·exact h6
variable (hK:aD PP K)
include hK
theorem De:∀(t:Tm) {N:Nat}{Q:MV->List MO->Prop}{X:XT}{h:List MO},t.deep<N->t.ok p->t.lv<=1000->
  (∀r h',h<+:h'->h'[r]?=J (.list ((an t).map .str))->Q (.ref r) h')->K N 0 [t.mv] Q X h
 | .num k,N,Q,X,h,hN,ht,hl,hq=>by
  obtain ⟨M,rfl,hM⟩:=room hN;refine hK _ _ _ _ _ _ eW rfl rfl ?_;exact hq _ _ (aa (aj _)) (ac _ _)
 | .nm s,N,Q,X,h,hN,ht,hl,hq=>by
  obtain ⟨M,rfl,hM⟩:=room hN;refine hK _ _ _ _ _ _ eW rfl rfl ?_;exact hq _ _ (aa (aj _)) (ac _ _)
 | .op c a b,N,Q,X,h,hN,ht,hl,hq=>by
  have hN:max a.deep b.deep+1<N:=hN;have hl:a.lv+b.lv<=1000:=hl;obtain ⟨M,rfl,hM⟩:=room hN;refine e03 ht λhc ha hb=>?_;have ea:=dj a;have eb:=dj b;refine hK _ _ _ _ _ _ eW rfl rfl ?_;refine bx (show ([c]==z4)=Z by simp) ?_;refine bx (show ([c]==rZ)=Z by simp) ?_;refine De a (n2 hN (KF a.deep b.deep)) ha (n1 hl) λr1 h1 p1 e1=>?_;refine De b (n2 hN (KI a.deep b.deep)) hb (n1 hl) λr2 h2 p2 e2=>?_
  conv=>whnf
  rw [af p2 e1,e2];refine ⟨bG (n3 eb ea hl),?_⟩;exact hq _ _ (aa (Nq p1 p2)) (bW _ _ _)
theorem jQ {t:Tm}{h:List MO}(hN:t.deep+1<N)(ht:t.ok p)(hl:t.lv<=60)
  (hq:∀r h',h<+:h'->h.length<=r->h'[r]?=J (.list ((aK (an t)).map .str))->Q (.ref r) h'):K N 1 [t.mv] Q X h:=by
 obtain ⟨M,rfl,hM⟩:=room hN;refine hK _ _ _ _ _ _ lZ rfl rfl ?_;refine De hK t (hM) ht (dO hl (nb rfl)) λr1 h1 p1 e1=>?_;have p1:h<+:h1:=p1;refine ae e1 ?_;have e1:=dj t;have e2:(aK (an t)).length<=(an t).length:=kB λx hx=>hx;exact .mk (an t) rfl (Ef (n3 e2 e1 hl)) (n2 e1 hl) (hq _ _ (aa p1) p1.length_le (ac _ _))
theorem qu:∀(t:Tm) {N:Nat}{d:Int}{Q:MV->List MO->Prop}{X:XT}{h:List MO},t.ok Gn->d+t.deep<=12->t.deep+2<N->Q .none h->K N 55 [t.mv,.int d] Q X h
 | .num k,N,d,Q,X,h,ht,hd,hN,hq=>by
  obtain ⟨M,rfl,hM⟩:=room hN;obtain ⟨M,rfl⟩:∃M',M=M'+2:=⟨M-2,sb hM⟩
  have hd:¬ 12<d:=dn (n:=0) hd;refine hK _ _ _ _ _ _ df rfl rfl ?_;refine bx (decide_eq_false hd) ?_;exact od hK ht hq
 | .nm s,N,d,Q,X,h,ht,hd,hN,hq=>by
  obtain ⟨M,rfl,hM⟩:=room hN;obtain ⟨M,rfl⟩:∃M',M=M'+1:=⟨M-1,sb (n1 hN)⟩
  have hd:¬ 12<d:=dn (n:=0) hd;refine hK _ _ _ _ _ _ df rfl rfl ?_;refine bx (decide_eq_false hd) ?_;exact iG hK ht hq
 | .op c a b,N,d,Q,X,h,ht,hd,hN,hq=>by
  have hN:max a.deep b.deep+1+2<N:=hN;have hd:d+(max a.deep b.deep+1:Nat)<=12:=hd;obtain ⟨M,rfl,hM⟩:=room hN;refine e03 ht λhc ha hb=>?_;refine hK _ _ _ _ _ _ df rfl rfl ?_;refine bx (decide_eq_false (dn hd)) ?_;show InP _ _ (sgs.map .str) _;refine bV (mR hc).2 z6 ?_;rw [(mR hc).1];refine qu a ha (dl hd).1 (n2 hN (KF a.deep b.deep)) ?_;exact qu b hb (dl hd).2 (n2 hN (KI a.deep b.deep)) hq
end
section
noncomputable def Rw.subs:Rw->List (List Rw)
 | .ite _ a b=>[a,b]
 | .wh _ a=>[a]
 | _=>[]
mutual
theorem GZ {P:List Rw->Prop}(h:∀rs,(∀r∈rs,∀b∈r.subs,P b)->P rs):∀(r:Rw),∀b∈r.subs,P b
 | .set _ _,b,hb=>by cases hb
 | .tell _,b,hb=>by cases hb
 | .skip,b,hb=>by cases hb
 | .ite _ x y,b,hb=>by
  rcases IF.mp hb with e | hb
  ·rw [e];exact h x (kC h x)
  ·rw [iD.mp hb];exact h y (kC h y)
 | .wh _ x,b,hb=>by rw [iD.mp hb];exact h x (kC h x)
theorem kC {P:List Rw->Prop}(h:∀rs,(∀r∈rs,∀b∈r.subs,P b)->P rs):∀(rs:List Rw),∀r∈rs,∀b∈r.subs,P b
 | [],r,hr=>by cases hr
 | q::rs,r,hr=>by
  rcases IF.mp hr with e | hr
  ·rw [e];exact GZ h q
  ·exact kC h rs r hr
end
theorem dc {P:List Rw->Prop}(h:∀rs,(∀r∈rs,∀b∈r.subs,P b)->P rs)(rs:List Rw):P rs:=h rs (kC h rs)
theorem gu {r:Rw}:∀b∈r.subs,ak b<r.nest:=by
 cases r with
 | ite t x y=>
  intro b hb;show ak b<max (ak x) (ak y)+1
  rcases IF.mp hb with rfl | hb
  ·exact n1 (KF (ak b) (ak y))
  ·rw [iD.mp hb];exact n1 (KI (ak x) (ak y))
 | wh t x=>intro b hb;rw [iD.mp hb];exact Lp _
 | _=>intro b hb;cases hb
theorem sm {r:Rw}(h:r.good):∀b∈r.subs,b0 b:=by
 cases r with
 | ite t x y=>
  intro b hb
  rcases IF.mp hb with rfl | hb
  ·exact h.2.1
  ·rw [iD.mp hb];exact h.2.2
 | wh t x=>intro b hb;rw [iD.mp hb];exact h.2
 | _=>intro b hb;cases hb
theorem lu {r:Rw}:∀b∈r.subs,(lns b).length<=r.lines.length:=by
 cases r with
 | ite t x y=>
  intro b hb;show (lns b).length<=((_:List Nat)::(lns x++cu::(lns y++[b8]))).length;simp only [KQ,eQ]
  rcases IF.mp hb with rfl | hb
  ·exact by simp +arith only
  ·rw [iD.mp hb];exact by simp +arith only
 | wh t x=>
  intro b hb;rw [iD.mp hb];show (lns x).length<=((_:List Nat)::(lns x++[b8])).length;simp only [KQ,eQ];exact by simp +arith only
 | _=>intro b hb;cases hb
theorem pG:∀{rs:List Rw},∀r∈rs,r.lines.length<=(lns rs).length
 | q::rs,r,hr=>by
  show _<=(q.lines++lns rs).length;rw [eQ]
  rcases IF.mp hr with rfl | hr
  ·exact by simp +arith only
  ·have:=pG r hr;exact n1 this
section
noncomputable def mS (l:Bool)(n:Nat)(hp:List MO):List (List Rw)->List MV->Prop
 | [],us=>us=[]
 | b::bs,us=>∃u vs,us=u::vs/\dT l n hp b u/\mS l n hp bs vs
theorem kD:∀{bs:List (List Rw)}{us:List MV},mS l n hp bs us->∀{j:Nat}{u:MV},us[j]?=J u->∃b,bs[j]?=J b/\dT l n hp b u
 | [],us,h,j,u,e=>by have h:us=[]:=h;rw [h] at e;cases e
 | b::bs,us,h,j,u,e=>by
  obtain ⟨y,ys,rfl,h2,h3⟩:=h
  cases j with
  | zero=>cases e;exact ⟨b,rfl,h2⟩
  | succ j=>exact kD h3 e
theorem oh:∀{bs:List (List Rw)}{us:List MV},mS l n hp bs us->us.length=bs.length
 | [],us,h=>by have h:us=[]:=h;rw [h];rfl
 | b::bs,us,h=>by
  obtain ⟨y,ys,rfl,h2,h3⟩:=h;exact congrArg (·+1) (oh h3)
inductive oY (l:Bool)(n:Nat)(hp:List MO):Rw->MV->Prop
 | set (s t):oY l n hp (.set s t) (.tup [.str cO,.str s,t.mv])
 | tell (t):oY l n hp (.tell t) (.tup [.str dJ,t.mv])
 | skip:oY l n hp .skip (.tup [.str jC])
 | ite {t a b u v}:dT l n hp a u->dT l n hp b v->oY l n hp (.ite t a b) (.tup [.str wIf,t.mv,u,v])
 | wh {t a u}:dT l n hp a u->oY l n hp (.wh t a) (.tup [.str bv,t.mv,u])
theorem gv (h:r.is l n hp x):oY l n hp r x:=by
 cases r with
 | set s t=>have h:x=_:=h;subst h;exact .set s t
 | tell t=>have h:x=_:=h;subst h;exact .tell t
 | skip=>have h:x=_:=h;subst h;exact .skip
 | ite t a b=>obtain ⟨u,v,rfl,h1,h2⟩:=h;exact .ite h1 h2
 | wh t a=>obtain ⟨u,rfl,h1⟩:=h;exact .wh h1
end
noncomputable def Rw.fm:Rw->MV
 | .set _ t=>t.mv
 | .tell t=>t.mv
 | .skip=>.none
 | .ite t _ _=>t.mv
 | .wh t _=>t.mv
variable (hK:aD PP K)
include hK
theorem kE (hx:oY l n h r x)(hN:0<N)(hq:∀us,mS l n h r.subs us->Q (.ref h.length) (h++[.list us])):K N 25 [x] Q X h:=by
 obtain ⟨M,rfl,hM⟩:=room hN;refine hK _ _ _ _ _ _ dG rfl rfl ?_
 cases hx with
 | set s t=>exact hq [] rfl
 | tell t=>exact hq [] rfl
 | skip=>exact hq [] rfl
 | @ite t a b u v h1 h2=>exact hq [u,v] ⟨u,[v],rfl,h1,v,[],rfl,h2,rfl⟩
 | @wh t a u h1=>exact hq [u] ⟨u,[],rfl,h1,rfl⟩
theorem mj (hx:oY l n h r x)(hN:0<N)(hq:Q r.fm h):K N 26 [x] Q X h:=by
 obtain ⟨M,rfl,hM⟩:=room hN;refine hK _ _ _ _ _ _ fU rfl rfl ?_
 cases hx<;>exact hq
theorem qv (hu:holds l n h u xs)(hN:0<N)(hq:Q (.bool aT) h):K N 56 [u] Q X h:=by
 obtain ⟨M,rfl,hM⟩:=room hN;refine hK _ _ _ _ _ _ l7 rfl rfl ?_
 cases l with
 | false=>have hu:u=_:=hu;subst hu;exact hq
 | true=>
  obtain ⟨i,_,rfl,e⟩:=hu
  conv=>whnf
  dsimp only [ec];rw [show kY h (.ref i) .list=J aT from congrArg (tyO · .list) e,show kY h (.ref i) .tuple=J Z from congrArg (tyO · .tuple) e];exact hq
omit hK in
theorem t7:(M8 n aT).all id=aT:=K2.mpr λx hx=>by rw [List.eq_of_mem_replicate hx];rfl
theorem z7 {r:Rw}{x:MV}{l:Bool}{n N:Nat}{X:XM}(hx:oY l n h r x)(hN:0<N){w:Option MV}(hq:∀h',h<+:h'->Q (.bool aT) h') :
  wpS K N (.ret (.blt .all [.comp (.call 56 [.var 1]) [1] Z .val [.call 25 [.var 0]] []])) (fin Q) X ⟨[J x,w],h⟩:=by
 refine kE hK hx hN λus hus=>?_;refine aI (aG (ac _ _)) ?_;refine gq (λj a m=>∃w,m.vars=[J x,w]/\a=(M8 j aT).map .bool/\m.heap=h++[.list us]) ⟨_,rfl,rfl,rfl⟩ (λ_ _ m hI=>by obtain ⟨_,_,_,e⟩:=hI;rw [e];exact ac _ _) (λj y a m P hy hI h1 h2=>?_) (λa m hI=>?_)
 ·obtain ⟨vars,hp⟩:=m;obtain ⟨w,rfl,rfl,rfl⟩:=hI;obtain ⟨b,_,xs,hb,_⟩:=kD hus hy;exact qv hK (hb.up (.pre (aa (aj _)))) hN (h1 _ _ ⟨_,rfl,by rw [List.replicate_succ',KB];rfl,rfl⟩)
 ·obtain ⟨vars,hp⟩:=m;obtain ⟨w,rfl,rfl,rfl⟩:=hI
  conv=>whnf
  rw [ac];have:=oh hus;have h2:r.subs.length<=2:=by cases r<;>first | exact oF _ | exact Ma _ | exact Ko _
  exact .mk _ rfl (by rw [List.length_replicate];exact n2 h2 (Km this)) (by rw [t7];exact hq _ (aa (aa (aj _))))
theorem G0 {r:Rw}(hg:r.good)(hx:oY l n h r x)(hN:1<N)(hq:∀h',h<+:h'->Q (.bool aT) h'):K N 57 [x] Q X h:=by
 obtain ⟨M,rfl,hM⟩:=room hN;refine hK _ _ _ _ _ _ l8 rfl rfl ?_;have fin:=z7 hK (X:=λc m=>X c m.heap) (w:=none) hx hM hq;obtain ⟨M,rfl,_⟩:=room hM
 cases hx with
 | set s t=>exact iG hK hg.1 fin
 | tell t=>exact fin
 | skip=>exact fin
 | ite h1 h2=>exact fin
 | wh h1=>exact fin
end
section
noncomputable def NB (K:KT)(rs:List Rw):Prop:=∀{l:Bool}{u:MV}{N:Nat}{d:Int}{Q:MV->List MO->Prop}{X:XT}{h:List MO},b0 rs->dT l 0 h rs u->d+ak rs<=8->ak rs+7<N->(∀h',h<+:h'->Q .none h')->K N 58 [u,.int d] Q X h
noncomputable def SB (K:KT)(rs:List Rw):Prop:=∀{l:Bool}{u:MV}{N:Nat}{Q:MV->List MO->Prop}{X:XT}{h:List MO},dT l 0 h rs u->(lns rs).length<=100000->ak rs+1<N->(∀h',h<+:h'->Q (.tup (mvs rs)) h')->K N 60 [u] Q X h
variable (hK:aD PP K)
include hK
theorem Df (rs:List Rw)(ih:∀r∈rs,∀b∈r.subs,NB K b):NB K rs:=by
 intro l u N d Q X h hg hu hd hN hq;refine e12 hu λxs h1 h2=>?_;obtain ⟨M,rfl,hM⟩:=room hN;refine hK _ _ _ _ _ _ kg rfl rfl ?_;obtain ⟨g,e1⟩:=sk h1;refine aI ((e1 _ (aj _)).1) ?_;refine gV (λj w2 w3 hp=>⟨[J u,J (.int d),w2,w3],hp⟩) (λj w2 w3 hp=>h<+:hp)
  _ _ _ rfl (aj _) (λ_ _ _ _ h=>(e1 _ h).2) (λj x w2 w3 hp P hx hI hn _=>?_) (λw2 w3 hp hI=>?_)
 ·have hp1:=hI;refine e12 (qt h2 hx) λr hr hr2=>?_;have hmem:=rW hr;have gr:=eZ hg r hmem;have nr:=dw (oF (ak rs)) r hmem;have v:=gv (r.is_up (.pre hp1) x hr2);refine G0 hK gr v (n1 hN) λh' p'=>?_;have p':hp<+:h':=p';have hp2:=hp1.trans p';have v':=gv (r.is_up (.pre hp2) x hr2);refine bx (decide_eq_false (dn hd)) ?_;have last:wpS K M (.for_ [3] Z .val [.call 25 [.var 2]] [.expr (.call 58 [.var 3,.bin .add (.var 1) (.cst (.int 1))])]) (λf m=>match f with
    | .next=>P .next m
    | f=>P f m) (xin X) ⟨[J u,J (.int d),J x,w3],h'⟩:=by
   refine kE hK v' (n1 hN) λus hus=>?_;refine aI (aG (ac _ _)) ?_;refine gT (λj w3 hp=>⟨[J u,J (.int d),J x,w3],hp⟩) (λj w3 hp=>h'++[.list us]<+:hp)
    _ _ rfl (aj _) (λ_ _ _ e=>af e (ac _ _)) (λj y w3 hp P hy hI hn _=>?_) (λw3 hp hI=>?_)
   ·have hp3:=hI;refine e12 (kD hus hy) λb hb hb2=>?_;have hbm:=rW hb;have nb:=gu b hbm;refine ih r hmem b hbm (sm gr b hbm) (hb2.up ((aa (aj _)).trans hp3)) (by lia) (n3 nb nr hN) λh'' p''=>?_;exact hn _ _ (hp3.trans p'')
   ·have hp3:=hI;exact hn _ _ _ (hp2.trans ((aa (aj _)).trans hp3))
  have gd:∀t:Tm,t.good->r.fm=t.mv->K M 26 [x] (λv h=>K M 55 [v,.int 1] (λ_ h=>wpS K M (.for_ [3] Z .val [.call 25 [.var 2]] [.expr (.call 58 [.var 3,.bin .add (.var 1) (.cst (.int 1))])]) (λf m=>match f with
    | .next=>P .next m
    | f=>P f m) (xin X) ⟨[J u,J (.int d),J x,w3],h⟩) X h) X h':=λt ht e=>mj hK v' (n1 hN) (by rw [e];exact qu hK t ht.1 (by have:=ht.2;lia) (by have:=ht.2;exact n2 this hN) last)
  cases v' with
  | set s t=>exact gd t gr.2 rfl
  | tell t=>exact gd t gr rfl
  | skip=>exact last
  | ite h1 h2=>exact gd _ gr.1 rfl
  | wh h1=>exact gd _ gr.1 rfl
 ·have hp1:=hI;exact hq _ hp1
theorem t8 (rs:List Rw):NB K rs:=dc (P:=λrs=>NB K rs) (λrs ih=>Df hK rs ih) rs
theorem Dg (rs:List Rw)(ih:∀r∈rs,∀b∈r.subs,SB K b):SB K rs:=by
 intro l u N Q X h hu hz hN hq;refine e12 hu λxs h1 h2=>?_;obtain ⟨M,rfl,hM⟩:=room hN;have hlen:=ky rs;refine hK _ _ _ _ _ _ n7 rfl rfl ?_;have hpre:h<+:h++[.list []]:=aa (aj _);obtain ⟨g,e1⟩:=sk h1;refine aI ((e1 _ hpre).1) ?_;refine gT (λj w hp=>⟨[J u,J (.ref h.length),w],hp⟩) (λj w hp=>h<+:hp/\hp[h.length]?=J (.list (mvs (rs.take j))))
  _ _ rfl ⟨hpre,ac _ _⟩ (λ_ _ _ hI=>(e1 _ hI.1).2) (λj x w hp P hx hI hn _=>?_) (λw hp hI=>?_)
 ·obtain ⟨hp1,hp2⟩:=hI;refine e12 (qt h2 hx) λr hr hr2=>?_;have hmem:=rW hr;have hj:j<rs.length:=(iN.mp hr).1;have nr:=dw (oF (ak rs)) r hmem;have lr:=pG r hmem;have put:∀h',hp<+:h'->(mvs (rs.take j)).length<line/\P .next ⟨[J u,J (.ref h.length),J x],h'.set h.length (.list (mvs (rs.take j)++[r.mv]))⟩:=λh' p'=>by
   refine ⟨by rw [cj];exact KG (Kn (List.length_take_le j rs) hj) (dO hlen (dO hz (aR (nb rfl)))),?_⟩;refine hn _ _ ⟨aF (hp1.trans p') (oF _),?_⟩;rw [aq hr,fQ];exact get_set (af p' hp2)
  have app:∀h',hp<+:h'->onL (lst (.ref h.length) h') λk xs=>xs.length<line/\P .next ⟨[J u,J (.ref h.length),J x],h'.set k (.list (xs++[r.mv]))⟩:=λh' p'=>by
   rw [aU (af p' hp2)];exact put h' p'
  cases gv (r.is_up (.pre hp1) x hr2) with
  | set s t=>
   refine az (aH hp2) ?_;exact app hp (aj _)
  | tell t=>
   refine az (aH hp2) ?_;exact app hp (aj _)
  | skip=>
   refine az (aH hp2) ?_;exact app hp (aj _)
  | @ite t a b va vb ha hb=>
   have na:=gu (r:=.ite t a b) a (.head _);have nb:=gu (r:=.ite t a b) b (.tail _ (.head _));have la:=lu (r:=.ite t a b) a (.head _);have lb:=lu (r:=.ite t a b) b (.tail _ (.head _));refine az (aH hp2) ?_;refine ih _ hmem a (.head _) ha (n3 la lr hz) (n3 na nr hN) λh3 p3=>?_;refine ih _ hmem b (.tail _ (.head _)) (hb.up p3) (n3 lb lr hz) (n3 nb nr hN) λh4 p4=>?_;exact app h4 (Nq p3 p4)
  | @wh t a va ha=>
   have na:=gu (r:=.wh t a) a (.head _);have la:=lu (r:=.wh t a) a (.head _);refine az (aH hp2) ?_;refine ih _ hmem a (.head _) ha (n3 la lr hz) (n3 na nr hN) λh3 p3=>?_;exact app h3 p3
 ·refine e02 hI λhp1 hp2=>?_;rw [vi h2,KD] at hp2;refine ae hp2 ?_;exact hq _ hp1
theorem xH (rs:List Rw):SB K rs:=dc (P:=λrs=>SB K rs) (λrs ih=>Dg hK rs ih) rs
theorem ml {ss ks:List (List Nat)}{h:List MO}(hu:holds l 0 h u (ss.map .str))(hi:h[i]?=J (.list (ks.map .str)))(hne:u≠.ref i)(hs:∀s∈ss,Gn s)(hks:∀s∈ks,Gn s)(hnd:(ks++ss).Nodup)(hz:ks.length+ss.length<=100000)(hN:1<N)
  (hq:Q .none (h.set i (.list ((ks++ss).map .str)))):K N 59 [u,.ref i] Q X h:=by
 obtain ⟨M,rfl,hM⟩:=room hN;refine hK _ _ _ _ _ _ jv rfl rfl ?_;refine qv hK hu (hM) ?_;have e1:∃g,∀o,dz .val [u] (h.set i o)=J (ss.map .str,g)/\aS g (h.set i o):=by
  cases l with
  | false=>have hu:u=_:=hu;subst hu;exact ⟨bY,λo=>⟨rfl,trivial⟩⟩
  | true=>
   obtain ⟨j,_,rfl,e⟩:=hu;have:i≠j:=λq=>hne (by rw [q]);exact ⟨_,λo=>⟨aG (ap this e),ap this e⟩⟩
 refine e11 e1 λg e1=>?_;have h0:h=h.set i (.list (ks.map .str)):=by
  obtain ⟨hlt,e⟩:=iN.mp hi;rw [<-e,NW]
 have e2:=(e1 (.list (ks.map .str))).1;rw [<-h0] at e2;refine aI e2 ?_;refine gS (λj w=>⟨[J u,J (.ref i),w],h.set i (.list ((ks++ss.take j).map .str))⟩) (λj w=>True)
  _ (by rw [LC,Kr,<-h0];rfl) trivial (λ_ _ _=>(e1 _).2) (λj x w P hx hI hn _=>?_) (λw hI=>?_)
 ·skip
  obtain ⟨s,hs1,rfl⟩:=EQ.mp (ID ..▸hx);have gs:=hs s (rW hs1);obtain ⟨M,rfl,_⟩:=room hM;refine iG hK gs ?_;have hi2:(h.set i (.list ((ks++ss.take j).map .str)))[i]?=J (.list ((ks++ss.take j).map .str)):=get_set hi;refine av hi2 ?_;refine bV gs.1.ok (λt ht=>?_) ?_
  ·refine Lm (nO.mp ht) (λht=>?_) λht=>?_
   ·exact (hks t ht).1.ok
   ·exact (hs t (LW ht)).1.ok
  ·have hnot:s∉ks++ss.take j:=λhm=>by
    have e:ss=ss.take j++s::ss.drop (j+1):=by
     have:=K0 j ss;rw [Le (iN.mp hs1).1,(iN.mp hs1).2] at this;exact this.symm
    rw [e,<-Ks] at hnd;exact (K1.mp hnd).2.2 s hm s (.head _) rfl
   refine bx (show (ks++ss.take j).contains s=Z by simpa using hnot) ?_;refine az (aH hi2) ?_;refine aV (aU hi2) ?_;refine ⟨by rw [iF,eQ,KS];exact Kn (dO (L6 (Md _ _) _) hz) (nb rfl),?_⟩;refine Eq.mpr (congrArg (P .next) (?_)) (hn (J (.str s)) trivial);dsimp only [MS.put,MS.set];rw [Pq,aq hs1,<-Ks,KB (l₂:=[s])];rfl
 ·skip
  rw [iF,KD];exact hq
end
section
noncomputable abbrev dm:List Nat:=[111,112,101,110,115]
noncomputable abbrev eu:List Nat:=[115,101,99,114,101,116,115]
noncomputable abbrev Je:List Nat:=[114,111,119,115]
noncomputable def bw (hp:List MO)(i:Nat)(A B:List (List Nat))(rows:List Rw):Prop:=
 ∃a b,hp[i]?=J (.attrs [(dm,.ref a),(eu,.ref b),(Je,.tup (mvs rows))])/\hp[a]?=J (.list (A.map .str))/\hp[b]?=J (.list (B.map .str))
theorem bw.up (h:bw hp i A B rows)(e:hp<+:hp'):bw hp' i A B rows:=let ⟨a,b,h1,h2,h3⟩:=h;⟨a,b,af e h1,af e h2,af e h3⟩
theorem holds.at_ (h:holds l n hp u xs)(e:∀(j:Nat) (o:MO),hp[j]?=J o->hp'[j]?=J o):holds l n hp' u xs:=h.up ⟨oF _,λj o _ h=>e j o h⟩
theorem holds.ne (h:holds l n hp u xs)(hi:hp.length<=i):u≠.ref i:=λq=>by
 subst q
 cases l with
 | false=>exact absurd (show MV.ref i=.tup xs from h) (by intro q;cases q)
 | true=>
  refine e13 h λj _ e hj=>?_
  cases e
  exact absurd (iN.mp hj).1 (OR.mpr hi)
variable (hK:aD PP K)
include hK
theorem G1 (hu:holds l 0 h0 u (A.map .str))(hv:holds l' 0 h0 v (B.map .str))(hw:dT l'' 0 h0 rows w)(hA:∀s∈A,Gn s)(hB:∀s∈B,Gn s)(hnd:(A++B).Nodup)(hz:A.length+B.length<=100000)
  (hg:b0 rows) (hn:ak rows<=7) (hl:(lns rows).length<=100000) (hN:15<N) (hq:∀h',h0<+:h'->bw h' h0.length A B rows->Q .none h'):K N 63 [.inst 0 h0.length,u,v,w] Q X (h0++[.attrs []]):=by
 obtain ⟨M,rfl,hM⟩:=room hN;obtain ⟨kx,hkx⟩:∃kx,kx=(h0++[MO.attrs []]).length:=⟨_,rfl⟩
 have hkx':kx=h0.length+1:=by rw [hkx];simp
 have p0:h0<+:(h0++[.attrs []])++[.list []]:=aa (aa (aj _));refine hK _ _ _ _ _ _ eN rfl rfl ?_
 conv=>whnf
 dsimp only [ec,MS.set,MS.push,MS.put];rw [<-hkx];have k0:((h0++[MO.attrs []])++[.list []])[kx]?=J (.list (([]:List (List Nat)).map .str)):=by rw [hkx];exact ac _ _
 have a0:((h0++[MO.attrs []])++[.list []])[h0.length]?=J (.attrs []):=ai (ac _ _);generalize (h0++[MO.attrs []])++[.list []]=h1 at *;refine ml hK (h:=h1) (hu.at_ λj o e=>af p0 e) k0 (hu.ne (n1 (Km hkx'.symm))) hA (λs hs=>by cases hs) (by rw [O7];exact (K1.mp hnd).1) (by simp only [NC];exact n1 hz) (dO (nb rfl) hM) ?_;rw [O7];have hkk:kx≠h0.length:=Lg (n1 (Km hkx'.symm));have p1:h0<+:h1.set kx (.list (A.map .str)):=aF p0 (n1 (Km hkx'.symm));have k1:(h1.set kx (.list (A.map .str)))[kx]?=J (.list (A.map .str)):=get_set k0;have a1:=ap (o':=.list (A.map .str)) hkk a0;generalize h1.set kx (.list (A.map .str))=h2 at *;refine av k1 ?_;refine ml hK (h:=h2) (hv.at_ λj o e=>af p1 e) k1 (hv.ne (n1 (Km hkx'.symm))) hB hA hnd hz (dO (nb rfl) hM) ?_;have p2:h0<+:h2.set kx (.list ((A++B).map .str)):=aF p1 (n1 (Km hkx'.symm));have k2:(h2.set kx (.list ((A++B).map .str)))[kx]?=J (.list ((A++B).map .str)):=get_set k1;have a2:=ap (o':=.list ((A++B).map .str)) hkk a1;generalize h2.set kx (.list ((A++B).map .str))=h3 at *;refine e12 hw λxs hw1 hw2=>?_;refine qv hK (h:=h3) (hw1.at_ λj o e=>af p2 e) (dO (nb rfl) hM) ?_;refine t8 hK rows (l:=l'') (h:=h3) hg (dT.up ⟨xs,hw1,hw2⟩ p2) (by lia) (n2 hN hn) λh4 p4=>?_;have p4:h3<+:h4:=p4;have p3:=p2.trans p4;have k3:=af p4 k2;have a3:=af p4 a2;refine ae k3 ?_;rw [du (by rw [iF];exact KZ _)];dsimp only [ec,MS.set,MS.push,MS.put];have a4:(h4++[MO.list (((A++B).map MV.str).take (((A.map MV.str).length:Nat):Int).toNat)])[h0.length]?=J (.attrs []):=ai a3;have l0:h0.length<h4.length:=(iN.mp a3).1;refine aZ a4 ?_;have eA:((A++B).map MV.str).take (((A.map MV.str).length:Nat):Int).toNat=A.map .str:=by
  rw [KB];exact List.take_left ..
 have eB:((A++B).map MV.str).drop (((A.map MV.str).length:Nat):Int).toNat=B.map .str:=by
  rw [KB];exact MW ..
 rw [eA] at a4;rw [eA];have p5:h0<+:(h4++[MO.list (A.map .str)]).set h0.length (.attrs [(dm,.ref h4.length)]):=aF (aa p3) (oF _);have a5:((h4++[MO.list (A.map .str)]).set h0.length (.attrs [(dm,.ref h4.length)]))[h0.length]?=J (.attrs [(dm,.ref h4.length)]):=get_set a4;have k5:((h4++[MO.list (A.map .str)]).set h0.length (.attrs [(dm,.ref h4.length)]))[kx]?=J (.list ((A++B).map .str)):=ap (LP hkk) (ai k3);have o5:((h4++[MO.list (A.map .str)]).set h0.length (.attrs [(dm,.ref h4.length)]))[h4.length]?=J (.list (A.map .str)):=ap (KA l0) (ac _ _);have l5:h4.length<((h4++[MO.list (A.map .str)]).set h0.length (.attrs [(dm,.ref h4.length)])).length:=by rw [OZ,eQ];exact Lp _
 dsimp only [ec,MS.set,MS.push,MS.put,bH];generalize (h4++[MO.list (A.map .str)]).set h0.length (.attrs [(dm,.ref h4.length)])=h5 at *;refine ⟨by decide,?_⟩;refine ae k5 ?_;rw [bN (by rw [iF];exact KZ _),eB];dsimp only [ec,MS.set,MS.push,MS.put];have a6:=ai (o':=MO.list (B.map .str)) a5;refine aZ a6 ?_;refine ⟨KN rfl,?_⟩;have p6:h0<+:(h5++[MO.list (B.map .str)]).set h0.length (.attrs [(dm,.ref h4.length),(eu,.ref h5.length)]):=aF (aa p5) (oF _);have a7:((h5++[MO.list (B.map .str)]).set h0.length (.attrs [(dm,.ref h4.length),(eu,.ref h5.length)]))[h0.length]?=J (.attrs [(dm,.ref h4.length),(eu,.ref h5.length)]):=get_set a6;have o7:((h5++[MO.list (B.map .str)]).set h0.length (.attrs [(dm,.ref h4.length),(eu,.ref h5.length)]))[h4.length]?=J (.list (A.map .str)):=ap (KA l0) (ai o5);have s7:((h5++[MO.list (B.map .str)]).set h0.length (.attrs [(dm,.ref h4.length),(eu,.ref h5.length)]))[h5.length]?=J (.list (B.map .str)):=ap (KA (n2 l5 l0)) (ac _ _);show K _ 60 [w] _ _ ((h5++[MO.list (B.map .str)]).set h0.length (.attrs [(dm,.ref h4.length),(eu,.ref h5.length)]));generalize (h5++[MO.list (B.map .str)]).set h0.length (.attrs [(dm,.ref h4.length),(eu,.ref h5.length)])=h6 at *;have l6:h4.length<h6.length/\h5.length<h6.length:=⟨(iN.mp o7).1,(iN.mp s7).1⟩
 refine xH hK rows (dT.up ⟨xs,hw1,hw2⟩ p6) hl (n2 hN hn) λh7 p7=>?_;have p7:h6<+:h7:=p7;have a8:=af p7 a7;refine aZ a8 ?_;refine ⟨KN rfl,?_⟩;refine hq _ (aF (p6.trans p7) (oF _)) ⟨h4.length,h5.length,get_set a8,ap (KA l0) (af p7 o7),ap (KA (n2 l5 l0)) (af p7 s7)⟩
theorem z8 (hp:bw h i A B rows)(hN:0<N)(hq:Q (.tup [.ref h.length,.ref (h.length+1)]) (h++[.list (A.map .str)]++[.list (B.map .str)])):K N 66 [.inst 0 i] Q X h:=by
 obtain ⟨M,rfl,hM⟩:=room hN;refine e23 hp λa b h1 h2 h3=>?_;refine hK _ _ _ _ _ _ g7 rfl rfl ?_;refine aZ h1 ?_;refine av h2 ?_;refine aZ (ai h1) ?_;refine av (ai h3) ?_;rw [<-show (h++[MO.list (A.map .str)]).length=h.length+1 by simp] at hq;exact hq
theorem jR (hp:bw h i A B rows)(hN:0<N)(hq:Q (.tup (mvs rows)) h):K N 67 [.inst 0 i] Q X h:=by
 obtain ⟨M,rfl,hM⟩:=room hN;refine e23 hp λa b h1 h2 h3=>?_;refine hK _ _ _ _ _ _ gk rfl rfl ?_;refine aZ h1 ?_;exact hq
end
section
mutual
noncomputable def Rw.size:Rw->Nat
 | .ite _ a b=>ao a+ao b+1
 | .wh _ a=>ao a+1
 | _=>1
noncomputable def ao:List Rw->Nat
 | []=>0
 | r::rs=>r.size+ao rs
end
noncomputable abbrev Num:=Int × Rw × List Tm
mutual
noncomputable def Rw.num (k:Int)(ab:List Tm):Rw->List Num
 | .set s t=>[(k,.set s t,ab)]
 | .tell t=>[(k,.tell t,ab)]
 | .skip=>[(k,.skip,ab)]
 | .ite t a b=>(k,.ite t a b,ab)::(nums (k+1) (ab++[t]) a++nums (k+1+ao a) (ab++[t]) b)
 | .wh t a=>(k,.wh t a,ab)::nums (k+1) (ab++[t]) a
noncomputable def nums (k:Int)(ab:List Tm):List Rw->List Num
 | []=>[]
 | r::rs=>r.num k ab++nums (k+r.size) ab rs
end
mutual
theorem Rw.num_len:∀(r:Rw) (k:Int) (ab:List Tm),(r.num k ab).length=r.size
 | .set s t,k,ab=>rfl
 | .tell t,k,ab=>rfl
 | .skip,k,ab=>rfl
 | .ite t a b,k,ab=>by
  show (nums (k+1) (ab++[t]) a++nums (k+1+ao a) (ab++[t]) b).length+1=ao a+ao b+1;rw [eQ,bE a,bE b]
 | .wh t a,k,ab=>by
  show (nums (k+1) (ab++[t]) a).length+1=ao a+1;rw [bE a]
theorem bE:∀(rs:List Rw) (k:Int) (ab:List Tm),(nums k ab rs).length=ao rs
 | [],k,ab=>rfl
 | r::rs,k,ab=>by
  show (r.num k ab++nums (k+r.size) ab rs).length=r.size+ao rs;rw [eQ,r.num_len,bE rs]
end
theorem gw:∀(a b:List Rw),ao (a++b)=ao a+ao b
 | [],b=>(L5 _).symm
 | r::a,b=>by show r.size+ao (a++b)=r.size+ao a+ao b;rw [gw a b,N2]
theorem oi:∀(a b:List Rw) (k:Int) (ab:List Tm),nums k ab (a++b)=nums k ab a++nums (k+ao a) ab b
 | [],b,k,ab=>by show nums k ab b=nums (k+(0:Nat)) ab b;rw [Int.natCast_zero,Ni]
 | r::a,b,k,ab=>by
  show r.num k ab++nums (k+r.size) ab (a++b)=r.num k ab++nums (k+r.size) ab a++nums (k+(r.size+ao a:Nat)) ab b;rw [oi a b,Ks,Int.natCast_add,N3]
noncomputable def dU (k:Int)(ab:List Tm):List (List Rw)->List Num
 | []=>[]
 | b::bs=>nums k ab b++dU (k+ao b) ab bs
noncomputable def br:List (List Rw)->Nat
 | []=>0
 | b::bs=>ao b+br bs
theorem lC:∀(a b:List (List Rw)) (k:Int) (ab:List Tm),dU k ab (a++b)=dU k ab a++dU (k+br a) ab b
 | [],b,k,ab=>by show dU k ab b=dU (k+(0:Nat)) ab b;rw [Int.natCast_zero,Ni]
 | r::a,b,k,ab=>by
  show nums k ab r++dU (k+ao r) ab (a++b)=nums k ab r++dU (k+ao r) ab a++dU (k+(ao r+br a:Nat)) ab b;rw [lC a b,Ks,Int.natCast_add,N3]
theorem fu:∀(a b:List (List Rw)),br (a++b)=br a+br b
 | [],b=>(L5 _).symm
 | r::a,b=>by show ao r+br (a++b)=ao r+br a+br b;rw [fu a b,N2]
noncomputable def Rw.tm:Rw->Tm
 | .ite t _ _=>t
 | .wh t _=>t
 | _=>.num 0
theorem z9 (r:Rw)(k:Int)(ab:List Tm):r.num k ab=(k,r,ab)::dU (k+1) (ab++[r.tm]) r.subs:=by
 cases r with
 | ite t a b=>
  show _=(k,Rw.ite t a b,ab)::(nums (k+1) (ab++[t]) a++(nums (k+1+ao a) (ab++[t]) b++[]))
  rw [Kr];rfl
 | wh t a=>
  show _=(k,Rw.wh t a,ab)::(nums (k+1) (ab++[t]) a++[])
  rw [Kr];rfl
 | _=>rfl
theorem vj (r:Rw):r.size=br r.subs+1:=by
 cases r<;>rfl
noncomputable def cT (q:Num):MV:=.tup [.int q.1,q.2.1.mv,.tup (q.2.2.map Tm.mv)]
theorem pH:∀{rs:List Rw}{xs:List MV},(∀r∈rs,∀x,r.is Z n hp x->x=r.mv)->dK Z n hp rs xs->xs=mvs rs
 | [],xs,_,h=>h
 | r::rs,xs,ih,h=>by
  obtain ⟨y,ys,rfl,h2,h3⟩:=h;rw [ih r (.head _) y h2,pH (λq hq=>ih q (.tail _ hq)) h3];rfl
theorem pI (rs:List Rw):∀{u:MV},dT Z n hp rs u->u=.tup (mvs rs):=by
 refine dc (P:=λrs=>∀{u:MV},dT Z n hp rs u->u=.tup (mvs rs)) (λrs ih u h=>?_) rs;refine e12 h λxs h1 h2=>?_;have h1:u=.tup xs:=h1;rw [h1,pH (λr hr x hx=>?_) h2]
 cases gv hx with
 | ite ha hb=>rw [ih _ hr _ (.head _) ha,ih _ hr _ (.tail _ (.head _)) hb];rfl
 | wh ha=>rw [ih _ hr _ (.head _) ha];rfl
 | _=>rfl
theorem oj (rs:List Rw)(j:Nat):ao (rs.take j)<=ao rs:=by
 have e:=gw (rs.take j) (rs.drop j);rw [K0] at e;exact n1 (Km e.symm)
theorem mn (rs:List (List Rw))(j:Nat):br (rs.take j)<=br rs:=by
 have e:=fu (rs.take j) (rs.drop j);rw [K0] at e;exact n1 (Km e.symm)
noncomputable def NU (K:KT)(rs:List Rw):Prop:=∀{N:Nat}{k:Int}{ab:List Tm}{Q:MV->List MO->Prop}{X:XT}{h:List MO},ao rs<=1000000->ab.length+ak rs<=1000->ak rs+1<N->(∀h',h<+:h'->h'[h.length]?=J (.list ((nums k ab rs).map cT))->Q (.ref h.length) h')->K N 61 [.tup (mvs rs),.int k,.tup (ab.map Tm.mv)] Q X h
variable (hK:aD PP K)
include hK
omit hK in
noncomputable abbrev nuB:List MSt:=[.asg [7] Z (.call 61 [.var 6,.var 4,.bin .add (.var 2) (.tup [.idx (.var 5) (.cst (.int 1))])]),.expr (.mth .extend (.var 3) [.var 7]),.asg [4] Z (.bin .add (.var 4) (.blt .len [.var 7]))]
omit hK in
theorem G2 {r:Rw}(h:b∈r.subs):∃w rest,r.mv=.tup (.str w::r.tm.mv::rest):=by
 cases r with
 | ite t x y=>exact ⟨_,_,rfl⟩
 | wh t x=>exact ⟨_,_,rfl⟩
 | _=>cases h
omit hK in
theorem pJ:∀(bs:List (List Rw)) (k:Int) (ab:List Tm),(dU k ab bs).length=br bs
 | [],_,_=>rfl
 | b::bs,k,ab=>by show (nums k ab b++dU _ ab bs).length=ao b+br bs;rw [eQ,bE,pJ bs]
omit hK in
theorem Dh {r:Rw}(ih:NU K b)(hbm:b∈r.subs){ab:List Tm}{A:List Num}{hp:List MO}(hf:hp[f]?=J (.list (A.map cT)))(hA:A.length+ao b<=1000000)(hab:ab.length+1+ak b<=1000)(hM:ak b+1<M)
  (hq:∀hp' w7,(∀j o,j≠f->hp[j]?=J o->hp'[j]?=J o)->(∀h0,h0<+:hp->h0.length<=f->h0<+:hp')->hp'[f]?=J (.list ((A++nums z (ab++[r.tm]) b).map cT))->P .next ⟨[v0,v1,J (.tup (ab.map Tm.mv)),J (.ref f),J (.int (z+(ao b:Nat))),J r.mv,J (.tup (mvs b)),w7],hp'⟩) :
  aA K M nuB P (xin X) ⟨[v0,v1,J (.tup (ab.map Tm.mv)),J (.ref f),J (.int z),J r.mv,J (.tup (mvs b)),w7],hp⟩:=by
 refine e21 (G2 hbm) λw rest hr=>?_;rw [hr] at hq ⊢;refine aw (k:=1) (j:=1) (ba (by decide) (by rw [KQ,KQ];lia)) rfl ?_;refine ⟨aR (by rw [iF];show _+1<=_;exact n1 hab),?_⟩;have e:ab.map Tm.mv++[r.tm.mv]=(ab++[r.tm]).map Tm.mv:=by rw [KB];rfl
 rw [e];refine ih (h:=hp) (dO (L9 _ _) hA) (by rw [eQ];exact hab) hM λh3 p3 e3=>?_;have p3:hp<+:h3:=p3;have f3:=af p3 hf;have lf:f<hp.length:=(iN.mp hf).1;refine az (e8 f3) (aV (aU f3) (aV (aU e3) ?_));refine ⟨aR (by rw [iF,iF,bE];exact hA),?_⟩;refine av (ap (o':=.list _) (KA lf) e3) ?_;have:=hq (h3.set f (.list (A.map cT++(nums z (ab++[r.tm]) b).map cT))) (J (.ref hp.length)) (λj o hj e=>ap (LP hj) (af p3 e)) (λh0 p0 l0=>aF (p0.trans p3) l0) (by rw [KB];exact get_set f3);rw [<-bE b z (ab++[r.tm]),<-iF (f:=cT)] at this;exact this
theorem Di (rs:List Rw)(ih:∀r∈rs,∀b∈r.subs,NU K b):NU K rs:=by
 intro N k ab Q X h hz hab hN hq;obtain ⟨M,rfl,hM⟩:=room hN;refine hK _ _ _ _ _ _ l9 rfl rfl ?_;refine mM (λj (z:Int) w5 w6 w7 hp=>⟨[J (.tup (mvs rs)),J (.int k),J (.tup (ab.map Tm.mv)),J (.ref h.length),J (.int z),w5,w6,w7],hp⟩) (λj z w5 w6 w7 hp=>A3 (z=k+ao (rs.take j)) (h<+:hp) (hp[h.length]?=J (.list ((nums k ab (rs.take j)).map cT))))
  k bY bY bY _ rfl ⟨(Ni k).symm,aa (aj _),ac _ _⟩ (λ_ _ _ _ _ _ _=>trivial) (λj x z w5 w6 w7 hp P hx hI hn _=>?_) (λz w5 w6 w7 hp hI=>?_)
 ·refine hI.el λhz1 hp1 hp2=>?_;obtain ⟨r,hr,rfl⟩:=mQ hx;have hmem:=rW hr;have zr:=oj rs (j+1);have nr:=dw (oF (ak rs)) r hmem;rw [aq hr,gw] at zr;have zr:ao (rs.take j)+(r.size+0)<=ao rs:=zr;have se:=vj r;have hpl:(nums k ab (rs.take j)).length=ao (rs.take j):=bE _ _ _;have goal:∀hp' w6 w7,h<+:hp'->hp'[h.length]?=J (.list ((nums k ab (rs.take j)++(z,r,ab)::dU (z+1) (ab++[r.tm]) r.subs).map cT))->P .next ⟨[J (.tup (mvs rs)),J (.int k),J (.tup (ab.map Tm.mv)),J (.ref h.length),J (.int (z+1+(br r.subs:Nat))),J r.mv,w6,w7],hp'⟩:=λhp' w6 w7 p e=>by
   refine hn _ _ _ _ hp' ⟨?_,p,?_⟩
   ·rw [aq hr,gw,hz1];show _=k+((ao (rs.take j)+(r.size+0):Nat):Int);rw [se];show _=k+((ao (rs.take j):Int)+((br r.subs:Int)+1));rw [N3,N3,Pr 1]
   ·rw [aq hr,oi,<-hz1,show nums z ab [r]=r.num z ab from Kr _,z9];exact e
  generalize nums k ab (rs.take j)=pre at *;refine az (aH hp2) (aV (aU hp2) ?_);refine ⟨by rw [iF,hpl];exact Kn (dO (dO (K5 _ _) zr) hz) (nb rfl),?_⟩;have v:=gv (jD (n:=0) (hp:=hp.set h.length (.list (pre.map cT++[cT (z,r,ab)]))) r);refine kE hK v (n1 hN) λus hus=>?_;have hH1:h<+:hp.set h.length (.list (pre.map cT++[cT (z,r,ab)])):=aF hp1 (oF _);have hH2:(hp.set h.length (.list (pre.map cT++[cT (z,r,ab)])))[h.length]?=J (.list ((pre++[(z,r,ab)]).map cT)):=by rw [KB];exact get_set hp2
  have hs:=oh hus;refine aI (aG (ac _ _)) ?_;obtain ⟨H,hH⟩:∃H,hp.set h.length (.list (pre.map cT++[cT (z,r,ab)]))=H:=⟨_,rfl⟩
  rw [hH] at hH1 hH2;have l2:h.length<H.length:=(iN.mp hH2).1;refine vf (λi (y:Int) w6 w7 hp=>⟨[J (.tup (mvs rs)),J (.int k),J (.tup (ab.map Tm.mv)),J (.ref h.length),J (.int y),J r.mv,w6,w7],hp⟩) (λi y w6 w7 hp=>A4 (y=z+1+br (r.subs.take i)) (h<+:hp) (hp[H.length]?=J (.list us)) (hp[h.length]?=J (.list ((pre++(z,r,ab)::dU (z+1) (ab++[r.tm]) (r.subs.take i)).map cT))))
   (z+1) w6 w7 (H++[.list us]) (by rw [<-hH];rfl) ⟨(Ni _).symm,aa hH1,ac _ _,ai hH2⟩ (λ_ _ _ _ _ hI=>by have:=hI.h3;rw [<-hH] at this;exact this) (λi x y w6 w7 hp' P hx hI hn _=>?_) (λy w6 w7 hp' hI=>?_)
  ·refine hI.el λq0 q1 q2 q3=>?_;refine e12 (kD hus hx) λb hb hb2=>?_;have hbm:=rW hb;have nb:=gu b hbm;have zt:=mn r.subs (i+1);rw [aq hb,fu] at zt;have zt:br (r.subs.take i)+(ao b+0)<=br r.subs:=zt;obtain rfl:=pI b hb2;refine Dh (ih r hmem b hbm) hbm q3 (by rw [eQ,KQ,pJ,hpl];exact n3 (KH zt (Km se.symm)) zr hz) (n3 nb nr hab) (n3 nb nr hN) λhp3 w7 k3 p3 e3=>?_;refine hn _ _ _ hp3 ⟨?_,p3 _ q1 (oF _),k3 _ _ (Lg l2) q2,?_⟩
   ·rw [aq hb,fu,q0];show _=z+1+((br (r.subs.take i)+(ao b+0):Nat):Int);lia
   ·rw [aq hb,lC,<-q0,e3,Ks];show _=J (MO.list ((pre++(z,r,ab)::(dU (z+1) (ab++[r.tm]) (r.subs.take i)++(nums y (ab++[r.tm]) b++[]))).map cT));rw [Kr];rfl
  ·refine hI.el λq0 q1 q2 q3=>?_;rw [hs,KD] at q3 q0;have:=goal hp' w6 w7 q1 q3;rw [<-q0] at this;exact this
 ·refine hI.el λ_ hp1 hp2=>?_;rw [cj,KD] at hp2;exact hq _ hp1 hp2
theorem fv (rs:List Rw):NU K rs:=dc (P:=λrs=>NU K rs) (λrs ih=>Di hK rs ih) rs
end
noncomputable def Rw.nms:Rw->List (List Nat)
 | .set s t=>s::aK (an t)
 | .tell t=>aK (an t)
 | .skip=>[]
 | .ite t _ _=>aK (an t)
 | .wh t _=>aK (an t)
noncomputable def bR (qs:List Num):List (List Nat):=qs.flatMap λq=>q.2.1.nms
theorem iH (l:List (List Nat)):(aK l).length<=l.length:=kB λx hx=>hx
theorem Dj {r:Rw}(h:r.good):r.nms.length<=9:=by
 have key:∀t:Tm,t.good->(aK (an t)).length<=8:=λt ht=>dO (iH _) (dO (dj t) ht.lv)
 cases r with
 | set s t=>exact KJ (key t h.2)
 | tell t=>exact Mz (key t h)
 | skip=>exact Ko _
 | ite t a b=>exact Mz (key t h.1)
 | wh t a=>exact Mz (key t h.1)
theorem om:∀{qs:List Num},(∀q∈qs,q.2.1.good)->(bR qs).length<=9 * qs.length
 | [],_=>oF _
 | q::qs,h=>by
  have h1:=Dj (h q (.head _));have h2:=om (qs:=qs) λx hx=>h x (.tail _ hx);show (q.2.1.nms++bR qs).length<=_;rw [eQ,KQ];exact n2 h2 h1
theorem dp (a b:List Num):bR (a++b)=bR a++bR b:=Mo ..
mutual
theorem Rw.num_good:∀{r:Rw}{k:Int}{ab:List Tm},r.good->∀q∈r.num k ab,q.2.1.good
 | .set s t,k,ab,h,q,hq=>by rw [iD.mp hq];exact h
 | .tell t,k,ab,h,q,hq=>by rw [iD.mp hq];exact h
 | .skip,k,ab,h,q,hq=>by rw [iD.mp hq];exact h
 | .ite t a b,k,ab,h,q,hq=>by
  rcases IF.mp hq with rfl | hq
  ·exact h
  ·refine Lm (nO.mp hq) (λhq=>?_) λhq=>?_
   ·exact dy h.2.1 q hq
   ·exact dy h.2.2 q hq
 | .wh t a,k,ab,h,q,hq=>by
  rcases IF.mp hq with rfl | hq
  ·exact h
  ·exact dy h.2 q hq
theorem dy:∀{rs:List Rw}{k:Int}{ab:List Tm},b0 rs->∀q∈nums k ab rs,q.2.1.good
 | [],k,ab,h,q,hq=>by cases hq
 | r::rs,k,ab,h,q,hq=>by
  refine Lm (nO.mp hq) (λhq=>?_) λhq=>?_
  ·exact r.num_good h.1 q hq
  ·exact dy h.2 q hq
end
noncomputable def ay (A B:List (List Nat))(rows:List Rw):List (List Nat):=A++B++bR (nums 1 [] rows)
section
variable (hK:aD PP K)
include hK
theorem t9 {r:Rw}{h:List MO}(hg:r.good)(hN:5<N)(hq:∀h',h<+:h'->h'[h.length]?=J (.list (r.nms.map .str))->Q (.ref h.length) h'):K N 62 [r.mv] Q X h:=by
 obtain ⟨M,rfl,hM⟩:=room hN;have fl:∀(t:Tm) (pre:List (List Nat)) (hp:List MO),t.good->r.fm=t.mv->r.nms=pre++aK (an t)->pre.length<=1->hp[h.length]?=J (.list (pre.map .str))->h<+:hp->
   aA K M [.expr (.mth .extend (.var 1) [.call 1 [.call 26 [.var 0]]]),.ret (.var 1)] (fin Q) (xin X) ⟨[J r.mv,J (.ref h.length)],hp⟩:=λt pre hp ht hf hr hl he hpre=>by
  refine az (e8 he) ?_;refine mj hK (gv (jD (n:=0) r)) (dO (nb rfl) hM) ?_;rw [hf];refine jQ hK (by have:=ht.2;exact n2 this hN) ht.1 (by have:=ht.lv;exact dO this (nb rfl)) λi h2 p2 l2 e2=>?_;have p2:hp<+:h2:=p2;have he2:=af p2 he;refine aV (aU he2) ?_;refine aV (aU e2) ?_;have:=iH (an t);have:=dj t;have:=ht.lv;refine ⟨aR (by rw [iF,iF];lia),?_⟩;exact hq _ (aF (hpre.trans p2) (oF _)) (by rw [hr,KB];exact get_set he2)
 have p1:h<+:h++[.list []]:=aa (aj _);have e1:(h++[MO.list []])[h.length]?=J (.list (([]:List (List Nat)).map .str)):=ac _ _;refine hK _ _ _ _ _ _ md rfl rfl ?_
 cases r with
 | set s t=>
  refine az (aH e1) ?_;refine aV (aU e1) ?_;refine ⟨KG (Nat.zero_lt_succ 0) (aR (KN rfl)),?_⟩;exact fl t [s] _ hg.2 rfl rfl (oF _) (get_set e1) (aF p1 (oF _))
 | tell t=>exact fl t [] _ hg rfl rfl (Ko _) e1 p1
 | skip=>exact hq _ p1 e1
 | ite t a b=>exact fl t [] _ hg.1 rfl rfl (Ko _) e1 p1
 | wh t a=>exact fl t [] _ hg.1 rfl rfl (Ko _) e1 p1
theorem mo (hp:bw h i A B rows)(hg:b0 rows)(hs:ao rows<=400)(hl:A.length+B.length<=300)(h64:(aK (ay A B rows)).length<iQ)(hn:ak rows<=7)(hN:10<N)
  (hq:∀h' r,h<+:h'->h.length<=r->h'[r]?=J (.list ((aK (ay A B rows)).map .str))->Q (.ref r) h'):K N 64 [.inst 0 i] Q X h:=by
 obtain ⟨M,rfl,hM⟩:=room hN;refine e23 hp λa b h1 h2 h3=>?_;have ln:(nums 1 [] rows).length=ao rows:=bE rows 1 [];have lz:=om (qs:=nums 1 [] rows) (dy hg);have lw:(bR (nums 1 [] rows)).length<=9 * 400:=dO lz (by rw [ln];exact KP 9 hs);have lt:∀j,(bR ((nums 1 [] rows).take j)).length<=9 * 400:=λj=>by
  have e:=dp ((nums 1 [] rows).take j) ((nums 1 [] rows).drop j);rw [K0] at e;have:=congrArg Nh e;rw [eQ] at this;exact dO (dO (K5 _ _) (Km this.symm)) lw
 refine hK _ _ _ _ _ _ gj rfl rfl ?_;dsimp only [ec];refine aZ h1 ?_;refine aZ h1 ?_
 conv=>whnf
 rw [h2,h3];refine ⟨bG (dO hl (nb rfl)),?_⟩;have p1:h<+:h++[.list (A.map .str++B.map .str)]:=aa (aj _);have e1:(h++[MO.list (A.map .str++B.map .str)])[h.length]?=J (.list ((A++B).map .str)):=bW _ _ _;refine aZ (af p1 h1) ?_;refine fv hK rows (k:=1) (ab:=[]) (dO hs (nb rfl)) (by show 0+_<=_;exact n1 hn) (n2 hN hn) λh4 p4 e4=>?_;have p4:h++[.list (A.map .str++B.map .str)]<+:h4:=p4;refine aI (aG e4) ?_;refine mM (λj f w2 w3 w4 hp=>⟨[J (.inst 0 i),J (.ref f),w2,w3,w4],hp⟩) (λj f w2 w3 w4 hp=>A3 (h4<+:hp) (h.length<=f) (hp[f]?=J (.list ((A++B++bR ((nums 1 [] rows).take j)).map .str))))
  h.length _ _ _ _ rfl ⟨aj _,oF _,by rw [LC];show _=J (MO.list ((A++B++[]).map .str));rw [Kr];exact af p4 e1⟩ (λ_ _ _ _ _ _ hI=>af hI.h1 e4) (λj x f w2 w3 w4 hp' P hx hI hn _=>?_) (λf w2 w3 w4 hp' hI=>?_)
 ·refine hI.el λq1 q2 q3=>?_;obtain ⟨q,hq1,rfl⟩:=EQ.mp (ID ..▸hx);have hqm:=rW hq1;refine ⟨rfl,?_⟩;refine t9 hK (dy hg q hqm) (dO (nb rfl) hM) λh5 p5 e5=>?_;have p5:hp'<+:h5:=p5
  conv=>whnf
  rw [af p5 q3,e5];have:=lt (j+1);rw [aq hq1,dp,eQ] at this;have e:bR [q]=q.2.1.nms:=Kr _;rw [e] at this;refine ⟨bG (by rw [eQ,eQ];exact n2 this hl),?_⟩;refine hn h5.length _ _ _ _ ⟨aa (q1.trans p5),?_,?_⟩
  ·exact (((p1.trans p4).trans q1).trans p5).length_le
  ·rw [aq hq1,dp,e,<-Ks];exact bW _ _ _
 ·refine hI.el λq1 q2 q3=>?_;rw [iF,KD] at q3;refine ae q3 ?_;exact .mk (ay A B rows) rfl h64 (by show (A++B++bR (nums 1 [] rows)).length<4000;rw [eQ,eQ];exact Kn (KH hl lw) (nb rfl)) (hq _ _ (aa ((p1.trans p4).trans q1)) ((p1.trans p4).trans q1).length_le (ac _ _))
end
section
noncomputable abbrev be:List Nat:=[110,117,109,98,101,114,115]
noncomputable abbrev dL:List Nat:=[116,117,114,110,115]
noncomputable abbrev pK:List Nat:=[115,97,105,100]
theorem eV (e:hp[i]?=J (.attrs es))(hx:(aN es x).isNone=aT):BD c x (.inst c i) hp=aT:=by
 show (match hp[i]? with
  | some (.attrs es)=>c==c&&(aN es x).isNone
  | _=>Z)=aT
 rw [e];show (c==c&&(aN es x).isNone)=aT;rw [hx,beq_self_eq_true];rfl
theorem G3 (e:hp[r]?=J (.dict es)):dct (.ref r) hp=J (r,es):=by
 show BA r hp[r]?=_;rw [e];rfl
theorem G4 (e:hp[r]?=J (.dict es)):jX .get (.ref r) hp=aT:=by
 show (BA r hp[r]?).isSome=aT;rw [e];rfl
inductive Wh (hp:List MO)(b:Int):MV->Bool->Prop
 | int (k:Int):Wh hp b (.int k) (decide (0<=k)&&decide (k<=b))
 | bool (c:Bool):Wh hp b (.bool c) Z
 | none:Wh hp b .none Z
 | str (s:List Nat):Wh hp b (.str s) Z
 | list {r:Nat} {xs:List MV} (e:hp[r]?=J (.list xs)):Wh hp b (.ref r) Z
theorem iI:∀{es:List (List Nat × MV)}{k:List Nat}{v:MV},k∉es.map (·.1)->bH es k v=es++[(k,v)]
 | [],_,_,_=>rfl
 | (a,w)::es,k,v,h=>by
  have h1:(a==k)=Z:=by
   cases q:a==k with
   | false=>rfl
   | true=>exact absurd (by rw [eq_of_beq q];exact .head _) h
  show (match a==k with | true=>_ | false=>_)=_;rw [h1];show (a,w)::bH es k v=(a,w)::(es++[(k,v)])
  rw [iI λq=>h (.tail _ q)]
noncomputable def b9 (es:List (List Nat × MV))(ns:List (List Nat)):List (List Nat × MV):=ns.map λn=>(n,(aN es n).getD (.int 0))
theorem ua (es:List (List Nat × MV))(ns:List (List Nat)):(b9 es ns).map (·.1)=ns:=by
 unfold b9;rw [OW];exact Py ns
variable (hK:aD PP K)
include hK
theorem Kb (hv:Wh h b v t)(hN:0<N)(hq:Q (.bool t) h):K N 22 [v,.int b] Q X h:=by
 obtain ⟨M,rfl,hM⟩:=room hN;refine hK _ _ _ _ _ _ ik rfl rfl ?_
 cases hv with
 | int k=>
  conv=>whnf
  cases h1:decide (0<=k) with
  | false=>rw [h1] at hq;exact hq
  | true=>
   rw [h1] at hq;exact hq
 | bool c=>exact hq
 | none=>exact hq
 | str s=>exact hq
 | @list r xs e=>
  conv=>whnf
  dsimp only [ec];rw [show kY h (.ref r) .int=J Z from congrArg (tyO · .int) e];exact hq
theorem xI (hp:bw h0 i A B rows)(hd:h0[d]?=J (.dict es))(hg:b0 rows)(hs:ao rows<=400)(hl:A.length+B.length<=300)(h64:(aK (ay A B rows)).length<64)(hn:ak rows<=7)(hN:11<N)
  (hq:∀h' x y,h0<+:h'->h0.length<x->h0.length<y->x≠y->h'[h0.length]?=J (.attrs [(be,.ref x),(dL,t),(pK,.ref y)])->h'[x]?=J (.dict (b9 es (aK (ay A B rows))))->h'[y]?=J (.list [])->Q .none h') :
  K N 83 [.inst 1 h0.length,.inst 0 i,.ref d,t] Q X (h0++[.attrs []]):=by
 obtain ⟨M,rfl,hM⟩:=room hN;generalize hns:aK (ay A B rows)=ns at *;have hnd:ns.Nodup:=hns▸og _;refine hK _ _ _ _ _ _ eO rfl rfl ?_
 conv=>whnf
 dsimp only [ec,MS.push];have a0:(h0++[MO.attrs []]++[MO.dict []])[h0.length]?=J (.attrs []):=ai (ac _ _);obtain ⟨x,hx⟩:∃x,x=(h0++[MO.attrs []]).length:=⟨_,rfl⟩
 have hx':x=h0.length+1:=by rw [hx];simp
 have d0:(h0++[MO.attrs []]++[MO.dict []])[x]?=J (.dict []):=by rw [hx];exact ac _ _
 have p0:h0<+:h0++[MO.attrs []]++[MO.dict []]:=aa (aa (aj _));rw [<-hx];refine aZ a0 ?_;refine ⟨KN rfl,?_⟩;have p1:h0<+:(h0++[MO.attrs []]++[MO.dict []]).set h0.length (.attrs [(be,.ref x)]):=aF p0 (oF _);have a1:((h0++[MO.attrs []]++[MO.dict []]).set h0.length (.attrs [(be,.ref x)]))[h0.length]?=J (.attrs [(be,.ref x)]):=get_set a0;have d1:((h0++[MO.attrs []]++[MO.dict []]).set h0.length (.attrs [(be,.ref x)]))[x]?=J (.dict []):=ap (KA (n1 (Km hx'.symm))) d0;dsimp only [MS.put,bH];generalize (h0++[MO.attrs []]++[MO.dict []]).set h0.length (.attrs [(be,.ref x)])=h1 at *;obtain ⟨_,_,g1,_⟩:=hp.up p1;refine az (eV g1 rfl) ?_;refine mo hK (h:=h1) (hp.up p1) hg hs hl (by rw [hns];exact h64) hn (hM) λh2 r p2 l2 e2=>?_;rw [hns] at e2;have p2:h1<+:h2:=p2;have hxl:x<h1.length:=(iN.mp d1).1;refine aI (aG e2) ?_;refine gT (λj w hp'=>⟨[J (.inst 1 h0.length),J (.inst 0 i),J (.ref d),J t,w],hp'⟩) (λj w hp'=>A4 (h0<+:hp') (hp'[h0.length]?=J (.attrs [(be,.ref x)])) (hp'[r]?=J (.list (ns.map .str))) (hp'[x]?=J (.dict (b9 es (ns.take j)))))
  _ h2 rfl ⟨p1.trans p2,af p2 a1,e2,by rw [LC];exact af p2 d1⟩ (λ_ _ _ hI=>hI.h3) (λj y w hp' P hy hI hn _=>?_) (λw hp' hI=>?_)
 ·obtain ⟨q1,q2,q3,q4⟩:=hI;obtain ⟨s,hs1,rfl⟩:=EQ.mp (ID ..▸hy);have hj:=(iN.mp hs1).1;have hd':=af q1 hd
  conv=>whnf
  dsimp only [MS.set];refine az (G4 hd') ?_;refine ⟨rfl,?_⟩;refine Fc (G3 hd') ?_;refine aZ q2 ?_;refine bT q4 ?_;have hnew:s∉(b9 es (ns.take j)).map (·.1):=by
   rw [ua];intro hm;have e:ns=ns.take j++s::ns.drop (j+1):=by
    have:=K0 j ns;rw [Le hj,(iN.mp hs1).2] at this;exact this.symm
   rw [e] at hnd;exact (K1.mp hnd).2.2 s hm s (.head _) rfl
  refine ⟨Kn (by unfold b9;rw [iF,KS];exact Md ..) (KG h64 (aR (by decide))),?_⟩;refine hn _ _ ⟨aF q1 (n1 (Km hx'.symm)),ap (Lg (n1 (Km hx'.symm))) q2,ap (KA (n2 hxl l2)) q3,?_⟩;rw [get_set q4,iI hnew,aq hs1];unfold b9;rw [KB];rfl
 ·obtain ⟨q1,q2,q3,q4⟩:=hI;rw [iF,KD] at q4;refine aZ q2 ?_;refine ⟨KN rfl,?_⟩;have q5:(hp'.set h0.length (.attrs [(be,.ref x),(dL,t)]))[h0.length]?=J (.attrs [(be,.ref x),(dL,t)]):=get_set q2;have q6:(hp'.set h0.length (.attrs [(be,.ref x),(dL,t)]))[x]?=J (.dict (b9 es ns)):=ap (KA (n1 (Km hx'.symm))) q4;have q7:h0<+:hp'.set h0.length (.attrs [(be,.ref x),(dL,t)]):=aF q1 (oF _);have l0:h0.length<(hp'.set h0.length (.attrs [(be,.ref x),(dL,t)])).length/\x<(hp'.set h0.length (.attrs [(be,.ref x),(dL,t)])).length:=⟨(iN.mp q5).1,(iN.mp q6).1⟩
  show match ((hp'.set h0.length (.attrs [(be,.ref x),(dL,t)]))++[MO.list []])[h0.length]? with | some (.attrs es)=>_ | _=>False
  refine aZ (ai q5) ?_;refine ⟨KN rfl,?_⟩;exact hq _ x (hp'.set h0.length (.attrs [(be,.ref x),(dL,t)])).length (aF (aa q7) (oF _)) (n1 (Km hx'.symm)) (n1 l0.1) (KA (n1 l0.2)) (get_set (ai q5)) (ap (KA (n1 (Km hx'.symm))) (ai q6)) (ap (KA (n1 l0.1)) (ac _ _))
end
section
noncomputable def Vok (es:List (List Nat × MV))(ns:List (List Nat)):Prop:=es.length=ns.length/\∀s∈ns,∃k,aN es s=J (.int k)/\0<=k/\k<1000000
theorem Dk (e:hp[r]?=J (.dict es)):kY hp (.ref r) .dict=J aT:=congrArg (tyO · .dict) e
noncomputable abbrev G5:List MSt:=fj.body.drop 2
variable (hK:aD PP K)
include hK
theorem Dl (hp:bw h i A B rows)(hl:A.length+B.length<=300)(hN:1<N)
  (hr:∀h' f w2 w3,h<+:h'->h'[f]?=J (.list ((A++B).map .str))->aA K (N-1) G5 (fin Q) (xin X) ⟨[J (.inst 0 i),J v,w2,w3,J (.ref f),bY],h'⟩):K N 82 [.inst 0 i,v] Q X h:=by
 obtain ⟨M,rfl,hM⟩:=room hN;obtain ⟨a,b,h1,h2,h3⟩:=id hp;refine hK _ _ _ _ _ _ fj rfl rfl ?_;refine az (eV h1 rfl) ?_;refine z8 hK (h:=h) hp (hM) ?_;refine ⟨rfl,?_⟩
 conv=>whnf
 dsimp only [m6,MS.set];have g1:(h++[MO.list (A.map .str)]++[.list (B.map .str)])[h.length]?=J (.list (A.map .str)):=ai (ac _ _);have g2:(h++[MO.list (A.map .str)]++[.list (B.map .str)])[h.length+1]?=J (.list (B.map .str)):=by
  have:=ac (h++[MO.list (A.map .str)]) (MO.list (B.map .str));rw [show (h++[MO.list (A.map .str)]).length=h.length+1 by simp] at this;exact this
 rw [g1,g2];refine ⟨bG (dO hl (nb rfl)),?_⟩;exact hr _ _ _ _ (aa (aa (aa (aj _)))) (bW _ _ _)
theorem Dm (hp:bw h i A B rows)(hl:A.length+B.length<=300)(hd:h[d]?=J (.dict es))(hv:Vok es (A++B))(hN:3<N)
  (hq:∀h',h<+:h'->Q .none h'):K N 82 [.inst 0 i,.ref d] Q X h:=by
 refine Dl hK hp hl (dO (nb rfl) hN) λh' f w2 w3 p1 e1=>?_;have hd':=af p1 hd;refine cy (Dk hd') ?_;refine iU hd' ?_;refine av e1 ?_
 conv=>whnf
 rw [show ((es.length:Int)==(((A++B).map MV.str).length:Nat))=aT by rw [iF,hv.1];exact beq_self_eq_true _];refine aI (aG e1) ?_;refine gS (λj w=>⟨[J (.inst 0 i),J (.ref d),w2,w3,J (.ref f),w],h'⟩) (λj w=>True)
  _ rfl trivial (λ_ _ _=>e1) (λj y w P hy hI hn _=>?_) (λw hI=>?_)
 ·skip
  obtain ⟨s,hs1,rfl⟩:=EQ.mp (ID ..▸hy);obtain ⟨k,hk,h0,h9⟩:=hv.2 s (rW hs1);refine iU hd' ?_
  conv=>whnf
  rw [hk];refine bT hd' ?_;refine cy hk ?_;obtain ⟨M,e⟩:∃M,N-1=M+2:=⟨N-1-2,(Oi (Nat.le_sub_one_of_lt (NM hN))).symm⟩
  rw [e];exact od hK ⟨h0,h9⟩ (hn _ trivial)
 ·skip
  exact hq _ p1
end
section
noncomputable def ofO:Option Int->MV
 | none=>.none
 | some i=>.int i
noncomputable def jn (c:Nat)(x y:Int):Option Int:=
 if c=43 then J ((x+y) % 1000000) else if c=45 then J ((x-y) % 1000000) else if c=42 then J (x * y % 1000000)
 else if c=60 then J (b2i (decide (x<y))) else if c=61 then J (b2i (x==y)) else match y==0 with
  | true=>bY
  | false=>J (x / y)
noncomputable def rk (es:List (List Nat × MV)):Tm->Option Int
 | .num k=>J k
 | .nm s=>match aN es s with
  | some (.int v)=>J v
  | _=>bY
 | .op c a b=>match rk es a,rk es b with
  | some x,J y=>jn c x y
  | _,_=>bY
noncomputable def In6 (v:Int):Prop:=0<=v/\v<1000000
theorem G6:∀{v:Int},In6 v->fC v
 | .ofNat n,h=>LY (LN.mp h.2) (show 1000000<2 ^ 63 by decide)
 | .negSucc n,h=>absurd h.1 (NY.mpr (Int.negSucc_lt_zero n))
noncomputable def bo (es:List (List Nat × MV))(p:List Nat->Prop):Prop:=∀s,p s->∃v,aN es s=J (.int v)/\In6 v
theorem G7 (b:Bool):In6 (b2i b):=by unfold In6;cases b<;>decide
theorem Jf (hx:In6 x)(hy:In6 y)(h:jn c x y=J v):In6 v:=by
 unfold jn at h;unfold In6 at *
 repeat' split at h
 all_goals cases h
 all_goals first
  | exact ⟨LM _ (by decide),Mc _ (by decide)⟩
  | exact G7 _
  | exact ⟨Int.ediv_nonneg hx.1 hy.1,Int.lt_of_le_of_lt (Int.ediv_le_self y hx.1) hx.2⟩
theorem vk (e:aN es s=J (.int u)):rk es (.nm s)=J u:=by
 show (match aN es s with
  | some (.int v)=>J v
  | _=>bY)=_
 rw [e]
theorem oo (e:rk es a=bY):rk es (.op c a b)=bY:=by
 show (match rk es a,rk es b with
  | some x,J y=>jn c x y
  | _,_=>bY)=_
 rw [e]
theorem ub (e1:rk es a=J x)(e:rk es b=bY):rk es (.op c a b)=bY:=by
 show (match rk es a,rk es b with
  | some x,J y=>jn c x y
  | _,_=>bY)=_
 rw [e1,e]
theorem oq (e1:rk es a=J x)(e:rk es b=J y):rk es (.op c a b)=jn c x y:=by
 show (match rk es a,rk es b with
  | some x,J y=>jn c x y
  | _,_=>bY)=_
 rw [e1,e]
theorem sq (g:bo es p):∀{t:Tm}{v:Int},t.ok p->rk es t=J v->In6 v
 | .num k,v,ht,h=>by cases h;exact ht
 | .nm s,v,ht,h=>by
  obtain ⟨u,e,hu⟩:=g s ht;obtain rfl:=same (vk e) h;exact hu
 | .op c a b,v,ht,h=>by
  cases e1:rk es a with
  | none=>exact bc (oo e1) h
  | some x=>
   cases e2:rk es b with
   | none=>exact bc (ub e1 e2) h
   | some y=>exact Jf (sq g ht.2.1 e1) (sq g ht.2.2 e2) ((oq e1 e2).symm.trans h)
variable (hK:aD PP K)
include hK
theorem Aa (hN:1<=N)(hc:cM c)(hx:In6 x)(hy:In6 y)(hq:Q (ofO (jn c x y)) h):K N 17 [.str [c],.int x,.int y] Q X h:=by
 obtain ⟨n,rfl⟩:∃n,N=n+1:=⟨N-1,sb hN⟩
 refine hK _ _ _ _ _ _ pD rfl rfl ?_;unfold In6 at hx hy
 rcases hc with rfl | rfl | rfl | rfl | rfl | rfl
 ·conv=>whnf
  exact hq
 ·conv=>whnf
  exact hq
 ·conv=>whnf
  refine ⟨.inr (G6 hy),?_⟩;exact hq
 ·conv=>whnf
  exact hq
 ·conv=>whnf
  exact hq
 ·conv=>whnf
  cases h0:(y==0) with
  | true=>
   have e:jn 47 x y=bY:=by simp only [jn,h0];rfl
   rw [e] at hq;exact hq
  | false=>
   have e:jn 47 x y=J (x / y):=by simp only [jn,h0];rfl
   have:y≠0:=by simpa using h0
   rw [e] at hq;exact az (decide_eq_true (⟨Int.lt_iff_le_and_ne.mpr ⟨hy.1,LP this⟩,LQ hy.2 (by decide)⟩)) hq
theorem qw (g:bo es p):∀(t:Tm) {N:Nat}{Q:MV->List MO->Prop}{X:XT}{h:List MO},t.deep+2<=N->h[r]?=J (.dict es)->t.ok p->Q (ofO (rk es t)) h->K N 18 [t.mv,.ref r] Q X h:=by
 intro t
 induction t with
 | num k=>
  intro N Q X h hN hr ht hq;obtain ⟨n,rfl⟩:∃n,N=n+1:=⟨N-1,sb (n1 hN)⟩
  refine hK _ _ _ _ _ _ ej rfl rfl ?_;exact hq
 | nm s=>
  intro N Q X h hN hr ht hq;obtain ⟨n,rfl⟩:∃n,N=n+1:=⟨N-1,sb (n1 hN)⟩
  refine hK _ _ _ _ _ _ ej rfl rfl ?_;obtain ⟨v,e,_⟩:=g s ht;refine bT hr ?_;refine cy e ?_;rw [vk e] at hq;exact hq
 | op c a b iha ihb=>
  intro N Q X h hN hr ht hq;obtain ⟨n,rfl⟩:∃n,N=n+1:=⟨N-1,sb (n1 hN)⟩
  have hN:max a.deep b.deep+1+2<=n+1:=hN;refine hK _ _ _ _ _ _ ej rfl rfl ?_;obtain ⟨hc,ha,hb⟩:=ht;have key:aA K n (ej.body.drop 2) (fin Q) (xin X) ⟨[J (Tm.op c a b).mv,J (.ref r),bY,bY],h⟩:=by
   refine iha (n2 hN (KF a.deep b.deep)) hr ha ?_;refine ihb (n2 hN (KI a.deep b.deep)) hr hb ?_
   cases e1:rk es a with
   | none=>
    rw [oo e1] at hq;exact hq
   | some x=>
    cases e2:rk es b with
    | none=>
     rw [ub e1 e2] at hq;exact hq
    | some y=>
     rw [oq e1 e2] at hq;exact Aa hK (n1 hN) hc (sq g ha e1) (sq g hb e2) hq
  rcases hc with rfl | rfl | rfl | rfl | rfl | rfl<;>exact key
end
noncomputable def Tm.ws:Tm->List (List Nat)
 | .num k=>[dec k]
 | .nm s=>[s]
 | .op c a b=>[c]::(a.ws++b.ws)
theorem kF (c:Nat):∀{x y:List (List Nat)},x≠[]->y≠[]->d9 c (x++y)=d9 c x++c::d9 c y
 | [],_,h,_=>absurd rfl h
 | [a],y,_,h=>by
  cases y with
  | nil=>exact absurd rfl h
  | cons b r=>rfl
 | a::b::r,y,_,h=>by
  have e:=kF c (x:=b::r) (y:=y) (KX _ _) h;show a++c::d9 c (b::r++y)=(a++c::d9 c (b::r))++c::d9 c y;rw [e,Ks];rfl
theorem Tm.ws_ne (t:Tm):t.ws≠[]:=by
 cases t<;>exact KX _ _
theorem Tm.txt_ws:∀t:Tm,t.txt=d9 32 t.ws
 | .num _=>rfl
 | .nm _=>rfl
 | .op c a b=>by
  show [c]++[32]++a.txt++[32]++b.txt=d9 32 ([[c]]++(a.ws++b.ws));rw [kF 32 (KX _ _) (λe=>a.ws_ne (List.append_eq_nil_iff.mp e).1),kF 32 a.ws_ne b.ws_ne,a.txt_ws,b.txt_ws];simp [d9]
theorem Nm.no32 (h:Nm s):32∉s:=λq=>absurd (h.2.2.1 32 q) (by decide)
theorem Ab (h:0<=k):32∉dec k:=λq=>by
 obtain ⟨n,rfl⟩:=K3 h;exact absurd (dY n 32 q).1 (by decide)
theorem Tm.ws_free:∀{t:Tm},t.ok Gn->∀w∈t.ws,32∉w
 | .num k,h,w,hw=>by rw [iD.mp hw];exact Ab h.1
 | .nm s,h,w,hw=>by rw [iD.mp hw];exact h.1.no32
 | .op c a b,h,w,hw=>by
  rcases IF.mp hw with rfl | hw
  ·have:=h.1;unfold cM at this;intro q;have:=iD.mp q;lia
  ·rcases nO.mp hw with hw | hw
   ·exact a.ws_free h.2.1 w hw
   ·exact b.ws_free h.2.2 w hw
theorem Tm.txt_len:∀{t:Tm},t.ok Gn->t.txt.length+4<=12 * t.lv
 | .num k,h=>by have:=(fE h).2;show (dec k).length+4<=12;lia
 | .nm s,h=>by have:=h.1.2.1;show s.length+4<=12;lia
 | .op c a b,h=>by
  have h1:=a.txt_len h.2.1;have h2:=b.txt_len h.2.2;show ([c]++[32]++a.txt++[32]++b.txt).length+4<=12 * (a.lv+b.lv);simp only [eQ,Kx];lia
theorem Tm.good.len {t:Tm}(h:t.good):t.txt.length<=92:=by
 have h1:=t.txt_len h.1;have h2:=t.lv_le;have h3:2 ^ t.deep<=2 ^ 3:=Mj (by decide) h.2;lia
theorem Ac (c:Nat):∀{x y:List (List Nat)},x≠[]->y≠[]->(∀w∈x,c∉w)->(∀w∈y,c∉w)->d9 c x=d9 c y->x=y:=by
 have head:∀{a b:List Nat} {r r':List Nat},c∉a->c∉b->a++c::r=b++c::r'->a=b/\r=r':=by
  intro a
  induction a with
  | nil=>
   intro b r r' _ hb e
   cases b with
   | nil=>exact ⟨rfl,(LX e).2⟩
   | cons z b=>exact absurd (LX e).1 λq=>hb (q▸IS ..)
  | cons z a ih=>
   intro b r r' ha hb e
   cases b with
   | nil=>exact absurd (LX e).1 λq=>ha (q▸IS ..)
   | cons z' b=>
    obtain ⟨h1,h2⟩:=LX e;obtain ⟨h3,h4⟩:=ih (λq=>ha (IN _ q)) (λq=>hb (IN _ q)) h2;exact ⟨by rw [h1,h3],h4⟩
 intro x
 induction x with
 | nil=>intro y h;exact absurd rfl h
 | cons a x ih=>
  intro y _ hy hx hy' e
  cases y with
  | nil=>exact absurd rfl hy
  | cons b y=>
   have ha:=hx a (IS ..);have hb:=hy' b (IS ..)
   cases x with
   | nil=>
    cases y with
    | nil=>rw [show a=b from e]
    | cons b' y=>
     have e:a=b++c::d9 c (b'::y):=e;exact absurd (by rw [e];simp) ha
   | cons a' x=>
    cases y with
    | nil=>
     have e:a++c::d9 c (a'::x)=b:=e;exact absurd (by rw [<-e];simp) hb
    | cons b' y=>
     obtain ⟨h1,h2⟩:=head ha hb e;rw [h1,ih (KX _ _) (KX _ _) (λw hw=>hx w (IN _ hw)) (λw hw=>hy' w (IN _ hw)) h2]
section
variable (hK:aD PP K)
include hK
omit hK in
theorem qx {P:Nat->Prop}(h:∀i,i<10->P (48+i))(c:Nat)(h1:48<=c)(h2:c<=57):P c:=by
 have:=h (c-48) (Nat.sub_lt_left_of_lt_add h1 (MC h2));rw [Of h1] at this;exact this
omit hK in
theorem Dn (c:Nat)(h1:48<=c)(h2:c<=57):abc.contains c=Z:=qx (P:=λc=>abc.contains c=Z) (by decide) c h1 h2
omit hK in
theorem Ad (c:Nat)(h1:48<=c)(h2:c<=57):t6.contains c=aT:=qx (P:=λc=>t6.contains c=aT) (by decide) c h1 h2
omit hK in
theorem Ae (h:0<=k):abc.contains ((dec k).headD 0)=Z:=by
 obtain ⟨n,rfl⟩:=K3 h;have h0:=pZ n;have:=dY n ((dec n).headD 0) (by cases q:dec (n:Int) with | nil=>exact absurd q h0 | cons a r=>exact IS ..);exact Dn _ this.1 this.2
omit hK in
theorem qy (h:0<=k):∀c∈dec k,c<128:=by
 obtain ⟨n,rfl⟩:=K3 h;exact λc hc=>Kn (dY n c hc).2 (by decide)
omit hK in
theorem Af (h:0<=k/\k<1000000):dec k≠[]:=λe=>by have:=(fE h).1;rw [e] at this;exact absurd this (by decide)
theorem Ag (h0:0<=k/\k<1000000)(hq:Q (.bool Z) h):K (n+1) 24 [.str (dec k)] Q X h:=by
 obtain ⟨h1,h2⟩:=fE h0;have hd:=Ae h0.1;have hne:=Af h0;have h128:=qy h0.1;generalize dec k=s at *;refine hK _ _ _ _ _ _ jM rfl rfl ?_;refine jl (decide_eq_true (Ly.mpr h1)) ?_;refine bx (ng (decide_eq_true (Ly.mpr (dO h2 (nb rfl))))) ?_;refine bV (ss:=kws) (λc hc=>LY (h128 c hc) (by decide)) eI ?_;refine dP (λ_=>hq) λ_=>?_;refine aw (ba (by decide) (kX h1)) (oe hne) ?_;exact jl (pg hd) hq
omit hK in
theorem Ah (h:0<=k)(e:(dec k).headD 0=48):dec k=[48]:=by
 obtain ⟨n,rfl⟩:=K3 h;have key:∀n:Nat,0<n->(dec n).headD 0≠48:=λn=>by
  induction n using Nat.strongRecOn with
  | _ n ih=>
   intro hp
   rcases LO n 10 with h | h
   ·rw [uZ h];show 48+n≠48;lia
   ·have hn:(dec ((n / 10:Nat):Int)).headD 0≠48:=ih (n / 10) (by lia) (by lia);rw [ro h]
    cases q:dec ((n / 10:Nat):Int) with
    | nil=>exact absurd q (pZ _)
    | cons a r=>rw [q] at hn;exact hn
 rcases Om n with rfl | hp
 ·rfl
 ·exact absurd e (key n hp)
theorem G8 {t:Tm}(ht:t.ok Gn)(hd:t.deep=0)(hq:Q t.mv h):K (n+3) 30 [.str t.txt] Q X h:=by
 refine hK _ _ _ _ _ _ jN rfl rfl ?_
 cases t with
 | op=>exact absurd hd (Nat.succ_ne_zero _)
 | nm s=>exact iG hK ht hq
 | num k=>
  refine Ag hK ht ?_;obtain ⟨h1,h2⟩:=fE ht;have hne:=Af ht;have rest:aA K (n+2) (jN.body.drop 2) (fin Q) (xin X) ⟨[J (.str (dec k)),bY,bY],h⟩:=by
   refine aI (si (qy ht.1)) ?_;refine gS (λ_ w=>⟨[J (.str (dec k)),w,bY],h⟩) (λ_ _=>True) bY rfl trivial (λ_ _ _=>trivial) (λi y w P hy _ hn _=>?_) (λw _=>?_)
   ·obtain ⟨c,hc,rfl⟩:=sj hy;obtain ⟨j,rfl⟩:=K3 ht.1;have:=dY j c hc;exact bx (ng (Ad c this.1 this.2)) (hn _ trivial)
   ·exact ⟨rfl,k,rfl,ht,od hK ht hq⟩
  refine jl (decide_eq_true (Ly.mpr h1)) ?_;refine bx (ng (decide_eq_true (Ly.mpr h2))) ?_;refine aw (ba (by decide) (kX h1)) (oe hne) ?_;refine dP (λq=>?_) λ_=>rest;exact bx (ng (beq_iff_eq.mpr (Ah ht.1 (LX (eq_of_beq q)).1))) rest
end
section
theorem la {x y:List Nat}(hx:x.length<=m)(hy:y.length<=n):(x++y).length<=m+n:=by rw [eQ];exact KH hx hy
theorem lp {x y:List Nat}(hx:x.length<=m)(hy:y.length<=n)(h:PG (m+n) 1000000=aT):x.length+y.length<=line:=aR (dO (KH hx hy) (nb h))
theorem l1:[c].length<=1:=oF _
theorem Ai {w:List Nat}(h:w.length≠1):([c]==w)=Z:=beq_eq_false_iff_ne.mpr λe=>h (by rw [<-e];rfl)
theorem ED {a b:Tm}(ga:a.good)(gb:b.good)(ha:∀{Q X},Q (.str a.txt) h->K n f [a.mv] Q X h)(hb:∀{Q X},Q (.str b.txt) h->K n f [b.mv] Q X h)(hp:P (.str (Tm.op c a b).txt) ⟨[J (Tm.op c a b).mv],h⟩) :
  wpE K n (.bin .add (.bin .add (.bin .add (.bin .add (.idx (.var 0) (.cst (.int 0))) (.cst (.str [32]))) (.call f [.idx (.var 0) (.cst (.int 1))])) (.cst (.str [32]))) (.call f [.idx (.var 0) (.cst (.int 2))])) P X ⟨[J (Tm.op c a b).mv],h⟩:=by
 refine ⟨lp l1 l1 rfl,?_⟩;refine ha ?_;refine ⟨lp (la l1 l1) ga.len rfl,?_⟩;refine ⟨lp (la (la l1 l1) ga.len) l1 rfl,?_⟩;refine hb ?_;exact ⟨lp (la (la (la l1 l1) ga.len) l1) gb.len rfl,hp⟩
variable (hK:aD PP K)
include hK
theorem qz:∀(t:Tm) {N:Nat}{Q:MV->List MO->Prop}{X:XT}{h:List MO},t.good->t.deep<N->Q (.str t.txt) h->K N 27 [t.mv] Q X h
 | .num k,N,Q,X,h,ht,hN,hq=>kc hK dg hN rfl rfl λM _=>⟨⟨Mp (by decide) ht.1.1,ht.1.2⟩,hq⟩
 | .nm s,N,Q,X,h,ht,hN,hq=>kc hK dg hN rfl rfl λM _=>hq
 | .op c a b,N,Q,X,h,ht,hN,hq=>kc hK dg hN rfl rfl λM hM=>ED ht.sub.1 ht.sub.2 (qz a ht.sub.1 (KG (MC (KF ..)) hM)) (qz b ht.sub.2 (KG (MC (KI ..)) hM)) hq
theorem mT:∀(t:Tm) {N:Nat}{Q:MV->List MO->Prop}{X:XT}{h:List MO},t.good->t.deep<N->Q (.str t.txt) h->K N 42 [t.mv] Q X h
 | .num k,N,Q,X,h,ht,hN,hq=>kc hK fO hN rfl rfl λM _=>⟨⟨Mp (by decide) ht.1.1,ht.1.2⟩,hq⟩
 | .nm s,N,Q,X,h,ht,hN,hq=>kc hK fO hN rfl rfl λM _=>hq
 | .op c a b,N,Q,X,h,ht,hN,hq=>kc hK fO hN rfl rfl λM hM=>bx (Ai (by decide)) (bx (Ai (by decide)) (ED ht.sub.1 ht.sub.2 (mT a ht.sub.1 (KG (MC (KF ..)) hM)) (mT b ht.sub.2 (KG (MC (KI ..)) hM)) hq))
omit hK in
theorem Aj:∀s∈sgs,s.headD 0∈[43,45,42,47,60,61]:=by decide
omit hK in
theorem G9 (c:Nat)(h1:48<=c)(h2:c<=57):c∉[43,45,42,47,60,61]:=qx (P:=λc=>c∉[43,45,42,47,60,61]) (by decide) c h1 h2
omit hK in
theorem vm {t:Tm}(ht:t.ok Gn)(hd:t.deep=0):sgs.contains t.txt=Z/\okS t.txt:=by
 have key:∀s:List Nat,s.headD 0∉[43,45,42,47,60,61]->sgs.contains s=Z:=λs h=>OC.mpr λq=>h (Aj s (KL.mp q))
 cases t with
 | op=>exact absurd hd (Nat.succ_ne_zero _)
 | nm s=>exact ⟨key s λq=>absurd ht.1.2.2.2 (by revert q;generalize s.headD 0=c;revert c;decide),ht.1.ok⟩
 | num k=>
  obtain ⟨j,rfl⟩:=K3 ht.1;refine ⟨key _ ?_,λc hc=>LY (qy ht.1 c hc) (by decide)⟩;have h0:=pZ j;have hd:=dY j;show (dec (j:Int)).headD 0∉_;generalize dec (j:Int)=s at *
  cases s with
  | nil=>exact absurd rfl h0
  | cons a r=>exact G9 a (hd a (.head _)).1 (hd a (.head _)).2
omit hK in
theorem su {ws:List (List Nat)}(h:ws.drop at_=w::r):at_<ws.length/\(ws.map MV.str)[at_]?=J (.str w)/\ws.drop (at_+1)=r:=by
 have hlt:at_<ws.length:=Nat.lt_of_not_le λq=>by rw [NN q] at h;cases h
 obtain ⟨e1,e2⟩:=LX (h.symm.trans (Le hlt));exact ⟨hlt,by rw [ID,KC hlt,<-e1];rfl,e2.symm⟩
structure At_ (ws:List (List Nat))(i:Nat)(w:List Nat):Prop where
 lt:¬ ((ws.map MV.str).length:Int)<=i
 p:g9 i (ws.map MV.str).length=J i
 e:(ws.map MV.str)[i]?=J (.str w)
omit hK in
theorem sv {ws:List (List Nat)}(h:ws.drop i=w::r):At_ ws i w:=by
 obtain ⟨h1,h2,_⟩:=su h;have h3:i<(ws.map MV.str).length:=by rw [iF];exact h1
 exact ⟨NY.mpr (LN.mpr h3),fk rfl h3,h2⟩
section
variable {r:Nat}{ws:List (List Nat)}{h:List MO}(hr:h[r]?=J (.list (ws.map .str)))
include hr
theorem ot (w:List Nat)(hd:deep<=12)(he:ws.drop at_=w::rest)(hw:okS w)(hq:bt (!sgs.contains w) (K M 30 [.str w] (λv h=>Q (.tup [v,.int (at_+1)]) h) X h) (aA K M (eE.body.drop 3) (fin Q) (xin X) ⟨[J (.ref r),J (.int at_),J (.int deep),J (.str w),bY,bY,bY,bY],h⟩)):K (M+1) 31 [.ref r,.int at_,.int deep] Q X h:=by
 have A:=sv he;refine hK _ _ _ _ _ _ eE rfl rfl ?_;refine av hr ?_;refine bx (decide_eq_false A.lt) ?_;refine bx (decide_eq_false (MX.mpr hd)) ?_;refine ae hr (aw A.p A.e ?_);exact bV hw z6 hq
theorem Ha:∀(t:Tm) {N at_:Nat}{deep:Int}{rest:List (List Nat)}{Q:MV->List MO->Prop}{X:XT},t.ok Gn->t.deep+3<N->deep+t.deep<=12->ws.drop at_=t.ws++rest->
  Q (.tup [t.mv,.int (at_+t.ws.length:Nat)]) h->K N 31 [.ref r,.int at_,.int deep] Q X h:=by
 have leaf:∀(t:Tm) {N at_:Nat} {deep:Int} {rest:List (List Nat)} {Q:MV->List MO->Prop} {X:XT},t.deep=0->t.ok Gn->3<N->deep<=12->ws.drop at_=t.txt::rest->Q (.tup [t.mv,.int (at_+1)]) h->K N 31 [.ref r,.int at_,.int deep] Q X h:=λt {N at_ deep rest Q X} h0 ht hN hd he hq=>by
  obtain ⟨M,rfl⟩:∃M,N=M+3+1:=⟨N-4,sb hN⟩
  have hl:=vm ht h0;exact ot hK hr _ hd he hl.2 (jl (pg hl.1) (G8 hK ht h0 hq))
 intro t
 induction t with
 | num k=>exact λ{N at_ deep rest Q X} ht hN hd he hq=>leaf (.num k) rfl ht hN (by rw [<-Ni deep];exact hd) he hq
 | nm s=>exact λ{N at_ deep rest Q X} ht hN hd he hq=>leaf (.nm s) rfl ht hN (by rw [<-Ni deep];exact hd) he hq
 | op c a b iha ihb=>
  intro N at_ deep rest Q X ht hN hd he hq;obtain ⟨M,rfl,hM⟩:=room hN;have hM:max a.deep b.deep+1+3<=M:=hM;obtain ⟨da,db⟩:=dl hd;have hs:=mR ht.1;have e2:ws.drop (at_+1)=a.ws++(b.ws++rest):=(su he).2.2.trans (Ks ..);have e3:ws.drop (at_+1+a.ws.length)=b.ws++rest:=by rw [<-NS,e2,MW]
  refine ot hK hr [c] (Mp (M7 (KZ _)) hd) he hs.2 (bx (ng hs.1) ?_);refine iha (at_:=at_+1) ht.2.1 (n2 (KF a.deep b.deep) hM) da e2 ?_;refine ⟨rfl,?_⟩;refine ihb (at_:=at_+1+a.ws.length) ht.2.2 (n2 (KI a.deep b.deep) hM) db e3 ?_;refine ⟨rfl,?_⟩;have e4:at_+(Tm.op c a b).ws.length=at_+1+a.ws.length+b.ws.length:=by
   show at_+((a.ws++b.ws).length+1)=_;rw [eQ];simp +arith only
  rw [e4] at hq;exact hq
omit hr in
theorem kG {t:Tm}(hr:h[r]?=J (.list (t.ws.map .str)))(ht:t.good)(hN:8<=N)(hq:Q t.mv h):K N 32 [.ref r] Q X h:=by
 refine kc hK gm (k:=7) hN rfl rfl λM hM=>?_;refine Ha hK (at_:=0) (rest:=[]) hr t ht.1 (n2 ht.2 hM) (by have:(t.deep:Int)<=3:=Ly.mpr ht.2;exact z1 this) (by rw [Kr];rfl) ?_;refine ⟨rfl,?_⟩;refine av hr ?_;refine bx (ng (beq_iff_eq.mpr (by rw [iF,L5]))) hq
theorem uc (he:ws.drop at_=l::rest)(hq:Q .none h):K (N+1) 33 [.ref r,.int at_,.str l] Q X h:=by
 have A:=sv he;refine hK _ _ _ _ _ _ ki rfl rfl ?_;refine av hr ?_;refine bx (decide_eq_false A.lt) ?_;refine ae hr (aw A.p A.e ?_);exact bx (ng (beq_self_eq_true l)) hq
end
end
section
noncomputable def RLs (K:KT)(r:Rw):Prop:=∀{N:Nat}{Q:MV->List MO->Prop}{X:XT}{h:List MO},r.good->r.lines.length<=100000->2 * r.nest+6<N->
 (∀h',h<+:h'->h'[h.length]?=J (.list (r.lines.map .str))->Q (.ref h.length) h')->K N 28 [r.mv] Q X h
theorem mq (rs:List Rw)(j:Nat):(lns (rs.take j)).length<=(lns rs).length:=by
 have e:=cv (rs.take j) (rs.drop j);rw [K0] at e;rw [e,eQ];exact K5 ..
noncomputable def seg (k:Nat)(b:List Rw):List (List Nat):=match k with
 | 0=>lns b
 | _=>cu::lns b
noncomputable def hE (k:Nat):List (List Rw)->List (List Nat)
 | []=>[]
 | b::bs=>seg k b++hE (k+1) bs
noncomputable def tl {α:Type}:List α->List (List Nat)
 | []=>[]
 | _=>[b8]
theorem ou:∀(k:Nat) (a b:List (List Rw)),hE k (a++b)=hE k a++hE (k+a.length) b
 | k,[],b=>rfl
 | k,x::a,b=>by
  show seg k x++hE (k+1) (a++b)=seg k x++hE (k+1) a++_;rw [ou (k+1) a b,Ks,KQ,N2,Nat.add_comm 1]
theorem pL {bs:List (List Rw)}(e:bs[j]?=J b):hE 0 (bs.take (j+1))=hE 0 (bs.take j)++seg j b:=by
 have hl:=(iN.mp e).1;rw [aq e,ou,List.length_take_of_le (LA hl),L5];exact congrArg _ (Kr _)
theorem Dp (bs:List (List Rw))(j:Nat):(hE 0 (bs.take j)).length<=(hE 0 bs).length:=by
 have e:=ou 0 (bs.take j) (bs.drop j);rw [K0] at e;rw [e,eQ];exact K5 ..
theorem Hb {g:Gd}{step:MV->(Fl->MS->Prop)->MS->Prop}{Q:Fl->MS->Prop}{α β:Type}(st:Nat->α->β->MS)(I:Nat->α->β->Prop){k:Nat}{m:MS}(a:α)(b:β)(e0:m=st 0 a b)(h0:I 0 a b)(hg:∀i a b,I i a b->aS g (st i a b).heap)
  (hstep:∀i a b (P:Fl->MS->Prop),i<k->I i a b->(∀a b,I (i+1) a b->P .next (st (i+1) a b))->step (.int i) P (st i a b)) (hend:∀a b,I k a b->Q .next (st k a b)):fb g step Q ((LH k).map λ(i:Nat)=>.int i) m:=
 gT st I a b e0 h0 hg (λi x a b P hx hI hn _=>C4 (G:=λx=>step x P (st i a b)) hx λhj=>hstep i a b P hj hI hn) (by rw [lq];exact hend)
variable (hK:aD PP K)
include hK
theorem pM (ih:∀r∈rs,RLs K r)(hg:b0 rs)(hz:(lns rs).length<=100000)(hN:2 * ak rs+7<N)
  (hq:∀h',h<+:h'->h'[h.length]?=J (.list ((lns rs).map .str))->Q (.ref h.length) h'):K N 29 [.tup (mvs rs)] Q X h:=by
 refine kc hK n8 hN rfl rfl λM hM=>?_;refine gT (λj w hp=>⟨[J (.tup (mvs rs)),J (.ref h.length),w],hp⟩) (λj w hp=>h<+:hp/\hp[h.length]?=J (.list ((lns (rs.take j)).map .str))) bY _ rfl ⟨aa (aj _),ac _ _⟩ (λ_ _ _ _=>trivial) (λj x w hp P hx hI hn _=>?_) (λw hp hI=>?_)
 ·obtain ⟨r,hr,rfl⟩:=mQ hx;have hmem:=rW hr;have hle:(lns (rs.take (j+1))).length<=100000:=dO (mq rs _) hz;rw [aq hr,cv,d7,eQ] at hle;refine az (e8 hI.2) ?_;refine ih r hmem (eZ hg r hmem) (dO (L9 ..) hle) (n2 (KP 2 (dw (oF (ak rs)) r hmem)) hM) λh' hpre' hat=>?_;have hi':=af hpre' hI.2;refine aV (aU hi') (aV (aU hat) ?_);refine ⟨aR (by rw [iF,iF];exact dO hle (nb rfl)),?_⟩;refine hn _ _ ⟨aF (hI.1.trans hpre') (oF _),?_⟩;rw [aq hr,cv,d7,KB];exact get_set hi'
 ·have:=hI.2;rw [cj,KD] at this;exact hq hp hI.1 this
omit hK in
theorem Hc {hp:List MO}{L l:List (List Nat)}(hi:hp[i]?=J (.list (L.map .str)))(hk:hp[k]?=J (.list (l.map .str)))(hz:L.length+l.length<=1000000)(h:P .next ⟨vs,hp.set i (.list ((L++l).map .str))⟩):dt .extend (.ref i) [.ref k] (uS P) ⟨vs,hp⟩:=by
 refine aV (aU hi) (aV (aU hk) ?_);refine ⟨aR (by rw [iF,iF];exact hz),?_⟩;rw [KB] at h;exact h
omit hK in
theorem ud (hi:hp[i]?=J (.list (L.map .str)))(hz:L.length<=1000000)(h:P .next ⟨vs,hp.set i (.list ((L++[w]).map .str))⟩):onT (jX .append (.ref i) hp) (dt .append (.ref i) [.str w] (uS P) ⟨vs,hp⟩):=by
 refine az (aH hi) (aV (aU hi) ?_);refine ⟨by rw [iF];exact Kn hz (by unfold line;decide),?_⟩;rw [KB] at h;exact h
section
variable {t:Tm}
theorem Dq {hp:List MO}(hpre:h<+:hp)(e1:hp[h.length]?=J (.list ([L0].map .str)))(e2:hp[h.length+1]?=J (.list (bs.map λb=>.tup (mvs b))))(ih:∀b∈bs,∀r∈b,RLs K r)(hg:∀b∈bs,b0 b)(hn:∀b∈bs,2 * ak b+7<M)(hz:(hE 0 bs).length<=99999)(hb:bs.length<=2)
  (hq:∀h',h<+:h'->h'[h.length]?=J (.list ((L0::(hE 0 bs++tl bs)).map .str))->Q (.ref h.length) h'):aA K M (dH.body.drop 4) (fin Q) (xin X) ⟨[J x,J (.ref h.length),J (.ref (h.length+1)),bY],hp⟩:=by
 have ne:h.length≠h.length+1:=KA (Lp _);refine av e2 ?_;refine aI (iB (Mp (by decide) (KZ _)) (Ly.mpr (by rw [iF];exact dO hb (nb rfl)))) ?_;refine Hb (k:=(bs.map λb=>MV.tup (mvs b)).length) (λj w hp=>⟨[J x,J (.ref h.length),J (.ref (h.length+1)),w],hp⟩) (λj w hp=>A3 (h<+:hp) (hp[h.length]?=J (.list ((L0::hE 0 (bs.take j)).map .str))) (hp[h.length+1]?=J (.list (bs.map λb=>.tup (mvs b))))) bY hp rfl ⟨hpre,e1,e2⟩ (λ_ _ _ _=>trivial) (λj w hp P hj hI hn'=>?_) (λw hp hI=>?_)
 ·have hj:j<bs.length:=by rw [<-iF (as:=bs) (f:=λb=>MV.tup (mvs b))];exact hj
  have eb:=bn hj;generalize bs[j]=b at eb;have hm:=rW eb;have hle:=dO (Dp bs (j+1)) hz;rw [pL eb,eQ] at hle;have go:∀{hp' L},A3 (h<+:hp') (hp'[h.length]?=J (.list (L.map .str))) (hp'[h.length+1]?=J (.list (bs.map λb=>.tup (mvs b))))->L++lns b=L0::(hE 0 (bs.take j)++seg j b)->aA K M [.expr (.mth .extend (.var 1) [.call 29 [.idx (.var 2) (.var 3)]])] P (xin X) ⟨[J x,J (.ref h.length),J (.ref (h.length+1)),J (.int j)],hp'⟩:=λ{hp' L} q e=>by
   have e':=congrArg Nh e;rw [eQ,KQ,eQ] at e';refine az (e8 q.h2) ?_;refine ae q.h3 (aw (fk rfl (by rw [iF];exact hj)) (by rw [ID,eb];rfl) ?_);refine pM hK (ih b hm) (hg b hm) (n2 (Km e') hle) (hn b hm) λh' p' hat=>?_;refine Hc (af p' q.h2) hat (n2 (Km e') hle) ?_;refine hn' _ _ ⟨aF (q.h1.trans p') (oF _),?_,ap ne (af p' q.h3)⟩;rw [pL eb,<-e];exact get_set (af p' q.h2)
  cases j with
  | zero=>exact go hI rfl
  | succ j=>
   refine jl (decide_eq_true (LN.mpr (Mq j))) ?_;refine ud hI.h2 (by rw [KQ];exact n1 hle) ?_;exact go ⟨aF hI.h1 (oF _),get_set hI.h2,ap ne hI.h3⟩ (by rw [Ks];rfl)
 ·obtain ⟨q1,q2,q3⟩:=hI;rw [iF,KD] at q2;refine .nil _ _ _ rfl rfl (ai q3) (ac _ _) ?_
  cases bs with
  | nil=>exact hq _ (aa q1) (ai q2)
  | cons b bs=>
   refine ud (ai q2) (by rw [KQ];exact n1 hz) ?_;exact hq _ (aF (aa q1) (oF _)) (get_set (ai q2))
theorem qA (hw:wd.length<=5)(h1:(wd==jC)=Z)(h2:(wd==cO)=Z)(ht:t.good)(hbs:∀{N:Nat}{Q:MV->List MO->Prop}{X:XT}{h:List MO},Q (.ref h.length) (h++[.list (bs.map λb=>.tup (mvs b))])->K (N+1) 25 [.tup (.str wd::t.mv::more)] Q X h)
  (ih:∀b∈bs,∀r∈b,RLs K r) (hg:∀b∈bs,b0 b) (hn:∀b∈bs,2 * ak b+7<M) (hM:5<=M) (hz:(hE 0 bs).length<=99999) (hb:bs.length<=2)
  (hq:∀h',h<+:h'->h'[h.length]?=J (.list (((wd++[32]++t.txt)::(hE 0 bs++tl bs)).map .str))->Q (.ref h.length) h'):K (M+1) 28 [.tup (.str wd::t.mv::more)] Q X h:=by
 obtain ⟨M,rfl⟩:∃M',M=M'+1:=⟨M-1,sb (dO (nb rfl) hM)⟩
 have p0:g9 0 (MV.str wd::t.mv::more).length=J 0:=fk rfl (Mq _);refine hK _ _ _ _ _ _ dH rfl rfl ?_;refine aw p0 rfl (bx h1 ?_);refine aw p0 rfl (bx h2 ?_);refine aw p0 rfl ?_;refine ⟨lp hw l1 rfl,?_⟩;refine hK _ _ _ _ _ _ fU rfl rfl ?_;refine aw p0 rfl (bx h1 ?_);refine aw p0 rfl (bx h2 ?_);refine aw (k:=1) (j:=1) (fk rfl (ON (Mq _))) rfl ?_;refine qz hK t ht (Kn ht.2 (OD hM)) ?_;refine ⟨lp (la hw l1) ht.len rfl,?_⟩;refine hbs ?_;have e:(h++[MO.list [MV.str (wd++[32]++t.txt)]]).length=h.length+1:=by rw [eQ];rfl
 have r:=Dq (X:=X) hK (x:=.tup (.str wd::t.mv::more)) (aa (aa (aj h))) (ai (o':=.list (bs.map λb=>.tup (mvs b))) (ac h (.list [.str (wd++[32]++t.txt)]))) (by rw [<-e];exact ac _ _) ih hg hn hz hb hq;rw [<-e] at r;exact r
end
theorem Hd (ih:∀b∈r.subs,∀q∈b,RLs K q):RLs K r:=by
 intro N Q X h hg hz hN hq
 cases r with
 | skip=>exact kc hK dH hN rfl rfl λM _=>hq _ (aa (aj _)) (ac _ _)
 | set s t=>
  refine kc hK dH hN rfl rfl λM hM=>?_;have l4:cO.length+1<=4:=oF _;refine ⟨lp (x:=[115,101,116,32]) (m:=4) (oF _) hg.1.1.2.1 rfl,?_⟩;refine ⟨lp (la (x:=[115,101,116,32]) (m:=4) (oF _) hg.1.1.2.1) l1 rfl,?_⟩;refine qz hK t hg.2 (Kn hg.2.2 (dO (nb rfl) hM)) ?_;refine ⟨lp (la (la (x:=[115,101,116,32]) (m:=4) (oF _) hg.1.1.2.1) l1) hg.2.len rfl,?_⟩;exact hq _ (aa (aj _)) (ac _ _)
 | tell t=>
  obtain ⟨M,rfl,hM⟩:=room hN;exact qA hK (wd:=dJ) (more:=[]) (bs:=[]) (nb rfl) rfl rfl hg (λhq=>hK _ _ _ _ _ _ dG rfl rfl hq) (λ_ h=>aO h) (λ_ h=>aO h) (λ_ h=>aO h) (dO (nb rfl) hM) (nb rfl) (nb rfl) hq
 | wh t a=>
  obtain ⟨M,rfl,hM⟩:=room hN;have hM:2 * (ak a+1)+6<=M:=hM;have one:∀{P:List Rw->Prop},P a->∀b∈[a],P b:=λhp b hb=>by rw [iD.mp hb];exact hp
  have hz:(lns a++[b8]).length+1<=100000:=hz;rw [eQ] at hz;refine qA hK (wd:=bv) (more:=[.tup (mvs a)]) (bs:=[a]) (nb rfl) rfl rfl hg.1 (λhq=>hK _ _ _ _ _ _ dG rfl rfl hq) (one (ih a (.head _))) (one hg.2) (one (n1 hM)) (n1 hM) (by show (lns a++[]).length<=_;rw [Kr];exact n1 hz) (nb rfl) λh' p e=>hq h' p ?_;rw [e];show _=J (MO.list (((bv++[32]++t.txt)::(lns a++[b8])).map .str));rw [show hE 0 [a]=lns a from Kr _];rfl
 | ite t a b=>
  obtain ⟨M,rfl,hM⟩:=room hN;have hM:2 * (max (ak a) (ak b)+1)+6<=M:=hM;have two:∀{P:List Rw->Prop},P a->P b->∀c∈[a,b],P c:=λh1 h2 c hc=>by
   rcases IF.mp hc with rfl | hc
   ·exact h1
   ·rw [iD.mp hc];exact h2
  have hz:(lns a++cu::(lns b++[b8])).length+1<=100000:=hz;rw [eQ,KQ,eQ] at hz;have na:=KP 2 (KF (ak a) (ak b));have nb':=KP 2 (KI (ak a) (ak b));have es:hE 0 [a,b]=lns a++cu::lns b:=congrArg (lns a++·) (Kr _);refine qA hK (wd:=wIf) (more:=[.tup (mvs a),.tup (mvs b)]) (bs:=[a,b]) (nb rfl) rfl rfl hg.1 (λhq=>hK _ _ _ _ _ _ dG rfl rfl hq) (two (ih a (.head _)) (ih b (.tail _ (.head _)))) (two hg.2.1 hg.2.2) (two (n2 na hM) (n2 nb' hM)) (n1 hM) (by rw [es,eQ,KQ];exact n1 hz) (nb rfl) λh' p e=>hq h' p ?_;rw [e,es];exact congrArg (λl=>J (MO.list (((wIf++[32]++t.txt)::l).map MV.str))) (Ks ..)
theorem He (rs:List Rw):∀r∈rs,RLs K r:=dc (P:=λrs=>∀r∈rs,RLs K r) (λrs ih r hr=>Hd hK (ih r hr)) rs
end
section
theorem ow:∀(x y:List (List Nat)),D.deqs (x.map .str) (y.map .str)=(x==y)
 | [],[]=>rfl
 | [],_::_=>rfl
 | _::_,[]=>rfl
 | a::x,b::y=>congrArg ((a==b)&&·) (ow x y)
theorem vn {hp:List MO}{x y:List (List Nat)}(hi:hp[i]?=J (.list (x.map .str)))(hj:hp[j]?=J (.list (y.map .str)))(hx:∀s∈x,okS s)(hy:∀s∈y,okS s)(hq:Q (x==y)):EqP hp (.ref i) (.ref j) Q:=by
 refine .mk (.list (x.map .str)) (.list (y.map .str)) (.list hi (iE x)) (.list hj (iE y)) ?_ (iC hx) (iC hy) ?_
 ·show D.deeps _+1<=1000;rw [jP];exact nb rfl
 ·show Q (D.deqs _ _);rw [ow];exact hq
theorem Tm.ws_ok:∀{t:Tm},t.ok Gn->∀w∈t.ws,okS w
 | .num k,h,w,hw=>by rw [iD.mp hw];exact (vm (t:=.num k) h rfl).2
 | .nm s,h,w,hw=>by rw [iD.mp hw];exact h.1.ok
 | .op c a b,h,w,hw=>by
  rcases IF.mp hw with rfl | hw
  ·exact (mR h.1).2
  ·exact (nO.mp hw).elim (a.ws_ok h.2.1 w) (b.ws_ok h.2.2 w)
theorem oy:∀w∈kws,32∉w:=by unfold kws;decide
structure Wds (W:List (List Nat)):Prop where
 ne:W≠[]
 free:∀w∈W,32∉w
 ok:∀w∈W,okS w
theorem Wds.tm {t:Tm}(ht:t.ok Gn):Wds t.ws:=⟨t.ws_ne,t.ws_free ht,t.ws_ok ht⟩
theorem Wds.cons (h1:32∉w)(h2:okS w)(h:Wds W):Wds (w::W):=
 ⟨KX _ _,λx hx=>(IF.mp hx).elim (λe=>e▸h1) (h.free x),λx hx=>(IF.mp hx).elim (λe=>e▸h2) (h.ok x)⟩
theorem Wds.kw {t:Tm}(h:wd∈kws)(ht:t.ok Gn):Wds (wd::t.ws):=.cons (oy wd h) (eI wd h) (.tm ht)
theorem dq (wd:List Nat)(t:Tm):wd++[32]++t.txt=d9 32 (wd::t.ws):=by
 rw [show wd::t.ws=[wd]++t.ws from rfl,kF 32 (KX _ _) t.ws_ne,t.txt_ws,Ks];rfl
theorem pN (s:List Nat)(t:Tm):cO++[32]++s++[32]++t.txt=d9 32 (cO::s::t.ws):=by
 show _=cO++32::d9 32 (s::t.ws);rw [<-dq,Ks,Ks,Ks];exact congrArg (λx=>cO++[32]++x) (Ks ..).symm
theorem vo:∀{W:List (List Nat)},(∀w∈W,okS w)->okS (d9 32 W)
 | [],_=>λc h=>aO h
 | [w],h=>h w (.head _)
 | w::x::W,h=>λc hc=>(nO.mp (show c∈w++32::d9 32 (x::W) from hc)).elim (h w (.head _) c) λhc=>(IF.mp hc).elim (λe=>by rw [e];decide) (vo (λy hy=>h y (.tail _ hy)) c)
theorem Wds.line (h:Wds W)(e:l=d9 32 W):okS l:=e▸vo h.ok
theorem Wds.set {t:Tm}(hs:Gn s)(ht:t.ok Gn):Wds (cO::s::t.ws):=.cons (oy _ (by decide)) (eI _ (by decide)) (.cons hs.1.no32 hs.1.ok (.tm ht))
theorem kH {pre:List (List Nat)}{t:Tm}{hp:List MO}:(hp++[MO.list (aQ ((pre++t.ws).map MV.str) (J (pre.length:Int)) bY)])[hp.length]?=J (.list (t.ws.map .str)):=by
 rw [bN (KZ _),ac,show ((pre.length:Nat):Int).toNat=(pre.map MV.str).length by rw [iF];rfl,KB,MW]
theorem d8 {wd:List Nat}{T:List (List Nat)}{wr:Nat}{hp:List MO}{f:MV->Prop}(hw:hp[wr]?=J (.list ((wd::T).map .str)))(h:f (.str wd)):jG hp[wr]? λxs=>eJ xs 0 f:=ae hw (aw (fk rfl (Mq _)) rfl h)
variable (hK:aD PP K)
include hK
theorem kI {ls rest:List (List Nat)}{l0:List Nat}{W:List (List Nat)}{h:List MO}(hr:h[rr]?=J (.list (ls.map .str)))(he:ls.drop at_=l0::rest)(hd:deep<=8)(hW:Wds W)(hl:l0=d9 32 W)(hz:l0.length<=1000)
  (hq:∀hp wr,h<+:hp->hp[wr]?=J (.list (W.map .str))->bt (W==[jC]) (Q (.tup [.tup [.str jC],.int (at_+1)]) hp) (aA K M (cH.body.drop 3) (fin Q) (xin X) ⟨[J (.ref rr),J (.int at_),J (.int deep),J (.ref wr),bY,bY,bY,bY,bY,bY],hp⟩)) :
  K (M+1) 34 [.ref rr,.int at_,.int deep] Q X h:=by
 have A:=sv he;refine hK _ _ _ _ _ _ cH rfl rfl ?_;refine bx (decide_eq_false (MX.mpr hd)) ?_;refine ae hr (aw A.p A.e ?_);refine ⟨rfl,32,rfl,Kn hz (nb rfl),λws h1 h2 h3=>?_⟩;obtain rfl:ws=W:=Ac 32 h1 hW.ne h2 hW.free (h3.trans hl);refine vn (y:=[jC]) (ai (ac _ _)) (ac _ _) hW.ok (λs hs=>eI s (by rw [iD.mp hs];decide)) ?_;exact hq _ h.length (aa (aa (aj h))) (ai (ac _ _))
noncomputable def RF (K:KT)(r:Rw):Prop:=∀{rr at_ N:Nat}{deep:Int}{ls rest:List (List Nat)}{Q:MV->List MO->Prop}{X:XT}{h:List MO},r.good->h[rr]?=J (.list (ls.map .str))->ls.drop at_=r.lines++rest->deep+r.nest<=8->2 * r.nest+11<=N->ls.length<=100000->
 (∀h',h<+:h'->Q (.tup [r.mv,.int (at_+r.lines.length:Nat)]) h')->K N 34 [.ref rr,.int at_,.int deep] Q X h
noncomputable def BF (K:KT)(rs:List Rw):Prop:=∀{rr at_ N:Nat}{deep:Int}{ls rest:List (List Nat)}{Q:MV->List MO->Prop}{X:XT}{h:List MO},b0 rs->h[rr]?=J (.list (ls.map .str))->ls.drop at_=lns rs++rest->(rest=[]\/∃l tl,rest=l::tl/\(l=cu\/l=b8))->
 deep+ak rs<=8->2 * ak rs+12<=N->ls.length<=100000->(∀h',h<+:h'->Q (.tup [.tup (mvs rs),.int (at_+(lns rs).length:Nat)]) h')->K N 35 [.ref rr,.int at_,.int deep] Q X h
section
variable {rr at_ M wr:Nat}{deep:Int}{ls rest:List (List Nat)}{t:Tm}{h hp:List MO}
theorem Dr (hw:hp[wr]?=J (.list ((dJ::t.ws).map .str)))(ht:t.good)(hM:8<=M)(hq:∀h',hp<+:h'->Q (.tup [.tup [.str dJ,t.mv],.int (at_+1)]) h'):aA K M (cH.body.drop 3) (fin Q) (xin X) ⟨[J (.ref rr),J (.int at_),J (.int deep),J (.ref wr),bY,bY,bY,bY,bY,bY],hp⟩:=by
 refine d8 hw ?_;refine d8 hw ?_;refine ae hw ?_;exact kG hK (kH (pre:=[dJ])) ht hM (hq _ (aa (aj _)))
theorem Hf {s:List Nat}(hw:hp[wr]?=J (.list ((cO::s::t.ws).map .str)))(hs:Gn s)(ht:t.good)(hM:8<=M)(hq:∀h',hp<+:h'->Q (.tup [.tup [.str cO,.str s,t.mv],.int (at_+1)]) h'):aA K M (cH.body.drop 3) (fin Q) (xin X) ⟨[J (.ref rr),J (.int at_),J (.int deep),J (.ref wr),bY,bY,bY,bY,bY,bY],hp⟩:=by
 obtain ⟨M,rfl⟩:∃M',M=M'+1:=⟨M-1,sb (dO (nb rfl) hM)⟩
 have lz:1<((cO::s::t.ws).map MV.str).length:=ON (Mq _);refine d8 hw ?_;refine av hw ?_;refine jl (decide_eq_true (LN.mpr lz)) ?_;refine ae hw (aw (k:=1) (j:=1) (fk rfl lz) rfl ?_);refine iG hK hs ?_;refine ae hw (aw (k:=1) (j:=1) (fk rfl lz) rfl ?_);refine ae hw ?_;exact kG hK (kH (pre:=[cO,s])) ht hM (hq _ (aa (aj _)))
variable (hr:hp[rr]?=J (.list (ls.map .str))) (hz:ls.length<=100000)
include hr hz
theorem Jg {a:List Rw}(ia:BF K a)(hw:hp[wr]?=J (.list ((bv::t.ws).map .str)))(ht:t.good)(ga:b0 a)(e2:ls.drop (at_+1)=lns a++b8::rest)(e3:ls.drop (at_+1+(lns a).length)=b8::rest)(hd:deep+1+ak a<=8)(hM:2 * ak a+12<=M)
  (hq:∀h',hp<+:h'->Q (.tup [.tup [.str bv,t.mv,.tup (mvs a)],.int ((at_+1+(lns a).length:Nat)+1)]) h'):aA K M (cH.body.drop 3) (fin Q) (xin X) ⟨[J (.ref rr),J (.int at_),J (.int deep),J (.ref wr),bY,bY,bY,bY,bY,bY],hp⟩:=by
 obtain ⟨M,rfl⟩:∃M',M=M'+1:=⟨M-1,sb (n1 hM)⟩
 refine d8 hw ?_;refine d8 hw ?_;refine d8 hw ?_;refine ae hw ?_;refine kG hK (kH (pre:=[bv])) ht (n1 hM) ?_;have p1:=aa (o:=.list (aQ ((bv::t.ws).map MV.str) (J 1) bY)) (aj hp);refine ia (at_:=at_+1) ga (af p1 hr) e2 (.inr ⟨_,_,rfl,.inr rfl⟩) hd hM hz λhp2 p2=>?_;refine ⟨rfl,?_⟩;refine uc hK (af (p1.trans p2) hr) e3 ?_;exact hq hp2 (p1.trans p2)
theorem Hg {a b:List Rw}(ia:BF K a)(ib:BF K b)(hw:hp[wr]?=J (.list ((wIf::t.ws).map .str)))(ht:t.good)(ga:b0 a)(gb:b0 b)(e2:ls.drop (at_+1)=lns a++cu::(lns b++b8::rest))(e3:ls.drop (at_+1+(lns a).length)=cu::(lns b++b8::rest))
  (e5:ls.drop (at_+1+(lns a).length+1)=lns b++b8::rest) (e6:ls.drop (at_+1+(lns a).length+1+(lns b).length)=b8::rest) (da:deep+1+ak a<=8) (db:deep+1+ak b<=8) (hMa:2 * ak a+12<=M) (hMb:2 * ak b+12<=M)
  (hq:∀h',hp<+:h'->Q (.tup [.tup [.str wIf,t.mv,.tup (mvs a),.tup (mvs b)],.int ((at_+1+(lns a).length+1+(lns b).length:Nat)+1)]) h'):aA K M (cH.body.drop 3) (fin Q) (xin X) ⟨[J (.ref rr),J (.int at_),J (.int deep),J (.ref wr),bY,bY,bY,bY,bY,bY],hp⟩:=by
 obtain ⟨M,rfl⟩:∃M',M=M'+1:=⟨M-1,sb (n1 hMa)⟩
 refine d8 hw ?_;refine d8 hw ?_;refine d8 hw ?_;refine d8 hw ?_;refine ae hw ?_;refine kG hK (kH (pre:=[wIf])) ht (n1 hMa) ?_;have p1:=aa (o:=.list (aQ ((wIf::t.ws).map MV.str) (J 1) bY)) (aj hp);refine ia (at_:=at_+1) ga (af p1 hr) e2 (.inr ⟨_,_,rfl,.inl rfl⟩) da hMa hz λhp2 p2=>?_;have p2:hp<+:hp2:=p1.trans p2;refine ⟨rfl,?_⟩;refine uc hK (af p2 hr) e3 ?_;refine ib (at_:=at_+1+(lns a).length+1) gb (af p2 hr) e5 (.inr ⟨_,_,rfl,.inr rfl⟩) db hMb hz λhp3 p3=>?_;refine ⟨rfl,?_⟩;refine uc hK (af (p2.trans p3) hr) e6 ?_;exact hq hp3 (p2.trans p3)
end
theorem Hh {r:Rw}(ih:∀b∈r.subs,BF K b):RF K r:=by
 intro rr at_ N deep ls rest Q X h hg hr he hd hN hz hq;obtain ⟨M,rfl⟩:∃M,N=M+1:=⟨N-1,sb (dO (dO (nb rfl) (L9 11 _)) hN)⟩
 have h8:deep<=8:=Mp (M7 (KZ _)) hd;have hM:10<=M:=NR (dO (L9 11 _) hN)
 cases r with
 | skip=>exact kI hK (W:=[jC]) hr he h8 ⟨KX _ _,λw hw=>oy w (by rw [iD.mp hw];decide),λw hw=>eI w (by rw [iD.mp hw];decide)⟩ rfl (by decide) λhp wr p _=>hq hp p
 | tell t=>
  have hg:t.good:=hg;exact kI hK hr he h8 (.kw (by decide) hg.1) (dq dJ t) (dO (la (la (x:=dJ) (oF _) l1) hg.len) (nb rfl)) λhp wr p hw=>Dr hK hw hg (dO (nb rfl) hM) λh' p'=>hq h' (p.trans p')
 | set s t=>
  exact kI hK hr he h8 (.set hg.1 hg.2.1) (pN s t) (dO (la (la (la (la (x:=cO) (oF _) l1) hg.1.1.2.1) l1) hg.2.len) (nb rfl)) λhp wr p hw=>Hf hK hw hg.1 hg.2 (dO (nb rfl) hM) λh' p'=>hq h' (p.trans p')
 | wh t a=>
  have he:ls.drop at_=(bv++[32]++t.txt)::(lns a++(b8::rest)):=he.trans (congrArg (L7 _) (Ks ..));have e2:=(su he).2.2;have e4:at_+(Rw.wh t a).lines.length=at_+1+(lns a).length+1:=by
   show at_+((lns a++[b8]).length+1)=_;rw [eQ];exact by simp +arith only [Kx]
  rw [e4] at hq;have hN:2 * (ak a+1)+11<=M+1:=hN;refine kI hK hr he h8 (.kw (by decide) hg.1.1) (dq bv t) (dO (la (la (x:=bv) (oF _) l1) hg.1.len) (nb rfl)) λhp wr p hw=>?_;exact Jg hK (af p hr) hz (ih a (.head _)) hw hg.1 hg.2 e2 (by rw [<-NS,e2,MW]) (by rw [N3,Pr 1];exact hd) (n1 hN) λh' p'=>hq h' (p.trans p')
 | ite t a b=>
  have he:ls.drop at_=(wIf++[32]++t.txt)::(lns a++(cu::(lns b++b8::rest))):=he.trans (congrArg (L7 _) ((Ks ..).trans (congrArg (lns a++·) (congrArg (L7 cu) (Ks ..)))));have e2:=(su he).2.2;have e3:ls.drop (at_+1+(lns a).length)=cu::(lns b++b8::rest):=by rw [<-NS,e2,MW]
  have e5:=(su e3).2.2;have e4:at_+(Rw.ite t a b).lines.length=at_+1+(lns a).length+1+(lns b).length+1:=by
   show at_+((lns a++cu::(lns b++[b8])).length+1)=_;rw [eQ,KQ,eQ];exact by simp +arith only [Kx]
  rw [e4] at hq;have hN:2 * (max (ak a) (ak b)+1)+11<=M+1:=hN;obtain ⟨da,db⟩:=dl hd;refine kI hK hr he h8 (.kw (by decide) hg.1.1) (dq wIf t) (dO (la (la (x:=wIf) (oF _) l1) hg.1.len) (nb rfl)) λhp wr p hw=>?_;exact Hg hK (af p hr) hz (ih a (.head _)) (ih b (.tail _ (.head _))) hw hg.1 hg.2.1 hg.2.2 e2 e3 e5 (by rw [<-NS,e5,MW]) da db (n2 (KP 2 (KF (ak a) (ak b))) hN) (n2 (KP 2 (KI (ak a) (ak b))) hN) λh' p'=>hq h' (p.trans p')
omit hK in
theorem ue (r:Rw):∃l tl,r.lines=l::tl/\(l==cu)=Z/\(l==b8)=Z:=by
 have key:∀{wd:List Nat} {x:List Nat},(wd++[32]++x==cu)=Z/\(wd++[32]++x==b8)=Z:=λ{wd x}=>by
  have h32:∀w,32∉w->(wd++[32]++x==w)=Z:=λw hw=>beq_eq_false_iff_ne.mpr λe=>hw (e▸tO _ (AT _ (iD.mpr rfl)));exact ⟨h32 _ (by decide),h32 _ (by decide)⟩
 cases r with
 | skip=>exact ⟨_,_,rfl,rfl,rfl⟩
 | _=>exact ⟨_,_,rfl,key⟩
omit hK in
theorem xJ {rs:List Rw}{ls rest:List (List Nat)}(he:ls.drop at_=lns rs++rest)(j:Nat):ls.drop (at_+(lns (rs.take j)).length)=lns (rs.drop j)++rest:=by
 have e:=cv (rs.take j) (rs.drop j);rw [K0] at e;rw [<-NS,he,e,Ks,MW]
theorem Jh {rs:List Rw}(ih:∀r∈rs,RF K r):BF K rs:=by
 intro rr at_ N deep ls rest Q X h hg hr he hrest hd hN hz hq;refine kc hK jx (k:=2 * ak rs+11) hN rfl rfl λM hM=>?_;refine ⟨rs.length+1,qq (λw:Nat × Option MV × List MO=>⟨[J (.ref rr),J (.int (at_+(lns (rs.take w.1)).length:Nat)),J (.int deep),J (.ref h.length),w.2.1],w.2.2⟩) (λk w=>A4 (k+w.1=rs.length+1) (w.1<=rs.length) (h<+:w.2.2) (w.2.2[h.length]?=J (.list (mvs (rs.take w.1)))))
  (λw hI=>?_) (λk w W hI hW=>?_) _ (0,bY,_) rfl ⟨rfl,Ko _,aa (aj _),ac _ _⟩⟩
 ·have:=hI.h1;have:=hI.h2;exact nf (n2 (Km hI.h1.symm) hI.h2)
 obtain ⟨j,w,hp⟩:=w;obtain ⟨hk,hj,hpre,hat⟩:=hI;dsimp only at hk hj hpre hat;have hr':=af hpre hr;have he':=xJ he j;refine (LO j rs.length).elim (λlt=>?_) λge=>?_
 ·have er:=bn lt;generalize rs[j]=r at er;have hmem:=rW er;have nr:=dw (oF (ak rs)) r hmem;have ed:rs.drop j=r::rs.drop (j+1):=by rw [Le lt,(By ((bn lt).symm.trans er))]
  rw [ed] at he';have he2:ls.drop (at_+(lns (rs.take j)).length)=r.lines++(lns (rs.drop (j+1))++rest):=he'.trans (Ks ..);obtain ⟨l,tl,hl,l1,l2⟩:=ue r;have A:=sv (show ls.drop (at_+(lns (rs.take j)).length)=l::(tl++(lns (rs.drop (j+1))++rest)) by rw [he2,hl];rfl);refine av hr' ?_;refine jl (decide_eq_true (NY.mp A.lt)) ?_;refine ae hr' (aw A.p A.e ?_);refine jl (pg l1) ?_;refine ae hr' (aw A.p A.e ?_);refine jl (pg l2) ?_;refine ih r hmem (eZ hg r hmem) hr' he2 (Mp (Int.add_le_add_left (Ly.mpr nr) _) hd) (n2 (KP 2 nr) hM) hz λhp' hpre'=>?_;refine ⟨rfl,?_⟩;have hat':=af hpre' hat;refine az (aH hat') (aV (aU hat') ?_);have lz:rs.length<=100000:=by
   refine dO (ky rs) (dO ?_ hz);have:=congrArg Nh he;rw [Lf,eQ] at this;exact dO (K5 _ _) (dO (Km this.symm) (Nb _ _))
  refine ⟨by rw [cj];exact Kn (List.length_take_le ..) (KG lt (aR (dO lz (nb rfl)))),?_⟩;have e4:at_+(lns (rs.take (j+1))).length=at_+(lns (rs.take j)).length+r.lines.length:=by rw [aq er,cv,d7,eQ,N2]
  have:=hW (j+1,J r.mv,hp'.set h.length (.list (mvs (rs.take j)++[r.mv]))) ⟨by show k+(j+1)=_;rw [<-hk];simp +arith only,lt,aF (hpre.trans hpre') (oF _),by dsimp only;rw [aq er,fQ];exact get_set hat'⟩;dsimp only at this;rw [e4] at this;exact this
 ·obtain rfl:j=rs.length:=NA hj ge;rw [List.drop_length] at he';have hfin:aA K M [.ret (.tup [.blt .tuple [.var 3],.var 1])] (fin Q) (xin X) ⟨[J (.ref rr),J (.int (at_+(lns (rs.take rs.length)).length:Nat)),J (.int deep),J (.ref h.length),w],hp⟩:=by
   refine ae hat ?_;rw [KD];exact hq hp hpre
  refine av hr' ?_
  rcases hrest with rfl | ⟨l,tl,rfl,hl⟩
  ·have:ls.length<=at_+(lns (rs.take rs.length)).length:=N8.mp he';exact bx (decide_eq_false (MX.mpr (Ly.mpr (by rw [iF];exact this)))) hfin
  ·have A:=sv (show ls.drop (at_+(lns (rs.take rs.length)).length)=l::tl from he');refine jl (decide_eq_true (NY.mp A.lt)) ?_;refine ae hr' (aw A.p A.e ?_)
   rcases hl with rfl | rfl
   ·exact hfin
   ·exact ae hr' (aw A.p A.e hfin)
theorem Hj (rs:List Rw):BF K rs:=dc (P:=λrs=>BF K rs) (λrs ih=>Jh hK λr hr=>Hh hK (ih r hr)) rs
theorem Hk (hg:b0 rs)(hr:h[rr]?=J (.list ((lns rs).map .str)))(hd:ak rs<=7)(hN:40<=N)(hz:(lns rs).length<=100000)(hq:∀h',h<+:h'->Q (.tup (mvs rs)) h'):K N 36 [.ref rr] Q X h:=by
 refine kc hK ve (k:=39) hN rfl rfl λM hM=>?_;refine Hj hK rs (at_:=0) (rest:=[]) hg hr (by rw [Kr];rfl) (.inl rfl) (by have:(ak rs:Int)<=7:=Ly.mpr hd;exact z1 this) (n2 (KP 2 hd) hM) hz λh' hpre=>?_;refine ⟨rfl,?_⟩;refine av (af hpre hr) ?_;exact bx (ng (beq_iff_eq.mpr (by rw [iF,L5]))) (hq h' hpre)
end
section
noncomputable def LL (K:KT)(rs:List Rw):Prop:=∀{N:Nat}{Q:MV->List MO->Prop}{X:XT}{h:List MO}{u:MV}{g:Gd},(∀hp,h<+:hp->dz .val [u] hp=J (mvs rs,g)/\aS g hp)->b0 rs->(lns rs).length<=100000->ak rs+6<=N->
 (∀h' i,h<+:h'->h.length<=i->h'[i]?=J (.list ((lns rs).map .str))->Q (.ref i) h')->K N 43 [u] Q X h
noncomputable abbrev oz:List MSt:=EC (gR.body.drop 1)
theorem gz {hp:List MO}{x y:List (List Nat)}(hi:hp[i]?=J (.list (x.map .str)))(hj:hp[j]?=J (.list (y.map .str)))(hz:x.length+y.length<=100000)(h:Q (.ref hp.length) ⟨vs,hp++[.list ((x++y).map .str)]⟩):uO (.ref i) (.ref j) Q ⟨vs,hp⟩:=by
 refine ae hi (ae hj ⟨bG hz,?_⟩);rw [KB] at h;exact h
theorem ln2 (L:List α)(l:α)(A B:List α):L++l::(A++B)=L++[l]++A++B:=by rw [Ks,Ks];rfl
variable (hK:aD PP K)
include hK
section
variable {M i:Nat}{L:List (List Nat)}{h hp:List MO}(hi:hp[i]?=J (.list (L.map .str))) (hz:L.length<=100000)
include hi hz
theorem qB {wd:List Nat}{t:Tm}(hM:5<=M)(hw:wd.length<=5)(ht:t.good)(h2:(wd==cO)=Z)(h3:(wd==jC)=Z)(hq:aA K M (oz.drop 1) P X ⟨[J b,J (.ref i),J (.tup (.str wd::t.mv::more))],hp.set i (.list ((L++[wd++[32]++t.txt]).map .str))⟩):aA K M oz P X ⟨[J b,J (.ref i),J (.tup (.str wd::t.mv::more))],hp⟩:=by
 have p0:g9 0 (MV.str wd::t.mv::more).length=J 0:=fk rfl (Mq _);refine aw p0 rfl (bx h2 ?_);refine aw p0 rfl (bx h3 ?_);refine az (aH hi) ?_;refine aw p0 rfl ?_;refine ⟨lp hw l1 rfl,?_⟩;refine aw (k:=1) (j:=1) (fk rfl (ON (Mq _))) rfl ?_;refine mT hK t ht (Kn ht.2 (OD hM)) ?_;refine ⟨lp (la hw l1) ht.len rfl,?_⟩;refine aV (aU hi) ⟨by rw [iF];exact Kn hz (by unfold line;decide),?_⟩;rw [KB] at hq;exact hq
theorem Ak {r:Rw}(hg:r.good)(hM:5<=M)
  (hq:∀l,(∃tl,r.lines=l::tl)->aA K M (oz.drop 1) P X ⟨[J b,J (.ref i),J r.mv],hp.set i (.list ((L++[l]).map .str))⟩):aA K M oz P X ⟨[J b,J (.ref i),J r.mv],hp⟩:=by
 cases r with
 | skip=>exact ud hi (dO hz (nb rfl)) (hq _ ⟨_,rfl⟩)
 | set s t=>
  have l4:[115,101,116,32].length<=4:=oF _;refine az (aH hi) ?_;refine ⟨lp l4 hg.1.1.2.1 rfl,?_⟩;refine ⟨lp (la l4 hg.1.1.2.1) l1 rfl,?_⟩;refine mT hK t hg.2 (Kn hg.2.2 (OD hM)) ?_;refine ⟨lp (la (la l4 hg.1.1.2.1) l1) hg.2.len rfl,?_⟩;refine aV (aU hi) ⟨by rw [iF];exact Kn hz (by unfold line;decide),?_⟩;have:=hq _ ⟨[],rfl⟩;rw [KB] at this;exact this
 | tell t=>exact qB hK hi hz (more:=[]) hM (by decide) hg rfl rfl (hq _ ⟨_,rfl⟩)
 | ite t x y=>exact qB hK hi hz (more:=[.tup (mvs x),.tup (mvs y)]) hM (by decide) hg.1 rfl rfl (hq _ ⟨_,rfl⟩)
 | wh t x=>exact qB hK hi hz (more:=[.tup (mvs x)]) hM (by decide) hg.1 rfl rfl (hq _ ⟨_,rfl⟩)
end
theorem Hl {r:Rw}(ih:∀b∈r.subs,LL K b){L:List (List Nat)}{h hp:List MO}(hg:r.good)(hM:r.nest+5<=M)(hpre:h<+:hp)(h1:h.length<=i)(hi:hp[i]?=J (.list (L.map .str)))(hz:L.length+r.lines.length<=100000)
  (hq:∀hp' i',h<+:hp'->h.length<=i'->hp'[i']?=J (.list ((L++r.lines).map .str))->P .next ⟨[J b,J (.ref i'),J r.mv],hp'⟩):aA K M oz P (xin X) ⟨[J b,J (.ref i),J r.mv],hp⟩:=by
 refine Ak hK hi (dO (K5 _ _) hz) hg (dO (L9 _ _) hM) λl hl=>?_;obtain ⟨tl,hl⟩:=hl;have hpre1:=aF (o:=.list ((L++[l]).map .str)) hpre h1;have hi1:=get_set (o':=MO.list ((L++[l]).map .str)) hi;generalize hp.set i (.list ((L++[l]).map .str))=hp1 at hpre1 hi1
 cases r with
 | skip=>cases hl;exact hq hp1 i hpre1 h1 hi1
 | set s t=>cases hl;exact hq hp1 i hpre1 h1 hi1
 | tell t=>cases hl;exact hq hp1 i hpre1 h1 hi1
 | wh t a=>
  have hl:(bv++[32]++t.txt)::(lns a++[b8])=l::tl:=hl
  cases hl
  have hz:L.length+((lns a++[b8]).length+1)<=100000:=hz;rw [eQ] at hz;have hM:ak a+1+5<=M:=hM;refine ih a (.head _) (u:=.tup (mvs a)) (λ_ _=>⟨rfl,trivial⟩) hg.2 (n1 hz) (n1 hM) λhp2 j p2 _ hj=>?_;have p2:hp1<+:hp2:=p2;refine gz (af p2 hi1) hj (by rw [eQ];exact n1 hz (by simp +arith only [Kx])) ?_;refine gz (y:=[b8]) (ai (ac _ _)) (ac _ _) (by rw [eQ,eQ];exact n1 hz (by simp +arith only [Kx])) ?_;have p3:=aa (o:=.list [.str b8]) (aa (o:=.list ((L++[bv++[32]++t.txt]++lns a).map .str)) (hpre1.trans p2));refine hq _ _ (aa p3) p3.length_le ?_;rw [show L++(Rw.wh t a).lines=L++[bv++[32]++t.txt]++lns a++[b8] from ln2 ..];exact ac _ _
 | ite t a c=>
  have hl:(wIf++[32]++t.txt)::(lns a++cu::(lns c++[b8]))=l::tl:=hl
  cases hl
  have hz:L.length+((lns a++cu::(lns c++[b8])).length+1)<=100000:=hz;rw [eQ,KQ,eQ] at hz;have hM:max (ak a) (ak c)+1+5<=M:=hM;have ma:=KF (ak a) (ak c);have mc:=KI (ak a) (ak c);refine ih a (.head _) (u:=.tup (mvs a)) (λ_ _=>⟨rfl,trivial⟩) hg.2.1 (n1 hz) (n2 ma hM) λhp2 j p2 _ hj=>?_;have p2:hp1<+:hp2:=p2;refine gz (af p2 hi1) hj (by rw [eQ];exact n1 hz (by simp +arith only [Kx])) ?_;refine gz (y:=[cu]) (ai (ac _ _)) (ac _ _) (by rw [eQ,eQ];exact n1 hz (by simp +arith only [Kx])) ?_;refine ih c (.tail _ (.head _)) (u:=.tup (mvs c)) (λ_ _=>⟨rfl,trivial⟩) hg.2.2 (n1 hz) (n2 mc hM) λhp3 j3 p3 _ hj3=>?_;refine gz (af p3 (ac _ _)) hj3 (by rw [eQ,eQ,eQ];exact n1 hz (by simp +arith only [Kx])) ?_;refine gz (y:=[b8]) (ai (ac _ _)) (ac _ _) (by rw [eQ,eQ,eQ,eQ];exact n1 hz (by simp +arith only [Kx])) ?_;have p4:=aa (o:=.list [.str b8]) (aa (o:=.list ((L++[wIf++[32]++t.txt]++lns a++[cu]++lns c).map .str)) ((aa (aa (aa (hpre1.trans p2)))).trans p3));refine hq _ _ (aa p4) p4.length_le ?_;rw [show L++(Rw.ite t a c).lines=L++[wIf++[32]++t.txt]++lns a++[cu]++lns c++[b8] from (ln2 ..).trans (ln2 ..)];exact ac _ _
theorem Hm (rs:List Rw):LL K rs:=dc (P:=λrs=>LL K rs) (λrs ih=>by
 intro N Q X h u g hu hg hz hN hq;refine kc hK gR (k:=ak rs+5) hN rfl rfl λM hM=>?_;refine aI (hu _ (aa (aj _))).1 ?_;refine gV (λj w i hp=>⟨[J u,J (.ref i),w],hp⟩) (λj w i hp=>A3 (h<+:hp) (h.length<=i) (hp[i]?=J (.list ((lns (rs.take j)).map .str)))) bY h.length _ rfl ⟨aa (aj _),oF _,ac _ _⟩ (λ_ _ _ _ hI=>(hu _ hI.h1).2) (λj x w i hp P hx hI hn _=>?_) (λw i hp hI=>?_)
 ·obtain ⟨r,hr,rfl⟩:=mQ hx;have hmem:=rW hr;have hle:(lns (rs.take (j+1))).length<=100000:=dO (mq rs _) hz;rw [aq hr,cv,d7,eQ] at hle;refine Hl hK (ih r hmem) (eZ hg r hmem) (dO (Lq (dw (oF (ak rs)) r hmem) 5) hM) hI.h1 hI.h2 hI.h3 hle λhp' i' h1 h2 h3=>?_;exact hn _ _ _ ⟨h1,h2,by rw [aq hr,cv,d7];exact h3⟩
 ·have:=hI.h3;rw [cj,KD] at this;exact hq hp i hI.h1 hI.h2 this) rs
end
section
noncomputable def Tm.gp (p:List Nat->Prop)(t:Tm):Prop:=t.ok p/\t.deep<=3
mutual
noncomputable def Rw.gp (p:List Nat->Prop):Rw->Prop
 | .set s t=>p s/\t.gp p
 | .tell t=>t.gp p
 | .skip=>True
 | .ite t a b=>t.gp p/\gps p a/\gps p b
 | .wh t a=>t.gp p/\gps p a
noncomputable def gps (p:List Nat->Prop):List Rw->Prop
 | []=>True
 | r::rs=>r.gp p/\gps p rs
end
theorem ji:∀{a b:List Rw},gps p a->gps p b->gps p (a++b)
 | [],_,_,h=>h
 | r::a,b,h1,h2=>⟨h1.1,ji h1.2 h2⟩
mutual
theorem Ds (h:∀s,p s->q s):∀{r:Rw},r.gp p->r.gp q
 | .set s t,x=>⟨h s x.1,x.2.1.mono h,x.2.2⟩
 | .tell t,x=>⟨x.1.mono h,x.2⟩
 | .skip,x=>x
 | .ite t a b,x=>⟨⟨x.1.1.mono h,x.1.2⟩,iJ h x.2.1,iJ h x.2.2⟩
 | .wh t a,x=>⟨⟨x.1.1.mono h,x.1.2⟩,iJ h x.2⟩
theorem iJ (h:∀s,p s->q s):∀{rs:List Rw},gps p rs->gps q rs
 | [],x=>x
 | r::rs,x=>⟨Ds h x.1,iJ h x.2⟩
end
mutual
theorem Dt:∀{r:Rw},r.gp Gn->r.good
 | .set s t,x=>x
 | .tell t,x=>x
 | .skip,x=>x
 | .ite t a b,x=>⟨x.1,iK x.2.1,iK x.2.2⟩
 | .wh t a,x=>⟨x.1,iK x.2⟩
theorem iK:∀{rs:List Rw},gps Gn rs->b0 rs
 | [],x=>x
 | r::rs,x=>⟨Dt x.1,iK x.2⟩
end
noncomputable def PB (K:KT)(n:Nat)(X:XM)(m:MS)(e:ME):Prop:=∀Q:PQ,(∀b,Q (.bool b) m)->wpE K n e Q X m
theorem uf:∀{es:List ME},es≠[]->(∀e∈es,PB K n X m e)->PB K n X m (.and es)
 | [],h,_=>absurd rfl h
 | [e],_,h=>λQ hq=>h e (.head _) Q hq
 | e::e'::es,_,h=>λQ hq=>by
  have ih:=uf (es:=e'::es) (KX _ _) λx hx=>h x (.tail _ hx);refine h e (.head _) _ λb=>?_;refine dP (λ_=>?_) λ_=>?_
  ·exact ih Q hq
  ·exact hq Z
theorem EE:∀{es:List ME},es≠[]->(∀e∈es,PB K n X m e)->PB K n X m (.or es)
 | [],h,_=>absurd rfl h
 | [e],_,h=>λQ hq=>h e (.head _) Q hq
 | e::e'::es,_,h=>λQ hq=>by
  have ih:=EE (es:=e'::es) (KX _ _) λx hx=>h x (.tail _ hx);refine h e (.head _) _ λb=>?_;refine dP (λ_=>?_) λ_=>?_
  ·exact hq aT
  ·exact ih Q hq
theorem iL (ha:PB K n X m a)(hb:PB K n X m b):PB K n X m (.and [a,b])/\PB K n X m (.or [a,b]):=by
 have h:∀e∈[a,b],PB K n X m e:=λe he=>by
  rcases IF.mp he with rfl | he
  ·exact ha
  ·rw [iD.mp he];exact hb
 exact ⟨uf (KX _ _) h,EE (KX _ _) h⟩
theorem Am (ha:PB K n X m a)(hb:PB K n X m b)(hc:PB K n X m c):PB K n X m (.and [a,b,c]):=uf (KX _ _) λe he=>by
  rcases IF.mp he with rfl | he
  ·exact ha
  ·rcases IF.mp he with rfl | he
   ·exact hb
   ·rw [iD.mp he];exact hc
theorem An (ha:PB K n X m a):PB K n X m (.not a):=λQ hq=>ha _ λb=>hq _
theorem fw (hc:PB K n X m c)(ha:aA K n a Q X m)(hb:aA K n b Q X m):wpS K n (.ite c a b) Q X m:=
 hc _ λt=>by
  refine dP (λ_=>?_) λ_=>?_
  ·exact ha
  ·exact hb
theorem qC (hv:m.get i=J (.int x))(ha:0<a/\a<2 ^ 30)(hb:0<b)(op:Cmp)(hop:op=.eq\/op=.gt):PB K n X m (.cmp op (.bin .mod (.bin .fdiv (.var i) (.cst (.int a))) (.cst (.int b))) (.cst (.int c))):=λQ hq=>by
 show wpE K n (.var i) _ X m;refine eR hv ?_;refine az (decide_eq_true ha) ?_;refine az (decide_eq_true hb) ?_
 rcases hop with rfl | rfl
 ·exact hq _
 ·exact hq _
theorem dM (hv:m.get i=J (.int x))(op:Cmp)(hop:op=.eq\/op=.gt\/op=.lt):PB K n X m (.cmp op (.var i) (.cst (.int c))):=λQ hq=>by
 show wpE K n (.var i) _ X m;refine eR hv ?_
 rcases hop with rfl | rfl | rfl
 ·exact hq _
 ·exact hq _
 ·exact hq _
theorem lD (hv:m.get i=J (.bool x)):PB K n X m (.var i):=λQ hq=>by
 exact eR hv (hq _)
variable (hK:aD PP K)
include hK
theorem Ao:∀(t:Tm) {N:Nat}{Q:MV->List MO->Prop}{X:XT}{h:List MO},t.good->t.deep<N->(∀(h':List MO) (i:Nat) (ss:List (List Nat)),h<+:h'->h'[i]?=J (.list (ss.map .str))->(∀s∈ss,okS s)->ss.length<=t.lv->Q (.ref i) h')->K N 37 [t.mv] Q X h
 | .num k,N,Q,X,h,ht,hN,hq=>by
  obtain ⟨M,rfl,hM⟩:=room hN;refine hK _ _ _ _ _ _ bk rfl rfl ?_;exact hq _ _ [] (aa (aj _)) (ac _ _) (λs hs=>by cases hs) (Ko _)
 | .nm s,N,Q,X,h,ht,hN,hq=>by
  obtain ⟨M,rfl,hM⟩:=room hN;refine hK _ _ _ _ _ _ bk rfl rfl ?_;exact hq _ _ [s] (aa (aj _)) (ac _ _) (λx hx=>by rw [iD.mp hx];exact ht.1.1.ok) (oF _)
 | .op c a b,N,Q,X,h,ht,hN,hq=>by
  refine e02 ht.sub λga gb=>?_;have la:=a.lv_le;have lb:=b.lv_le;have h3:2 ^ a.deep<=2 ^ 3:=Mj (by decide) ga.2;have h4:2 ^ b.deep<=2 ^ 3:=Mj (by decide) gb.2;have hN:max a.deep b.deep+1<N:=hN;obtain ⟨M,rfl,hM⟩:=room hN;refine hK _ _ _ _ _ _ bk rfl rfl ?_;refine bx (show ([c]==z4)=Z by simp) ?_;refine bx (show ([c]==rZ)=Z by simp) ?_;refine Ao a ga (n2 hN (KF a.deep b.deep)) λh1 i x p1 e1 o1 l1=>?_;refine Ao b gb (n2 hN (KI a.deep b.deep)) λh2 j y p2 e2 o2 l2=>?_
  conv=>whnf
  dsimp only;rw [af p2 e1,e2];refine ⟨bG (dO (KH (dO l1 (dO la h3)) (dO l2 (dO lb h4))) (nb rfl)),?_⟩;refine hq _ _ (x++y) (aa (p1.trans p2)) (bW _ _ _) (λs hs=>?_) ?_
  ·refine Lm (nO.mp hs) (λhs=>?_) λhs=>?_
   ·exact o1 s hs
   ·exact o2 s hs
  ·rw [eQ];exact KH l1 l2
noncomputable def oB (ss:List (List Nat))(hp:List MO)(i:Nat):Prop:=∃sl:List (List Nat),hp[i]?=J (.list (sl.map .str))/\∀s∈sl,s∈ss
omit hK in
theorem oB.up (h:oB ss hp i)(e:hp<+:hp'):oB ss hp' i:=let ⟨sl,h1,h2⟩:=h;⟨sl,af e h1,h2⟩
omit hK in
theorem qD (hp:List MO)(k:Nat):oB ss (hp++[.list ((ss.map MV.str).drop k)]) hp.length:=⟨ss.drop k,by rw [ac,N4],λs hs=>Ng hs⟩
omit hK in
theorem qE (hp:List MO)(k:Nat):oB ss (hp++[.list ((ss.map MV.str).take k)]) hp.length:=⟨ss.take k,by rw [ac,N5],λs hs=>LW hs⟩
theorem Du {ss:List (List Nat)}{h:List MO}(hr:h[r]?=J (.list (ss.map .str)))(hs:∀s∈ss,Gn s)(hN:8<=N)(hq:∀(h':List MO) (t:Tm) (b:Bool),h<+:h'->t.gp (·∈ss)->Q (.tup [t.mv,.bool b]) h') :
  K N 38 [.ref r,.int more,.bool dark,.int mode] Q X h:=by
 obtain ⟨M,rfl,hM⟩:=room (k:=7) (show 7<N by lia);have last:∀hp i4 i5,h<+:hp->oB ss hp i4->oB ss hp i5->aA K M (cq.body.drop 4) (fin Q) (xin X) ⟨[J (.ref r),J (.int more),J (.bool dark),J (.int mode),J (.ref i4),J (.ref i5),bY,bY],hp⟩:=by
  intro hp i4 i5 hpre h4 h5;refine e12 h4 λs4 e4 m4=>?_;refine e12 h5 λs5 e5 m5=>?_;have go:∀d:Bool,aA K M [.asg [6] Z (.call 11 [.var 1,.var 5,.var 4,.cst (.bool d),.bin .add (.cst (.int 1)) (.bin .mod (.bin .fdiv (.var 1) (.cst (.int 24))) (.cst (.int 4)))]),cq.body.getLast (by decide)] (fin Q) (xin X) ⟨[J (.ref r),J (.int more),J (.bool dark),J (.int mode),J (.ref i4),J (.ref i5),bY,bY],hp⟩:=by
   intro d;have hL:0<=more / 24 % 4/\more / 24 % 4<4:=em rfl;obtain ⟨M',rfl⟩:∃M',M=M'+(more / 24 % 4).toNat+2:=⟨M-(more / 24 % 4).toNat-2,by rw [N2,Nat.sub_sub,Oi (dO (Lq (LA (emN (n:=4) rfl)) 2) (dO (nb rfl) hM))]⟩
   refine xC hK (more / 24 % 4).toNat (by rw [Nn hL.1,Pr]) e5 e4 (λs h=>(hs s (m5 s h)).1.ok) (λs h=>(hs s (m4 s h)).1.ok) λt h1 ht hd hpre1=>?_;have hg':t.gp (·∈ss):=⟨ht.mono λs h=>h.elim (m5 s) (m4 s),dO hd (LK (emN (n:=4) rfl))⟩
   have hg:t.good:=⟨ht.mono λs h=>h.elim (λh=>hs s (m5 s h)) λh=>hs s (m4 s h),dO hd (LK (emN (n:=4) rfl))⟩
   have hpre1:hp<+:h1:=hpre1;refine Ao hK t hg (by have:=hg.2;exact n1 hd) λh2 i x p2 e2 o2 l2=>?_;have p2:h1<+:h2:=p2;refine aI (aG e2) ?_;have hpre2:=(hpre.trans hpre1).trans p2;refine vh (λw:Option MV × List MO=>⟨[J (.ref r),J (.int more),J (.bool dark),J (.int mode),J (.ref i4),J (.ref i5),J t.mv,w.1],w.2⟩) (λw=>h2<+:w.2) (bY,_) rfl (aj _) (λw h=>af h e2) (λj y w P hy hp1 h1 h2'=>?_) (λa w hp1=>?_)
   ·obtain ⟨s,es,rfl⟩:=EQ.mp (ID ..▸hy);refine ae (af (hpre2.trans hp1) hr) ?_
    conv=>whnf
    dsimp only [MS.set,MS.push];rw [ac]
    conv=>whnf
    rw [bN (by decide),<-N4];refine bV (o2 s (rW es)) (λs h=>(hs s (Ng h)).1.ok) ?_;refine dP (λ_=>?_) λ_=>?_
    ·exact h1 _ (_,_) (aa hp1)
    ·exact h2' (_,_) (aa hp1)
   ·exact .nil _ _ a rfl rfl (ai (ac _ _)) (ac _ _) (hq _ t _ (aa (aa (hpre2.trans hp1))) hg')
  refine dP (λ_=>?_) λ_=>?_
  ·exact go aT
  ·cases dark with
   | true=>exact go Z
   | false=>exact go aT
 have third:∀hp i4 i5,h<+:hp->oB ss hp i4->oB ss hp i5->aA K M (cq.body.drop 3) (fin Q) (xin X) ⟨[J (.ref r),J (.int more),J (.bool dark),J (.int mode),J (.ref i4),J (.ref i5),bY,bY],hp⟩:=by
  intro hp i4 i5 hpre h4 h5;exact fw (dM rfl .gt (.inr (.inl rfl))) (last hp i5 i5 hpre h5 h5) (last hp i4 i5 hpre h4 h5)
 have second:∀hp i4,h<+:hp->oB ss hp i4->aA K M (cq.body.drop 2) (fin Q) (xin X) ⟨[J (.ref r),J (.int more),J (.bool dark),J (.int mode),J (.ref i4),J (.ref r),bY,bY],hp⟩:=by
  intro hp i4 hpre h4;have hr':=af hpre hr;refine fw (iL (iL (dM rfl .eq (.inl rfl)) (qC rfl (by decide) (by decide) .eq (.inl rfl))).1 (Am (dM rfl .eq (.inl rfl)) (lD rfl) (qC rfl (by decide) (by decide) .gt (.inr rfl)))).2 (third _ _ _ hpre h4 h4) ?_;refine fw (dM rfl .eq (.inl rfl)) ?_ (third _ _ _ hpre h4 ⟨ss,hr',λs h=>h⟩);refine ae hr' ?_;rw [bN (by decide)];exact third _ _ _ (aa hpre) (h4.up (aa (aj _))) (qD _ _)
 refine hK _ _ _ _ _ _ cq rfl rfl ?_;refine ae hr ?_;have e:oB ss (h++[.list (aQ (ss.map MV.str) bY (J 5))]) h.length:=by rw [du (by decide)];exact qE h _
 exact second _ _ (aa (aj h)) e
end
section
set_option genCtorIdx false in
structure Fr where
 a:Nat
 ra:Nat
 wd:List Nat
 t:Option Tm
 rows:List Rw
 sec:Bool
 fst:Option (List Rw)
noncomputable def oT:Option Tm->MV
 | none=>.none
 | some t=>t.mv
noncomputable def oR:Option (List Rw)->MV
 | none=>.none
 | some rs=>.tup (mvs rs)
noncomputable def Fr.cells (f:Fr):List MV:=[.str f.wd,oT f.t,.ref f.ra,.bool f.sec,oR f.fst]
noncomputable def oC (hp:List MO)(f:Fr):Prop:=hp[f.a]?=J (.list f.cells)/\hp[f.ra]?=J (.list (mvs f.rows))
noncomputable def dQ (fs:List Fr):List MV:=fs.map λf=>.ref f.a
structure Stk (L:Nat)(hp:List MO)(st:Nat)(fs:List Fr):Prop where
 at_:hp[st]?=J (.list (dQ fs))
 fr:∀f∈fs,oC hp f
 pw:fs.Pairwise λf g=>f.a<g.ra
 ne:∀f∈fs,f.ra<f.a/\f.ra≠st/\f.a≠st/\L<=f.ra
 lo:L<=st
theorem oC.set (h:oC hp f)(h1:i≠f.a)(h2:i≠f.ra):oC (hp.set i o) f:=⟨ap h1 h.1,ap h2 h.2⟩
theorem oC.up (h:oC hp f)(e:hp<+:hp'):oC hp' f:=⟨af e h.1,af e h.2⟩
section
theorem Stk.up (h:Stk L hp st fs)(e:hp<+:hp'):Stk L hp' st fs:=⟨af e h.at_,λf hf=>(h.fr f hf).up e,h.pw,h.ne,h.lo⟩
theorem Stk.other (h:Stk L hp st fs)(h1:i≠st)(h2:∀f∈fs,i≠f.a/\i≠f.ra):Stk L (hp.set i o) st fs:=⟨ap h1 h.at_,λf hf=>(h.fr f hf).set (h2 f hf).1 (h2 f hf).2,h.pw,h.ne,h.lo⟩
theorem Stk.last (h:Stk L hp st (gs++[f])):∀g∈gs,g.a<f.ra:=λg hg=>(MD.mp h.pw).2.2 g hg f (iD.mpr rfl)
theorem Stk.pop (h:Stk L hp st (gs++[f])):Stk L (hp.set st (.list (dQ gs))) st gs/\oC (hp.set st (.list (dQ gs))) f:=by
 have hm:∀g∈gs,g∈gs++[f]:=λg hg=>tO _ hg;have hf:f∈gs++[f]:=AT _ (iD.mpr rfl);exact ⟨⟨get_set h.at_,λg hg=>(h.fr g (hm g hg)).set (h.ne g (hm g hg)).2.2.1.symm (h.ne g (hm g hg)).2.1.symm,(MD.mp h.pw).1,λg hg=>h.ne g (hm g hg),h.lo⟩,(h.fr f hf).set (h.ne f hf).2.2.1.symm (h.ne f hf).2.1.symm⟩
theorem Stk.push (h:Stk L hp st gs)(hf:oC hp f)(h1:∀g∈gs,g.a<f.ra)(h2:f.ra<f.a/\f.ra≠st/\f.a≠st/\L<=f.ra):Stk L (hp.set st (.list (dQ gs++[.ref f.a]))) st (gs++[f]):=by
 refine ⟨?_,λg hg=>?_,MD.mpr ⟨h.pw,MP ..,λg hg x hx=>by rw [iD.mp hx];exact h1 g hg⟩,λg hg=>?_,h.lo⟩
 ·rw [show dQ (gs++[f])=dQ gs++[.ref f.a] by simp [dQ]];exact get_set h.at_
 ·rcases nO.mp hg with hg | hg
  ·exact (h.fr g hg).set (h.ne g hg).2.2.1.symm (h.ne g hg).2.1.symm
  ·rw [iD.mp hg];exact hf.set h2.2.2.1.symm h2.2.1.symm
 ·rcases nO.mp hg with hg | hg
  ·exact h.ne g hg
  ·rw [iD.mp hg];exact h2
theorem Stk.add (h:Stk L hp st (gs++[f]))(r:Rw):Stk L (hp.set f.ra (.list (mvs f.rows++[r.mv]))) st (gs++[{ f with rows:=f.rows++[r] }]):=by
 have hf:f∈gs++[f]:=AT _ (iD.mpr rfl);have hn:=h.ne f hf;have hl:=h.last;have hm:∀g∈gs,g∈gs++[f]:=λg hg=>tO _ hg;refine ⟨?_,λg hg=>?_,?_,λg hg=>?_,h.lo⟩
 ·have:=ap (o':=.list (mvs f.rows++[r.mv])) hn.2.1 h.at_;rw [this];simp [dQ]
 ·rcases nO.mp hg with hg | hg
  ·have h1:=hl g hg;have h2:=(h.ne g (hm g hg)).1;exact (h.fr g (hm g hg)).set (Lg h1) (Lg (n2 h2 h1))
  ·rw [iD.mp hg];refine ⟨ap (by show f.ra≠f.a;exact KA (n1 hn.1)) (h.fr f hf).1,?_⟩;rw [fQ];exact get_set (h.fr f hf).2
 ·have:=MD.mp h.pw;exact MD.mpr ⟨this.1,MP ..,λg hg x hx=>by rw [iD.mp hx];exact hl g hg⟩
 ·rcases nO.mp hg with hg | hg
  ·exact h.ne g (hm g hg)
  ·rw [iD.mp hg];exact hn
end
structure FOk (p:List Nat->Prop)(i:Nat)(f:Fr):Prop where
 good:gps p f.rows
 nest:ak f.rows+i<=7
 fst:∀rs,f.fst=J rs->gps p rs/\ak rs+i<=7
 kind:i=0\/∃t,f.t=J t/\t.gp p/\(f.wd=wIf\/(f.wd=bv/\f.fst=bY))
noncomputable def Oks (p:List Nat->Prop)(fs:List Fr):Prop:=∀i f,fs[i]?=J f->FOk p i f
noncomputable def Fr.wt (f:Fr):Nat:=(lns f.rows).length+(match f.fst with
 | some rs=>(lns rs).length
 | none=>0)+4
noncomputable def wts (fs:List Fr):Nat:=(fs.map Fr.wt).sum
noncomputable def Fr.cl (f:Fr):Nat:=match f.fst with
 | none=>if f.wd=wIf then 2 else 1
 | some _=>1
noncomputable def cls (fs:List Fr):Nat:=(fs.map Fr.cl).sum
theorem cP (gs:List Fr)(f:Fr):wts (gs++[f])=wts gs+f.wt:=by simp [wts]
theorem iM (gs:List Fr)(f:Fr):cls (gs++[f])=cls gs+f.cl:=by simp [cls]
theorem Oks.init (h:Oks p (gs++[f])):Oks p gs/\FOk p gs.length f:=
 ⟨λi g e=>h i g (ai e),h _ _ (ac gs f)⟩
theorem Oks.snoc (h:Oks p gs)(hf:FOk p gs.length f):Oks p (gs++[f]):=λi g e=>by
 refine Lm (LO i gs.length) (λq=>?_) λq=>?_
 ·rw [Ld q] at e;exact h i g e
 ·have hi:i<(gs++[f]).length:=(iN.mp e).1;rw [eQ,Kx] at hi;have:i=gs.length:=NA (LK hi) q;subst this;rw [ac] at e;cases e;exact hf
theorem FOk.add (h:FOk p i f)(hg:r.gp p)(hn:r.nest+i<=7):FOk p i { f with rows:=f.rows++[r] }:=by
 refine ⟨ji h.good ⟨hg,trivial⟩,?_,h.fst,h.kind⟩;have h1:=h.nest;have:ak (f.rows++[r])<=7-i:=eY (Nat.le_sub_of_add_le h1) (mx0 (Nat.le_sub_of_add_le hn));exact Nat.add_le_of_le_sub (n1 h1) this
theorem Ap (f:Fr)(r:Rw):({ f with rows:=f.rows++[r] }:Fr).wt=f.wt+r.lines.length:=by
 unfold Fr.wt;dsimp only;rw [cv,d7,eQ];exact by simp +arith only
theorem qF (h:l≠[]):∃gs f,l=gs++[f]:=⟨l.dropLast,l.getLast h,(List.dropLast_concat_getLast h).symm⟩
variable (hK:aD PP K)
include hK
omit hK in
theorem Hn (e:hp[r]?=J (.list xs)):jX .pop (.ref r) hp=aT:=by
 show (wA r hp[r]?).isSome=aT;rw [e];rfl
omit hK in
theorem vp {f:Fr}(h:f.wt<=B)(hB:B<=2000):(mvs f.rows).length<line:=by
 have h1:=ky f.rows;have h2:(lns f.rows).length<=f.wt:=by unfold Fr.wt;exact by simp +arith only
 exact KG (show (mvs f.rows).length<2001 by rw [cj];lia) (aR (by decide))
noncomputable abbrev lE (e:ME):MSt:=.expr (.mth .append (.idx (.idx (.var 0) (.neg (.cst (.int 1)))) (.cst (.int 2))) [e])
omit hK in
theorem xK (gs:List α)(f:α):g9 (-1) (gs++[f]).length=J gs.length:=by
 rw [eQ,Kx];unfold g9;rw [decide_eq_false (show ¬ (0:Int)<=-1 by decide),decide_eq_true (show -(((gs.length+1:Nat)):Int)<=-1 by lia)];show J (-1+((gs.length+1:Nat):Int)).toNat=J gs.length;congr 1;lia
omit hK in
theorem qG {hp:List MO}{f:Fr}(S:Stk L hp st (gs++[f]))(hB:f.wt<=B)(hB':B<=2000){r:Rw}(he:∀Q:PQ,Q r.mv ⟨J (.ref st)::vs,hp⟩->wpE K M e Q X ⟨J (.ref st)::vs,hp⟩)
  (hq:Q .next ⟨J (.ref st)::vs,hp.set f.ra (.list (mvs f.rows++[r.mv]))⟩):wpS K M (lE e) Q X ⟨J (.ref st)::vs,hp⟩:=by
 have hf:=S.fr f (AT _ (iD.mpr rfl));have e1:dQ (gs++[f])=dQ gs++[.ref f.a]:=by simp [dQ]
 conv=>whnf
 dsimp only;rw [S.at_,e1];delta eJ onO;try dsimp only
 rw [xK];dsimp only;rw [ac];refine ae hf.1 ?_;refine az (aH hf.2) ?_;refine he _ ?_;refine aV (aU hf.2) ?_;exact ⟨vp hB hB',hq⟩
theorem sx {p:List Nat->Prop}{L st:Nat}{hp:List MO}{gs:List Fr}{f:Fr}{B N:Nat}(S:Stk L hp st (gs++[f]))(O:Oks p (gs++[f]))(hg:gs≠[])(hB:wts (gs++[f])<=B)(hB':B<=2000){Q:MV->List MO->Prop}{X:XT}
  (hq:∀hp' fs',Stk L hp' st fs'->Oks p fs'->fs'≠[]->fs'.length<=(gs++[f]).length->wts fs'<=wts (gs++[f])->cls fs'<cls (gs++[f])->(∀h0:List MO,h0.length<=L->h0<+:hp->h0<+:hp')->Q .none hp'):K (N+1) 39 [.ref st] Q X hp:=by
 refine e02 S.pop λS1 F1=>?_;refine e02 O.init λO1 hf=>?_;have e1:dQ (gs++[f])=dQ gs++[.ref f.a]:=by simp [dQ]
 have hlo:=S.lo;have hfm:f∈gs++[f]:=AT _ (iD.mpr rfl);have hn:=S.ne f hfm;have hlast:=S.last;refine e13 (hf.kind.resolve_left (λq=>hg (List.eq_nil_of_length_eq_zero q))) λt et ht hkind=>?_;refine e21 (qF hg) λgs' g eg=>?_;rw [cP] at hB;have hsz:∀h0:List MO,h0.length<=L->h0<+:hp->h0<+:hp.set st (.list (dQ gs)):=λh0 h1 h2=>aF h2 (n2 h1 hlo);refine hK _ _ _ _ _ _ fW rfl rfl ?_;refine az (Hn S.at_) ?_;refine ⟨rfl,?_⟩;refine aV (aU S.at_) ?_;refine ⟨rfl,?_⟩;rw [e1];refine cy (a:=.ref f.a) (by simp) ?_;rw [List.dropLast_concat];change aA K N (fW.body.drop 1) (fin Q) _ ⟨[J (.ref st),J (.ref f.a)],hp.set st (.list (dQ gs))⟩;generalize hp.set st (.list (dQ gs))=hp1 at *;have fin_row:∀(hp2:List MO) (r:Rw),Stk L hp2 st gs->(∀h0:List MO,h0.length<=L->h0<+:hp->h0<+:hp2)->r.gp p->r.nest+gs'.length<=7->r.lines.length<=f.wt->Q .none (hp2.set g.ra (.list (mvs g.rows++[r.mv]))):=by
  intro hp2 r S2 h2 hr hnr hl;subst eg;have hgm:g∈gs'++[g]:=AT _ (iD.mpr rfl);have hgl:=(S2.ne g hgm).2.2.2;refine e02 O1.init λO2 hg2=>?_;refine hq _ _ (S2.add r) (O2.snoc (hg2.add hr hnr)) (by simp) (by simp) ?_ ?_ λh0 q1 q2=>aF (h2 h0 q1 q2) (n2 q1 hgl)
  ·rw [cP,cP,cP,Ap];exact n1 hl
  ·rw [iM,iM,iM];have:({ g with rows:=g.rows++[r] }:Fr).cl=g.cl:=rfl;rw [this];have:1<=f.cl:=by unfold Fr.cl;split<;>(try split)<;>exact nb rfl
   exact n1 this
 have hgl:gs.length=gs'.length+1:=by rw [eg];simp
 have hwt:(lns f.rows).length+4<=f.wt:=by unfold Fr.wt;exact by simp +arith only
 have hnest:=hf.nest;have hgw:g.wt<=B:=by rw [eg,cP] at hB;exact n1 hB
 have cell:f.cells=[.str f.wd,t.mv,.ref f.ra,.bool f.sec,oR f.fst]:=by unfold Fr.cells;rw [et];rfl
 have hfc:=F1.1;rw [cell] at hfc
 rcases hkind with hwd | ⟨hwd,hfst⟩
 ·rw [hwd] at hfc;refine ae hfc ?_;refine ae hfc ?_
  conv=>whnf
  cases hfs:f.fst with
  | none=>
   rw [hfs] at hfc;refine az (aH S1.at_) ?_;refine ae hfc ?_;refine ae hfc ?_;refine ae (ai hfc) ?_;refine ae (ai hfc) ?_;refine ae (ai F1.2) ?_;have hlt:∀{i o},hp1[i]?=J o->i<hp1.length:=λe=>(iN.mp e).1;have hst:=hlt S1.at_;have F2:oC (hp1++[.list []]++[.list [.str wIf,t.mv,.ref hp1.length,.bool f.sec,.tup (mvs f.rows)]]) ⟨(hp1++[MO.list []]).length,hp1.length,wIf,J t,[],f.sec,J f.rows⟩:=⟨ac _ _,ai (ac _ _)⟩
   have hup:hp1<+:hp1++[.list []]++[.list [.str wIf,t.mv,.ref hp1.length,.bool f.sec,.tup (mvs f.rows)]]:=aa (aa (aj _));have S2:=(S1.up hup).push F2 (λg hg=>hlt (S1.fr g hg).1) ⟨by show hp1.length<(hp1++[MO.list []]).length;simp,by show hp1.length≠st;exact Lg hst,by show (hp1++[MO.list []]).length≠st;simp;exact Lg (n1 hst),by show L<=hp1.length;exact n2 hst hlo⟩;refine aV (aU (af hup S1.at_)) ?_;have hsz2:gs.length<=8:=n1 hnest;refine ⟨KG (show (dQ gs).length<9 by simp [dQ];exact n1 hsz2) (aR (by decide)),?_⟩;refine hq _ _ S2 (O1.snoc ⟨trivial,by show 0+gs.length<=7;exact n1 hnest,λrs e=>by cases e;exact ⟨hf.good,hnest⟩,.inr ⟨t,rfl,ht,.inl rfl⟩⟩) (by simp) (by simp) ?_ ?_ λh0 q1 q2=>aF ((hsz h0 q1 q2).trans hup) (n2 q1 hlo)
   ·rw [cP,cP];show wts gs+(0+(lns f.rows).length+4)<=_;exact n1 hwt
   ·rw [iM,iM];show cls gs+1<_;have:f.cl=2:=by unfold Fr.cl;rw [hfs,hwd];rfl
    exact n1 (Km this.symm)
  | some rs=>
   rw [hfs] at hfc;have hrs:=hf.fst rs hfs;show wpS K N (lE _) _ _ _;subst eg;refine qG (r:=.ite t rs f.rows) S1 hgw hB' (λQ hq=>?_) ?_
   ·conv=>whnf
    refine ae hfc ?_;refine ae hfc ?_;refine ae hfc ?_;refine ae F1.2 ?_;exact hq
   ·refine fin_row hp1 (.ite t rs f.rows) S1 hsz ⟨ht,hrs.1,hf.good⟩ ?_ ?_
    ·show max (ak rs) (ak f.rows)+1+gs'.length<=7;have:=mx hrs.2 hnest;rw [Nat.add_max_add_right,eQ] at this;exact n1 this (by simp +arith only [Kx])
    ·show ((lns rs++cu::(lns f.rows++[b8])).length+1)<=f.wt;unfold Fr.wt;rw [hfs,eQ,KQ,eQ,Kx];exact by simp +arith only
 ·rw [hwd,hfst] at hfc;have wrest:∀(hp2:List MO) (rows:List Rw),Stk L hp2 st gs->(∀h0:List MO,h0.length<=L->h0<+:hp->h0<+:hp2)->hp2[f.a]?=J (.list [.str bv,t.mv,.ref f.ra,.bool f.sec,.none])->hp2[f.ra]?=J (.list (mvs rows))->gps p rows->ak rows+gs.length<=7->(lns rows).length<=(lns f.rows).length+1->
    aA K N [lE (.tup [.cst (.str bv),.idx (.var 1) (.cst (.int 1)),.blt .tuple [.idx (.var 1) (.cst (.int 2))]])] (fin Q) (xin X) ⟨[J (.ref st),J (.ref f.a)],hp2⟩:=by
   intro hp2 rows S2 h2 e1 e2 hgr hnr hlr;have S2':=S2;rw [eg] at S2';refine qG (r:=.wh t rows) S2' hgw hB' (λQ hq=>?_) ?_
   ·conv=>whnf
    refine ae e1 ?_;refine ae e1 ?_;refine ae e2 ?_;exact hq
   ·refine fin_row hp2 (.wh t rows) S2 h2 ⟨ht,hgr⟩ (by show ak rows+1+gs'.length<=7;exact n2 hnr (Km hgl.symm)) ?_;show ((lns rows++[b8]).length+1)<=f.wt;rw [eQ,Kx];exact n2 hlr hwt
  have hend:=wrest hp1 f.rows S1 hsz hfc F1.2 hf.good hnest (Ma _);refine ae hfc ?_;refine ae hfc ?_
  cases t with
  | num k=>exact hend
  | nm s=>exact hend
  | op c a b=>
   refine sZ (λq=>?_) λq=>?_
   ·exact hend
   ·refine ae hfc ?_
    cases a with
    | num k=>exact hend
    | op c' x y=>
     refine bx (show ([c']==rZ)=Z by simp) ?_;exact hend
    | nm s=>
     have hs:p s:=ht.1.2.1;refine ae hfc ?_;refine az (aH F1.2) ?_;refine ae hfc ?_;refine ae hfc ?_;refine aV (aU F1.2) ?_;refine ⟨vp (show f.wt<=B by lia) hB',?_⟩;have hgood:(Tm.op 43 (.nm s) (.num 1)).gp p:=⟨⟨.inl rfl,hs,by decide,by decide⟩,by show 1<=3;decide⟩
     refine wrest _ (f.rows++[.set s (.op 43 (.nm s) (.num 1))]) (S1.other hn.2.1 λg hg=>?_) (λh0 q1 q2=>aF (hsz h0 q1 q2) (n2 q1 hn.2.2.2)) (ap (KA (n1 hn.1)) hfc) ?_ (ji hf.good (show gps p [.set s _] from ⟨⟨hs,hgood⟩,trivial⟩)) ?_ ?_
     ·have h1:=hlast g hg;have h2:=(S1.ne g hg).1;exact ⟨Lg h1,Lg (n2 h2 h1)⟩
     ·rw [fQ];exact get_set F1.2
     ·have:ak (f.rows++[.set s (.op 43 (.nm s) (.num 1))])<=ak f.rows:=eY (oF _) (Ko _);exact n2 this hnest
     ·rw [cv,d7,eQ];exact oF _
end
section
theorem Ho (h:PB K n X m e)(hq:∀b,Q .next (m.set i (.bool b))):wpS K n (.asg [i] Z e) Q X m:=h _ λb=>hq b
structure At (L:Nat)(h0:List MO)(r:Nat)(ss:List (List Nat))(hp:List MO)(st:Nat)(fs:List Fr):Prop where
 S:Stk L hp st fs
 O:Oks (·∈ss) fs
 ne:fs≠[]
 len:fs.length<=8
 pre:h0<+:hp
 L0:h0.length<=L
 nm:h0[r]?=J (.list (ss.map .str))
 ten:ss.length=10
 gn:∀s∈ss,Gn s
section
theorem At.up (A:At L h0 r ss hp st fs)(e:hp<+:hp'):At L h0 r ss hp' st fs:=⟨A.S.up e,A.O,A.ne,A.len,A.pre.trans e,A.L0,A.nm,A.ten,A.gn⟩
theorem At.names (A:At L h0 r ss hp st fs):hp[r]?=J (.list (ss.map .str)):=af A.pre A.nm
noncomputable def kJ (ss:List (List Nat))(hp:List MO)(i:Nat):Prop:=∃sl:List (List Nat),hp[i]?=J (.list (sl.map .str))/\sl≠[]/\∀s∈sl,s∈ss
theorem kJ.up (h:kJ ss hp i)(e:hp<+:hp'):kJ ss hp' i:=let ⟨sl,h1,h2⟩:=h;⟨sl,af e h1,h2⟩
theorem pO (ht:ss.length=10)(hp:List MO):kJ ss (hp++[.list (aQ (ss.map MV.str) (J 5) bY)]) hp.length:=
 ⟨ss.drop 5,by rw [ac,bN (by decide),N4];rfl,(λe=>by have:=congrArg Nh e;rw [Lf,ht] at this;cases this),λs hs=>Ng hs⟩
theorem xL (ht:ss.length=10)(hp:List MO):kJ ss (hp++[.list (aQ (ss.map MV.str) bY (J 5))]) hp.length:=
 ⟨ss.take 5,by rw [ac,du (by decide),N5];rfl,(λe=>by have:=congrArg Nh e;rw [KS,ht] at this;cases this),λs hs=>LW hs⟩
theorem At.all (A:At L h0 r ss hp st fs):kJ ss hp r:=⟨ss,A.names,(λe=>by have:=A.ten;rw [e] at this;cases this),λs h=>h⟩
theorem At.row (A:At L h0 r ss hp st fs)(e:fs=gs++[f])(hg:w.gp (·∈ss))(hn:w.nest=0):At L h0 r ss (hp.set f.ra (.list (mvs f.rows++[w.mv]))) st (gs++[{ f with rows:=f.rows++[w] }]):=by
 obtain ⟨S,O,ne,len,pre,L0,nm,ten,gn⟩:=A;subst e;obtain ⟨O1,hf⟩:=O.init;have hL:=(S.ne f (AT _ (iD.mpr rfl))).2.2.2;refine ⟨S.add w,O1.snoc (hf.add hg ?_),by simp,by simpa using len,aF pre (dO L0 hL),L0,nm,ten,gn⟩;have:=hf.nest;exact n2 this (Km hn)
theorem At.frame (A:At L h0 r ss hp st fs)(hl:fs.length<8)(ht:t.gp (·∈ss))(hwd:wd=wIf\/wd=bv) :
  At L h0 r ss ((hp++[MO.list []]++[MO.list [.str wd,t.mv,.ref hp.length,.bool b,.none]]).set st (.list (dQ fs++[.ref (hp++[MO.list []]).length]))) st (fs++[⟨(hp++[MO.list []]).length,hp.length,wd,J t,[],b,bY⟩]):=by
 obtain ⟨S,O,ne,len,pre,L0,nm,ten,gn⟩:=A;have hlt:∀{i o},hp[i]?=J o->i<hp.length:=λe=>(iN.mp e).1;have hst:=hlt S.at_;have hlo:=S.lo;have hup:hp<+:hp++[.list []]++[.list [.str wd,t.mv,.ref hp.length,.bool b,.none]]:=aa (aa (aj _));have F2:oC (hp++[.list []]++[.list [.str wd,t.mv,.ref hp.length,.bool b,.none]]) ⟨(hp++[MO.list []]).length,hp.length,wd,J t,[],b,bY⟩:=⟨ac _ _,ai (ac _ _)⟩
 refine ⟨(S.up hup).push F2 (λg hg=>hlt (S.fr g hg).1) ⟨by show hp.length<(hp++[MO.list []]).length;simp,by show hp.length≠st;exact Lg hst,by show (hp++[MO.list []]).length≠st;simp;exact Lg (n1 hst),by show L<=hp.length;exact n2 hlo hst⟩,O.snoc ⟨trivial,by show 0+fs.length<=7;exact n1 hl,(λrs e=>by cases e),.inr ⟨t,rfl,ht,hwd.imp id λh=>⟨h,rfl⟩⟩⟩,by simp,by simp;exact n1 hl,aF (pre.trans hup) (n2 hlo L0),L0,nm,ten,gn⟩
end
variable (hK:aD PP K)
include hK
theorem lF {L st r:Nat}{h0 hp:List MO}{ss:List (List Nat)}{fs:List Fr}(A:At L h0 r ss hp st fs)(hl:fs.length<8){wd:List Nat}{t:Tm}{b:Bool}(ht:t.gp (·∈ss))(hwd:wd=wIf\/wd=bv){M:Nat}{Q:MV->List MO->Prop}{X:XM}{v1 v2 v3 v4 v5:Option MV}{vs:List (Option MV)}
  (hq:∀hp' fs',At L h0 r ss hp' st fs'->wts fs'<=wts fs+4->Q .none hp') :
  aA K M [.expr (.mth .append (.var 0) [.list [.cst (.str wd),.var 6,.list [],.var 7,.cst .none]])] (fin Q) X ⟨J (.ref st)::v1::v2::v3::v4::v5::J t.mv::J (.bool b)::vs,hp⟩:=by
 have B:=A.frame hl (b:=b) ht hwd;refine az (aH A.S.at_) ?_;refine aV (aU (ai (ai A.S.at_))) ?_;refine ⟨KG (show (dQ fs).length<9 by simp [dQ];exact dO hl (nb rfl)) (aR (by decide)),?_⟩;refine hq _ _ B ?_;rw [cP];exact oF _
omit hK in
theorem Kc (h:j<4):∃w:Int,[MV.int 0,MV.int 4,MV.int 8,MV.int 0][j]?=J (.int w):=by
 have:j=0\/j=1\/j=2\/j=3:=by lia
 rcases this with rfl | rfl | rfl | rfl<;>exact ⟨_,rfl⟩
end
section
variable (hK:aD PP K)
include hK
omit hK in
noncomputable def PC (K:KT)(n:Nat)(X:XM)(m:MS)(e:ME)(φ:Prop):Prop:=∀Q:PQ,(∀b,(b=aT->φ)->Q (.bool b) m)->wpE K n e Q X m
omit hK in
theorem Hq (ha:PB K n X m a)(he:PC K n X m e φ):PC K n X m (.and [a,e]) φ:=λQ hq=>ha _ λb=>by
 cases b with
 | true=>exact he Q hq
 | false=>exact hq Z λh=>by cases h
omit hK in
theorem Dw (ha:PB K n X m a)(he:PC K n X m e φ)(hc:PB K n X m c):PC K n X m (.and [a,e,c]) φ:=λQ hq=>ha _ λb=>by
 cases b with
 | true=>
  refine he _ λb hb=>?_
  cases b with
  | true=>exact hc Q λb'=>hq b' λ_=>hb rfl
  | false=>exact hq Z λh=>by cases h
 | false=>exact hq Z λh=>by cases h
omit hK in
theorem ug (hc:PC K n X m c φ)(ha:φ->aA K n a Q X m)(hb:aA K n b Q X m):wpS K n (.ite c a b) Q X m:=
 hc _ λt h=>by
  cases t with
  | true=>exact ha (h rfl)
  | false=>exact hb
omit hK in
theorem Aq (h:hp[st]?=J (.list (dQ fs))):PC K n X ⟨J (.ref st)::vs,hp⟩ (.cmp .lt (.blt .len [.var 0]) (.cst (.int 8))) (fs.length<8):=λQ hq=>by
 refine av h ?_;refine hq _ λe=>?_;have:=of_decide_eq_true e;simp [dQ] at this;lia
omit hK in
theorem Dx (h:hp[st]?=J (.list (dQ fs))):PC K n X ⟨J (.ref st)::vs,hp⟩ (.cmp .gt (.blt .len [.var 0]) (.cst (.int 1))) (1<fs.length):=λQ hq=>by
 refine av h ?_;refine hq _ λe=>?_;have:=of_decide_eq_true e;simp [dQ] at this;lia
theorem vq (A:At L h0 r ss hp st fs)(hB:wts fs+5<=B)(hB':B<=2000)(hM:1<=M){t:Tm}(ht:t.gp (·∈ss))(hmode:mode=0\/mode=1\/mode=2)
  (hq:∀hp' fs',At L h0 r ss hp' st fs'->wts fs'<=wts fs+5->Q .none hp') :
  aA K M (gQ.body.drop 5) (fin Q) (xin X) ⟨[J (.ref st),J (.ref r),J (.int more),J (.int mode),J (.int way),J (.bool dark),J t.mv,J (.bool sec),J (.bool shut),bY,bY],hp⟩:=by
 refine e21 (qF A.ne) λgs f ef=>?_;have hfB:f.wt<=B:=by rw [ef,cP] at hB;exact n1 hB
 have put:∀{hp1:List MO} {w:Rw} {e:ME} {vs:List (Option MV)},hp<+:hp1->w.gp (·∈ss)->w.nest=0->w.lines.length=1->(∀Q:PQ,Q w.mv ⟨J (.ref st)::vs,hp1⟩->wpE K M e Q (xin X) ⟨J (.ref st)::vs,hp1⟩)->aA K M [lE e] (fin Q) (xin X) ⟨J (.ref st)::vs,hp1⟩:=by
  intro hp1 w e vs hpre hg hn hl he;have A1:=A.up hpre;have S1:=A1.S;rw [ef] at S1;refine qG S1 hfB hB' he ?_;refine hq _ _ (A1.row ef hg hn) ?_;rw [ef,cP,cP,Ap,hl];exact by simp +arith only
 have setrow:∀{hp1:List MO} {i:Nat},hp<+:hp1->kJ ss hp1 i->aA K M [lE (.tup [.cst (.str cO),.idx (.var 9) (.bin .mod (.bin .fdiv (.var 2) (.cst (.int 96))) (.blt .len [.var 9])),.var 6])] (fin Q) (xin X)
   ⟨[J (.ref st),J (.ref r),J (.int more),J (.int mode),J (.int way),J (.bool dark),J t.mv,J (.bool sec),J (.bool shut),J (.ref i),bY],hp1⟩:=by
  intro hp1 i hpre h1;refine e13 h1 λsl e1 hne hsub=>?_;have hpos:0<sl.length:=MI.mpr hne;have hx:0<=more / 96 % (sl.length:Int)/\more / 96 % (sl.length:Int)<sl.length:=⟨LM _ (cne hpos),Mc _ (kX hpos)⟩
  have hk:(more / 96 % (sl.length:Int)).toNat<sl.length:=tn (z1 hx.1) (z1 hx.2);refine put (w:=.set (sl[(more / 96 % (sl.length:Int)).toNat]'hk) t) hpre ⟨hsub _ (La _),ht⟩ rfl rfl λQ hq=>?_;refine av e1 ?_;rw [iF];refine az (decide_eq_true (z2 hx.1 hx.2)) ?_;refine ae e1 ?_;delta eJ onO;try dsimp only
  rw [ba hx.1 (by rw [iF];exact hx.2)];dsimp only;rw [ID,KC hk];exact hq
 refine fw (dM rfl .lt (.inr (.inr rfl))) ?_ ?_
 ·have after:∀{hp1:List MO} {i:Nat},hp<+:hp1->kJ ss hp1 i->aA K M [.ite (.var 8) [.asg [9] Z (.sl (.var 1) (J (.cst (.int 5))) bY)] [],lE (.tup [.cst (.str cO),.idx (.var 9) (.bin .mod (.bin .fdiv (.var 2) (.cst (.int 96))) (.blt .len [.var 9])),.var 6])] (fin Q) (xin X)
    ⟨[J (.ref st),J (.ref r),J (.int more),J (.int mode),J (.int way),J (.bool dark),J t.mv,J (.bool sec),J (.bool shut),J (.ref i),bY],hp1⟩:=by
   intro hp1 i hpre h1;refine fw (lD rfl) ?_ (setrow hpre h1);refine ae ((A.up hpre).names) ?_;exact setrow (aa hpre) (pO A.ten hp1)
  conv=>whnf
  dsimp only;refine ae A.names ?_;refine ae (ai A.names) ?_
  conv=>whnf
  dsimp only [MS.push];rw [ac];delta eJ onO;try dsimp only
  refine aw (kt) (mP) ?_;have hpre3:hp<+:hp++[MO.list (aQ (ss.map MV.str) bY (J 5))]++[MO.list (aQ (ss.map MV.str) (J 5) bY)]++[MO.list [.ref hp.length,.ref (hp++[MO.list (aQ (ss.map MV.str) bY (J 5))]).length]]:=aa (aa (aa (aj _)));have hk:∃k,sel (more / 7 % 4==3) (MV.ref hp.length) (.ref (hp++[MO.list (aQ (ss.map MV.str) bY (J 5))]).length)=.ref k/\kJ ss (hp++[MO.list (aQ (ss.map MV.str) bY (J 5))]++[MO.list (aQ (ss.map MV.str) (J 5) bY)]++[MO.list [.ref hp.length,.ref (hp++[MO.list (aQ (ss.map MV.str) bY (J 5))]).length]]) k:=by
   cases (more / 7 % 4==3)
   ·exact ⟨_,rfl,(xL A.ten hp).up (aa (aa (aj _)))⟩
   ·exact ⟨_,rfl,(pO A.ten _).up (aa (aj _))⟩
  refine e12 hk λk ek hk=>?_;rw [ek]
  conv=>whnf
  dsimp only [MS.push];rw [ac];have hr:=A.all
  rcases hmode with rfl | rfl | rfl
  ·exact after (aa hpre3) (hr.up (aa hpre3))
  ·exact after (aa hpre3) (hr.up (aa hpre3))
  ·exact after (aa hpre3) (hk.up (aa (aj _)))
 ·show wpS K M _ _ _ _;refine fw (iL (dM rfl .eq (.inl rfl)) (An (lD rfl))).1 ?_ ?_
  ·exact put (w:=.tell t) (aj _) ht rfl rfl λQ hq=>hq
  ·show wpS K M _ _ _ _;refine fw (dM rfl .eq (.inl rfl)) ?_ ?_
   ·exact put (w:=.skip) (aj _) trivial rfl rfl λQ hq=>hq
   ·show wpS K M _ _ _ _;refine ug (Hq (dM rfl .lt (.inr (.inr rfl))) (Aq A.S.at_)) (λhl=>?_) ?_
    ·exact lF hK A hl ht (.inl rfl) λhp' fs' A' h'=>hq hp' fs' A' (n1 h')
    ·show wpS K M _ _ _ _;refine ug (Dw (dM rfl .lt (.inr (.inr rfl))) (Aq A.S.at_) (An (lD rfl))) (λhl=>?_) ?_
     ·show wpS K M _ _ _ _;refine fw (iL (dM rfl .eq (.inl rfl)) (qC rfl (by decide) (by decide) .gt (.inr rfl))).1 ?_ ?_
      ·have hk:(more / 384 % 5).toNat<ss.length:=by rw [A.ten];exact emN rfl
       have hg:(Tm.op 60 (.nm (ss[(more / 384 % 5).toNat]'hk)) (.num (1+more / 1920 % 4))).gp (·∈ss):=⟨⟨.inr (.inr (.inr (.inl rfl))),La _,by lia,by lia⟩,by show 1<=3;decide⟩
       refine ae A.names (aw (ba (em0 rfl) (by rw [iF];exact (Og (em0 rfl)).mp hk)) (by rw [ID,KC hk];rfl) ?_);exact lF hK A hl hg (.inr rfl) λhp' fs' A' h'=>hq hp' fs' A' (n1 h')
      ·exact lF hK A hl ht (.inr rfl) λhp' fs' A' h'=>hq hp' fs' A' (n1 h')
     ·show wpS K M _ _ _ _;refine ug (Dx A.S.at_) (λhl=>?_) (hq hp fs A (by simp +arith only));obtain ⟨M,rfl⟩:∃M',M=M'+1:=⟨M-1,sb hM⟩
      have S1:=A.S;have O1:=A.O;rw [ef] at S1 O1;have hgs:gs≠[]:=λe=>by rw [ef,e] at hl;exact absurd hl (Nt 1)
      refine sx hK S1 O1 hgs (B:=B) (by rw [<-ef];exact n1 hB) hB' λhp' fs' S' O' n' l' w' c' p'=>?_;rw [<-ef] at l' w';exact hq hp' fs' ⟨S',O',n',dO l' A.len,p' h0 A.L0 A.pre,A.L0,A.nm,A.ten,A.gn⟩ (n1 w')
theorem Ji {L st r:Nat}{h0 hp:List MO}{ss:List (List Nat)}{fs:List Fr}(A:At L h0 r ss hp st fs){B N:Nat}(hB:wts fs+5<=B)(hB':B<=2000)(hN:9<=N){more mode:Int}(hmode:mode=0\/mode=1\/mode=2){Q:MV->List MO->Prop}{X:XT}
  (hq:∀hp' fs',At L h0 r ss hp' st fs'->wts fs'<=wts fs+5->Q .none hp'):K N 40 [.ref st,.ref r,.int more,.int mode] Q X hp:=by
 obtain ⟨M,rfl,hM⟩:=room (k:=8) (show 8<N by lia);refine hK _ _ _ _ _ _ gQ rfl rfl ?_;refine aI (aG A.S.at_) ?_;refine vh (λw=>⟨[J (.ref st),J (.ref r),J (.int more),J (.int mode),J (.int (more % 12)),bY,bY,bY,bY,bY,w],hp⟩) (λ_=>True) bY rfl trivial (λ_ _=>A.S.at_) (λj y w P hy _ h1 h2=>?_) (λa w _=>?_)
 ·obtain ⟨f,ef,rfl⟩:=EQ.mp (ID ..▸hy);refine ae ((A.S.fr f (rW ef)).1) ?_
  conv=>whnf
  cases f.sec with
  | true=>exact h1 _ _ trivial
  | false=>exact h2 _ trivial
 ·refine .nil _ _ a rfl rfl (ai (ac _ _)) (ac _ _) ?_;have A1:=A.up (aa (o:=.list []) (aa (o:=.list a) (aj hp)));refine Du hK A1.names A1.gn hM λhp2 t b hpre ht=>?_;have hpre:hp++[.list a]++[.list []]<+:hp2:=hpre;have A2:=A1.up hpre;refine ⟨rfl,?_⟩;change aA K M (gQ.body.drop 3) (fin Q) _ ⟨[J (.ref st),J (.ref r),J (.int more),J (.int mode),J (.int (more % 12)),J (.bool (!a.isEmpty)),J t.mv,J (.bool b),bY,bY,bY],hp2⟩;refine Ho (iL (dM rfl .eq (.inl rfl)) (iL (lD rfl) (lD rfl)).2).1 λshut=>?_;refine fw (dM rfl .eq (.inl rfl)) ?_ (vq hK A2 hB hB' (dO (nb rfl) hM) ht hmode hq)
  conv=>whnf
  dsimp only [MS.push,MS.set];rw [ac];delta eJ onO;try dsimp only
  rw [ba (em0 rfl) (by show _<(4:Int);exact em2 rfl)];refine e11 (Kc (j:=(more / 7 % 4).toNat) (emN rfl)) λw' ew=>?_;refine cy ew ?_;exact vq hK (A2.up (aa (aj _))) hB hB' (dO (nb rfl) hM) ht hmode hq
end
section
variable {N:Nat}{Q:MV->List MO->Prop}{h:List MO}
variable {K:KT}(hK:aD PP K)
include hK
omit hK in
theorem xM (x:Int):fC (mix x):=by
 have:=C5 x;obtain ⟨n,hn⟩:=K3 this.1;unfold fC;rw [hn];exact KG (LN.mp (hn▸this.2)) (nb rfl)
omit hK in
theorem At.base (A:At L h0 r ss hp st [f]):hp[f.ra]?=J (.list (mvs f.rows))/\hp[f.a]?=J (.list f.cells)/\gps (·∈ss) f.rows/\ak f.rows<=7:=
 have h:=A.S.fr f (iD.mpr rfl);have o:=A.O 0 f rfl
 ⟨h.2,h.1,o.good,by have:=o.nest;exact this⟩
theorem xN (A:At L h0 r ss hp st fs)(hM:1<=M)(hB':B<=2000)(hB:wts fs<=B)
  (hq:∀hp' i rows,h0<+:hp'->hp'[i]?=J (.list (mvs rows))->gps (·∈ss) rows->ak rows<=7->(lns rows).length<=B->Q (.ref i) hp') :
  aA K M (eH.body.drop 2) (fin Q) (xin X) ⟨v0::v1::v2::J (.ref st)::vs,hp⟩:=by
 refine ⟨cls fs+1,jf (λk m=>∃hp fs,m=⟨v0::v1::v2::J (.ref st)::vs,hp⟩/\At L h0 r ss hp st fs/\wts fs<=B/\cls fs+1<=k) (λm hI=>by obtain ⟨_,_,_,_,_,h⟩:=hI;exact nf (n1 h)) (λk m W hI hW=>?_) _ _ ⟨hp,fs,rfl,A,hB,oF _⟩⟩;obtain ⟨hp,fs,rfl,A,hB,hk⟩:=hI;refine e21 (qF A.ne) λgs f ef=>?_;refine av A.S.at_ ?_
 conv=>whnf
 cases gs with
 | nil=>
  subst ef;refine e04 A.base λb1 b2 b3 b4=>?_;refine ae A.S.at_ ?_;refine ae b2 ?_;refine hq hp f.ra f.rows A.pre b1 b3 b4 ?_;have:wts ([]++[f])=f.wt+0:=rfl;have:(lns f.rows).length+4<=f.wt:=by unfold Fr.wt;exact by simp +arith only
  lia
 | cons g gs=>
  have hl:(1:Int)<(dQ fs).length:=by rw [ef];simp [dQ];lia
  rw [decide_eq_true hl];obtain ⟨M,rfl⟩:∃M',M=M'+1:=⟨M-1,sb hM⟩
  have S1:=A.S;have O1:=A.O;rw [ef] at S1 O1;refine sx hK S1 O1 (KX _ _) (B:=B) (by rw [<-ef];exact hB) hB' λhp' fs' S' O' n' l' w' c' p'=>?_;rw [<-ef] at l' w' c';exact hW _ ⟨hp',fs',rfl,⟨S',O',n',dO l' A.len,p' h0 A.L0 A.pre,A.L0,A.nm,A.ten,A.gn⟩,n2 w' hB,n2 c' hk⟩
theorem Dy {cells:List Int}{ss:List (List Nat)}(hc:h[rc]?=J (.list (cells.map .int)))(hr:h[r]?=J (.list (ss.map .str)))(ten:ss.length=10)(gn:∀s∈ss,Gn s)(hz:cells.length<=63)(hN:10<=N)
  (hq:∀hp' i rows,h<+:hp'->hp'[i]?=J (.list (mvs rows))->gps (·∈ss) rows->ak rows<=7->(lns rows).length<=4+5 * cells.length->Q (.ref i) hp'):K N 41 [.ref rc,.ref r,.int loose] Q X h:=by
 obtain ⟨M,rfl,hM⟩:=room (k:=9) (show 9<N by lia);have e1:(h++[MO.list []]).length=h.length+1:=by simp
 have e2:(h++[MO.list []]++[MO.list [.str [],.none,.ref h.length,.bool Z,.none]]).length=h.length+2:=by simp
 have A0:At h.length h r ss (h++[MO.list []]++[MO.list [.str [],.none,.ref h.length,.bool Z,.none]]++[MO.list [.ref (h++[MO.list []]).length]]) (h++[MO.list []]++[MO.list [.str [],.none,.ref h.length,.bool Z,.none]]).length [⟨(h++[MO.list []]).length,h.length,[],bY,[],Z,bY⟩]:=by
  refine ⟨⟨ac _ _,λf hf=>?_,MP ..,λf hf=>?_,by rw [e2];exact by simp +arith only⟩,λi f e=>?_,KX _ _,KN rfl,aa (aa (aa (aj _))),oF _,hr,ten,gn⟩
  ·rw [iD.mp hf];exact ⟨ai (ac _ _),ai (ai (ac _ _))⟩
  ·rw [iD.mp hf,e1,e2];exact ⟨by show h.length<h.length+1;exact by simp +arith only,by show h.length≠h.length+2;lia,by show h.length+1≠h.length+2;lia,oF _⟩
  ·cases i with
   | zero=>cases e;exact ⟨trivial,Ko _,(λrs e=>by cases e),.inl rfl⟩
   | succ i=>cases e
 refine hK _ _ _ _ _ _ eH rfl rfl ?_
 conv=>whnf
 dsimp only [ec,MS.set,MS.push];refine aI (jg (af A0.pre hc)) ?_;generalize (h++[MO.list []]++[MO.list [.str [],.none,.ref h.length,.bool Z,.none]]).length=st at *;refine kn (λj w4 w5 w6 w7 hp fs=>⟨[J (.ref rc),J (.ref r),J (.int loose),J (.ref st),w4,w5,w6,w7],hp⟩) (λj w4 w5 w6 w7 hp fs=>At h.length h r ss hp st fs/\wts fs<=4+5 * j)
  _ _ _ _ _ _ rfl ⟨A0,oF 4⟩ (λ_ _ _ _ _ _ _ hI=>af hI.1.pre hc) (λj y w4 w5 w6 w7 hp fs P hy hI hn _=>?_) (λw4 w5 w6 w7 hp fs hI=>?_)
 ·obtain ⟨A,hw⟩:=hI;obtain ⟨z,hz1,rfl⟩:=mO hy;obtain ⟨c,hc1,rfl⟩:=EQ.mp (ID ..▸hz1);have hj:j<cells.length:=(iN.mp hc1).1;have hc':=af A.pre hc;have last:∀more mode:Int,mode=0\/mode=1\/mode=2->aA K M [.expr (.call 40 [.var 3,.var 1,.var 6,.var 7])] P (xin X) ⟨[J (.ref rc),J (.ref r),J (.int loose),J (.ref st),J (.int j),J (.int c),J (.int more),J (.int mode)],hp⟩:=λmore mode hm=>by
   refine Ji hK A (B:=2000) (by lia) (oF _) hM hm λhp' fs' A' hw'=>?_;exact hn _ _ _ _ _ _ ⟨A',n2 hw' hw⟩
  have second:∀more mode:Int,mode=0\/mode=1->aA K M [.ite (.and [.cmp .gt (.var 2) (.cst (.int 1)),.cmp .eq (.var 4) (.bin .mod (.var 2) (.blt .len [.var 0]))]) [.asg [7] Z (.cst (.int 2))] [],.expr (.call 40 [.var 3,.var 1,.var 6,.var 7])] P (xin X) ⟨[J (.ref rc),J (.ref r),J (.int loose),J (.ref st),J (.int j),J (.int c),J (.int more),J (.int mode)],hp⟩:=λmore mode hm=>by
   refine fw (iL (dM rfl .gt (.inr (.inl rfl))) λQ hq=>?_).1 (last more 2 (.inr (.inr rfl))) (last more mode (by lia));refine av hc' ?_;refine az (decide_eq_true (by rw [iF];exact kX (n1 hj))) ?_;exact hq _
  refine ⟨rfl,?_⟩;refine ⟨.inl (by unfold fC;decide),?_⟩;obtain ⟨M,rfl⟩:∃M',M=M'+1:=⟨M-1,sb (n1 hN)⟩
  refine cS hK ?_;refine ⟨.inl (xM _),?_⟩;refine cS hK ?_;change aA K (M+1) [_,_,_,_] P _ ⟨[J (.ref rc),J (.ref r),J (.int loose),J (.ref st),J (.int j),J (.int c),J (.int _),w7],hp⟩;refine fw (iL (dM rfl .eq (.inl rfl)) (qC rfl (by decide) (by decide) .eq (.inl rfl))).1 (second _ 1 (.inr rfl)) (second _ 0 (.inl rfl))
 ·refine e02 hI λA hw=>?_;rw [n9,iF] at hw;exact xN hK A (dO (nb rfl) hM) (B:=4+5 * cells.length) (by lia) hw hq
end
set_option genCtorIdx false in
structure St where
 es:List (List Nat × MV)
 turns:Nat
 said:List Int
set_option genCtorIdx false in
inductive gC where
 | nought (k:Int) | tired (k:Int)
gen_injective_theorems% gC
noncomputable abbrev mU:List Nat:=[110,111,117,103,104,116]
noncomputable abbrev Hr:List Nat:=[116,105,114,101,100]
noncomputable def gC.word:gC->List Nat
 | .nought _=>mU
 | .tired _=>Hr
noncomputable def gC.num:gC->Int
 | .nought k=>k
 | .tired k=>k
noncomputable def oD:Option gC->MV
 | none=>.none
 | some s=>.tup [.str s.word,.int s.num]
noncomputable def Rw.ft:Rw->Tm
 | .set _ t=>t
 | .tell t=>t
 | .skip=>.num 0
 | .ite t _ _=>t
 | .wh t _=>t
mutual
inductive EvR:Int->Rw->St->St->Option gC->Prop
 | skip {k s}:EvR k .skip s s bY
 | bad {k r s}:r≠.skip->rk s.es r.ft=bY->EvR k r s s (J (.nought k))
 | set {k x t v s}:rk s.es t=J v->EvR k (.set x t) s ⟨bH s.es x (.int v),s.turns,s.said⟩ bY
 | tell {k t v s}:rk s.es t=J v->EvR k (.tell t) s ⟨s.es,s.turns,s.said++[v]⟩ bY
 | yes {k t a b v s s' o}:rk s.es t=J v->v≠0->Ev (k+1) a s s' o->EvR k (.ite t a b) s s' o
 | no {k t a b s s' o}:rk s.es t=J 0->Ev (k+1+ao a) b s s' o->EvR k (.ite t a b) s s' o
 | done {k t a s}:rk s.es t=J 0->EvR k (.wh t a) s s bY
 | tired {k t a v s}:rk s.es t=J v->v≠0->s.turns=0->EvR k (.wh t a) s s (J (.tired k))
 | turn {k t a v n s s₁ s' o}:rk s.es t=J v->v≠0->s.turns=n+1->Ev (k+1) a ⟨s.es,n,s.said⟩ s₁ bY->EvR k (.wh t a) s₁ s' o->EvR k (.wh t a) s s' o
 | stop {k t a v n s s₁ q}:rk s.es t=J v->v≠0->s.turns=n+1->Ev (k+1) a ⟨s.es,n,s.said⟩ s₁ (J q)->EvR k (.wh t a) s s₁ (J q)
inductive Ev:Int->List Rw->St->St->Option gC->Prop
 | nil {k s}:Ev k [] s s bY
 | cons {k r rs s s₁ s' o}:EvR k r s s₁ bY->Ev (k+r.size) rs s₁ s' o->Ev k (r::rs) s s' o
 | stop {k r rs s s₁ q}:EvR k r s s₁ (J q)->Ev k (r::rs) s s₁ (J q)
end
theorem Ar (ih:∀m<n,∀(rs:List Rw) (k:Int) (s:St),s.turns=m->∃s' o,Ev k rs s s' o/\s'.turns<=s.turns)
  (ihw:∀m<n,∀(t:Tm) (a:List Rw) (k:Int) (s:St),s.turns=m->∃s' o,EvR k (.wh t a) s s' o/\s'.turns<=s.turns)
  (r:Rw) (hr:∀b∈r.subs,∀(k:Int) (s:St),s.turns=n->∃s' o,Ev k b s s' o/\s'.turns<=s.turns) (k:Int) (s:St) (hs:s.turns=n):∃s' o,EvR k r s s' o/\s'.turns<=s.turns:=by
 cases hv:rk s.es r.ft with
 | none=>
  by_cases hq:r=.skip
  ·subst hq;exact ⟨s,bY,.skip,oF _⟩
  ·exact ⟨s,_,.bad hq hv,oF _⟩
 | some v=>
  cases r with
  | set x t=>exact ⟨_,bY,.set hv,oF _⟩
  | tell t=>exact ⟨_,bY,.tell hv,oF _⟩
  | skip=>exact ⟨s,bY,.skip,oF _⟩
  | ite t a b=>
   by_cases h0:v=0
   ·subst h0;obtain ⟨s',o,h1,h2⟩:=hr b (.tail _ (.head _)) (k+1+ao a) s hs;exact ⟨s',o,.no hv h1,h2⟩
   ·obtain ⟨s',o,h1,h2⟩:=hr a (.head _) (k+1) s hs;exact ⟨s',o,.yes hv h0 h1,h2⟩
  | wh t a=>
   by_cases h0:v=0
   ·subst h0;exact ⟨s,bY,.done hv,oF _⟩
   ·cases n with
    | zero=>exact ⟨s,_,.tired hv h0 hs,oF _⟩
    | succ n=>
     obtain ⟨s₁,o,h1,h2⟩:=ih n (Lp n) a (k+1) ⟨s.es,n,s.said⟩ rfl;replace h2:s₁.turns<=n:=h2
     cases o with
     | some q=>exact ⟨s₁,_,.stop hv h0 hs h1,n2 h2 (Km hs.symm)⟩
     | none=>
      obtain ⟨s',o,h3,h4⟩:=ihw s₁.turns (n1 h2) t a k s₁ rfl;exact ⟨s',o,.turn hv h0 hs h1 h3,n3 h4 h2 (Km hs.symm)⟩
theorem qH:∀(rs:List Rw),(∀r∈rs,∀m≤n,∀(k:Int) (s:St),s.turns=m->∃s' o,EvR k r s s' o/\s'.turns<=s.turns)->∀m≤n,∀(k:Int) (s:St),s.turns=m->∃s' o,Ev k rs s s' o/\s'.turns<=s.turns
 | [],_,m,_,k,s,_=>⟨s,bY,.nil,oF _⟩
 | r::rs,h,m,hm,k,s,hs=>by
  obtain ⟨s₁,o,h1,h2⟩:=h r (.head _) m hm k s hs
  cases o with
  | some q=>exact ⟨s₁,_,.stop h1,h2⟩
  | none=>
   obtain ⟨s',o,h3,h4⟩:=qH rs (λr hr=>h r (.tail _ hr)) s₁.turns (n3 h2 (Km hs) hm) (k+r.size) s₁ rfl;exact ⟨s',o,.cons h1 h3,dO h4 h2⟩
theorem Dz (n:Nat):∀m≤n,∀(rs:List Rw) (k:Int) (s:St),s.turns=m->∃s' o,Ev k rs s s' o/\s'.turns<=s.turns:=by
 induction n with
 | zero=>
  intro m hm rs;have hm:m=0:=Ou.mp hm;subst hm;refine dc (P:=λrs=>∀(k:Int) (s:St),s.turns=0->∃s' o,Ev k rs s s' o/\s'.turns<=s.turns) (λrs ihb k s hs=>?_) rs;refine qH (n:=0) rs (λr hr m hm k s hs=>?_) 0 (oF _) k s hs;have hm:m=0:=Ou.mp hm;subst hm;exact Ar (n:=0) (λm hm=>absurd hm (Mu _)) (λm hm=>absurd hm (Mu _)) r (ihb r hr) k s hs
 | succ n ih=>
  intro m hm rs
  rcases LO m (n+1) with hlt | hge
  ·exact ih m (LK hlt) rs
  ·have hm:m=n+1:=NA hm hge;subst hm;have one:∀{r:Rw} {k:Int} {s s':St} {o:Option gC},Ev k [r] s s' o->EvR k r s s' o:=λ{r k s s' o} h=>by
    cases h with
    | cons h1 h2=>cases h2;exact h1
    | stop h1=>exact h1
   have ihw:∀m<n+1,∀(t:Tm) (a:List Rw) (k:Int) (s:St),s.turns=m->∃s' o,EvR k (.wh t a) s s' o/\s'.turns<=s.turns:=λm hm t a k s hs=>by
    obtain ⟨s',o,h1,h2⟩:=ih m (LK hm) [.wh t a] k s hs;exact ⟨s',o,one h1,h2⟩
   have ih':∀m<n+1,∀(rs:List Rw) (k:Int) (s:St),s.turns=m->∃s' o,Ev k rs s s' o/\s'.turns<=s.turns:=λm hm=>ih m (LK hm);refine dc (P:=λrs=>∀(k:Int) (s:St),s.turns=n+1->∃s' o,Ev k rs s s' o/\s'.turns<=s.turns) (λrs ihb k s hs=>?_) rs;refine qH (n:=n+1) rs (λr hr m hm k s hs=>?_) (n+1) (oF _) k s hs
   rcases LO m (n+1) with hlt | hge
   ·obtain ⟨s',o,h1,h2⟩:=ih' m hlt [r] k s hs;exact ⟨s',o,one h1,h2⟩
   ·have hm:m=n+1:=NA hm hge;subst hm;exact Ar ih' ihw r (ihb r hr) k s hs
theorem uh (rs:List Rw)(k:Int)(s:St):∃s' o,Ev k rs s s' o/\s'.turns<=s.turns:=Dz s.turns s.turns (oF _) rs k s rfl
theorem lG:∀(es:List (List Nat × MV)) (x:List Nat) (v:MV) (k:List Nat),aN (bH es x v) k=if k=x then J v else aN es k
 | [],x,v,k=>by
  show (match x==k with | true=>J v | false=>bY)=_;by_cases e:k=x
  ·subst e;rw [beq_self_eq_true,if_pos rfl]
  ·rw [if_neg e,beq_eq_false_iff_ne.mpr (LP e)];rfl
 | (y,w)::r,x,v,k=>by
  have ih:=lG r x v k;by_cases e:y=x
  ·subst e;show aN (match y==y with | true=>(y,v)::r | false=>(y,w)::bH r y v) k=_;rw [beq_self_eq_true];show (match y==k with | true=>J v | false=>aN r k)=if k=y then J v else (match y==k with | true=>J w | false=>aN r k)
   by_cases e2:k=y
   ·subst e2;rw [beq_self_eq_true,if_pos rfl]
   ·rw [if_neg e2,beq_eq_false_iff_ne.mpr (LP e2)]
  ·show aN (match y==x with | true=>(y,v)::r | false=>(y,w)::bH r x v) k=_;rw [beq_eq_false_iff_ne.mpr e];show (match y==k with | true=>J w | false=>aN (bH r x v) k)=if k=x then J v else (match y==k with | true=>J w | false=>aN r k)
   by_cases e2:y=k
   ·subst e2;rw [beq_self_eq_true,if_neg e]
   ·rw [beq_eq_false_iff_ne.mpr e2];exact ih
theorem fY:∀{es:List (List Nat × MV)}{k:List Nat}{v w:MV},aN es k=J w->(bH es k v).map (·.1)=es.map (·.1)
 | [],k,v,w,h=>aJ h
 | (a,u)::es,k,v,w,h=>by
  replace h:(match a==k with | true=>J u | false=>aN es k)=J w:=h;show (match a==k with | true=>(a,v)::es | false=>(a,u)::bH es k v:List (List Nat × MV)).map (·.1)=a::es.map (·.1)
  cases q:a==k with
  | true=>rfl
  | false=>
   rw [q] at h;show a::(bH es k v).map (·.1)=_;rw [fY h]
mutual
noncomputable def Rw.okp (p:List Nat->Prop):Rw->Prop
 | .set s t=>p s/\t.ok p
 | .tell t=>t.ok p
 | .skip=>True
 | .ite t a b=>t.ok p/\eX p a/\eX p b
 | .wh t a=>t.ok p/\eX p a
noncomputable def eX (p:List Nat->Prop):List Rw->Prop
 | []=>True
 | r::rs=>r.okp p/\eX p rs
end
theorem lH {r:Rw}(h:r.okp p)(hr:r≠.skip):r.ft.ok p:=by
 cases r with
 | set s t=>exact h.2
 | tell t=>exact h
 | skip=>exact absurd rfl hr
 | ite t a b=>exact h.1
 | wh t a=>exact h.1
noncomputable def bnd (M:Nat)(s:St):Nat:=s.said.length+s.turns * M
structure Kp (p:List Nat->Prop)(M z:Nat)(s s':St):Prop where
 good:bo s'.es p
 keys:s'.es.map (·.1)=s.es.map (·.1)
 bnd:bnd M s'<=bnd M s+z
theorem Kp.refl (g:bo s.es p):Kp p M z s s:=⟨g,rfl,K5 _ _⟩
theorem As (g:bo es p)(hv:In6 v):bo (bH es x (.int v)) p:=λs hs=>by
 rw [lG];by_cases e:s=x
 ·rw [if_pos e];exact ⟨v,rfl,hv⟩
 ·rw [if_neg e];exact g s hs
theorem dN (p:List Nat->Prop)(M:Nat):(∀{k r s s' o},EvR k r s s' o->r.okp p->r.size<=M->bo s.es p->Kp p M r.size s s')/\(∀{k rs s s' o},Ev k rs s s' o->eX p rs->ao rs<=M->bo s.es p->Kp p M (ao rs) s s'):=by
 have c3:∀{x:List Nat} {t:Tm} {v:Int} {s:St},rk s.es t=J v->(Rw.set x t).okp p->(Rw.set x t).size<=M->bo s.es p->Kp p M (Rw.set x t).size s ⟨bH s.es x (.int v),s.turns,s.said⟩:=λ{x t v s} hv ho hz g=>by
  obtain ⟨w,h1,_⟩:=g x ho.1;exact ⟨As g (sq g ho.2 hv),fY h1,K5 _ _⟩
 have c4:∀{t:Tm} {v:Int} {s:St},rk s.es t=J v->(Rw.tell t).okp p->(Rw.tell t).size<=M->bo s.es p->Kp p M (Rw.tell t).size s ⟨s.es,s.turns,s.said++[v]⟩:=λ{t v s} hv ho hz g=>by
  refine ⟨g,rfl,?_⟩;show (s.said++[v]).length+s.turns * M<=s.said.length+s.turns * M+1;rw [eQ,Kx];exact by simp +arith only
 have c5:∀{k t a b v s s' o},rk s.es t=J v->v≠0->Ev (k+1) a s s' o->(eX p a->ao a<=M->bo s.es p->Kp p M (ao a) s s')->(Rw.ite t a b).okp p->(Rw.ite t a b).size<=M->bo s.es p->Kp p M (Rw.ite t a b).size s s':=λ{k t a b v s s' o} _ _ _ ih ho hz g=>by
  have hz:ao a+ao b+1<=M:=hz;obtain ⟨h1,h2,h3⟩:=ih ho.2.1 (n1 hz) g;exact ⟨h1,h2,by show bnd M s'<=bnd M s+(ao a+ao b+1);exact n1 h3⟩
 have c6:∀{k:Int} {t a b s s' o},rk s.es t=J 0->Ev (k+1+ao a) b s s' o->(eX p b->ao b<=M->bo s.es p->Kp p M (ao b) s s')->(Rw.ite t a b).okp p->(Rw.ite t a b).size<=M->bo s.es p->Kp p M (Rw.ite t a b).size s s':=λ{k t a b s s' o} _ _ ih ho hz g=>by
  have hz:ao a+ao b+1<=M:=hz;obtain ⟨h1,h2,h3⟩:=ih ho.2.2 (n1 hz) g;exact ⟨h1,h2,by show bnd M s'<=bnd M s+(ao a+ao b+1);exact n1 h3⟩
 have dec:∀{s:St} {n z:Nat},s.turns=n+1->z<=M->bnd M ⟨s.es,n,s.said⟩+z<=bnd M s:=λ{s n z} hs hz=>by
  show s.said.length+n * M+z<=s.said.length+s.turns * M;rw [hs,OY];exact n1 hz
 have c9:∀{k t a v n s s₁ s' o},rk s.es t=J v->v≠0->s.turns=n+1->Ev (k+1) a ⟨s.es,n,s.said⟩ s₁ bY->EvR k (.wh t a) s₁ s' o->(eX p a->ao a<=M->bo s.es p->Kp p M (ao a) ⟨s.es,n,s.said⟩ s₁)->((Rw.wh t a).okp p->(Rw.wh t a).size<=M->bo s₁.es p->Kp p M (Rw.wh t a).size s₁ s')->
   (Rw.wh t a).okp p->(Rw.wh t a).size<=M->bo s.es p->Kp p M (Rw.wh t a).size s s':=λ{k t a v n s s₁ s' o} _ _ hs _ _ ih1 ih2 ho hz g=>by
  have hz':ao a+1<=M:=hz;obtain ⟨h1,h2,h3⟩:=ih1 ho.2 (n1 hz') g;obtain ⟨h4,h5,h6⟩:=ih2 ho hz h1;have:=dec hs (show ao a<=M by lia);exact ⟨h4,h5.trans h2,n3 this h6 h3⟩
 have c10:∀{k t a v n s s₁ q},rk s.es t=J v->v≠0->s.turns=n+1->Ev (k+1) a ⟨s.es,n,s.said⟩ s₁ (J q)->(eX p a->ao a<=M->bo s.es p->Kp p M (ao a) ⟨s.es,n,s.said⟩ s₁)->
   (Rw.wh t a).okp p->(Rw.wh t a).size<=M->bo s.es p->Kp p M (Rw.wh t a).size s s₁:=λ{k t a v n s s₁ q} _ _ hs _ ih1 ho hz g=>by
  have hz':ao a+1<=M:=hz;obtain ⟨h1,h2,h3⟩:=ih1 ho.2 (n1 hz') g;have:=dec hs (show ao a<=M by lia);exact ⟨h1,h2,n2 this h3⟩
 have c12:∀{k:Int} {r:Rw} {rs s s₁ s' o},EvR k r s s₁ bY->Ev (k+r.size) rs s₁ s' o->(r.okp p->r.size<=M->bo s.es p->Kp p M r.size s s₁)->(eX p rs->ao rs<=M->bo s₁.es p->Kp p M (ao rs) s₁ s')->eX p (r::rs)->ao (r::rs)<=M->bo s.es p->Kp p M (ao (r::rs)) s s':=λ{k r rs s s₁ s' o} _ _ ih1 ih2 ho hz g=>by
  have hz:r.size+ao rs<=M:=hz;obtain ⟨h1,h2,h3⟩:=ih1 ho.1 (n1 hz) g;obtain ⟨h4,h5,h6⟩:=ih2 ho.2 (n1 hz) h1;exact ⟨h4,h5.trans h2,by show bnd M s'<=bnd M s+(r.size+ao rs);exact n2 h6 h3⟩
 have c13:∀{k:Int} {r:Rw} {rs s s₁ q},EvR k r s s₁ (J q)->(r.okp p->r.size<=M->bo s.es p->Kp p M r.size s s₁)->eX p (r::rs)->ao (r::rs)<=M->bo s.es p->Kp p M (ao (r::rs)) s s₁:=λ{k r rs s s₁ q} _ ih1 ho hz g=>by
  have hz:r.size+ao rs<=M:=hz;obtain ⟨h1,h2,h3⟩:=ih1 ho.1 (n1 hz) g;exact ⟨h1,h2,by show bnd M s₁<=bnd M s+(r.size+ao rs);exact n1 h3⟩
 refine ⟨λh=>EvR.rec (motive_1:=λk r s s' o _=>r.okp p->r.size<=M->bo s.es p->Kp p M r.size s s') (motive_2:=λk rs s s' o _=>eX p rs->ao rs<=M->bo s.es p->Kp p M (ao rs) s s') (λ_ _ g=>.refl g) (λ_ _ _ _ g=>.refl g) c3 c4 c5 c6 (λ_ _ _ g=>.refl g) (λ_ _ _ _ _ g=>.refl g) c9 c10 (λ_ _ g=>.refl g) c12 c13 h,
  λh=>Ev.rec (motive_1:=λk r s s' o _=>r.okp p->r.size<=M->bo s.es p->Kp p M r.size s s') (motive_2:=λk rs s s' o _=>eX p rs->ao rs<=M->bo s.es p->Kp p M (ao rs) s s') (λ_ _ g=>.refl g) (λ_ _ _ _ g=>.refl g) c3 c4 c5 c6 (λ_ _ _ g=>.refl g) (λ_ _ _ _ _ g=>.refl g) c9 c10 (λ_ _ g=>.refl g) c12 c13 h⟩
structure ex (hp:List MO)(ri x y:Nat)(s:St):Prop where
 a:hp[ri]?=J (.attrs [(be,.ref x),(dL,.int s.turns),(pK,.ref y)])
 d:hp[x]?=J (.dict s.es)
 l:hp[y]?=J (.list (s.said.map .int))
noncomputable def Kps (ri x y:Nat)(h h':List MO):Prop:=∀(j:Nat) (o:MO),j≠ri->j≠x->j≠y->h[j]?=J o->h'[j]?=J o
theorem Kps.refl (h:List MO):Kps ri x y h h:=λ_ _ _ _ _ e=>e
theorem Kps.trans (a:Kps ri x y h h')(b:Kps ri x y h' h''):Kps ri x y h h'':=λj o h1 h2 h3 e=>b j o h1 h2 h3 (a j o h1 h2 h3 e)
theorem Kps.pre (e:h<+:h'):Kps ri x y h h':=λ_ _ _ _ _ q=>af e q
theorem ex.pre (r:ex h ri x y s)(e:h<+:h'):ex h' ri x y s:=⟨af e r.a,af e r.d,af e r.l⟩
structure Au (p:List Nat->Prop)(M:Nat)(r:Rw)(s:St):Prop where
 good:r.good
 okp:r.okp p
 size:r.size<=M
 nest:r.nest<=50
 env:bo s.es p
 len:s.es.length<=1000
 bnd:bnd M s+r.size<=1000000
structure EF (p:List Nat->Prop)(M:Nat)(rs:List Rw)(s:St):Prop where
 good:b0 rs
 okp:eX p rs
 size:ao rs<=M
 nest:ak rs<=50
 env:bo s.es p
 len:s.es.length<=1000
 bnd:bnd M s+ao rs<=1000000
theorem sC {a b:List (List Nat × MV)}(h:a.map (·.1)=b.map (·.1)):a.length=b.length:=by
 have:=congrArg Nh h;rw [iF,iF] at this;exact this
theorem DA (r:Rw):((nums 1 [] [r]).map cT).length=r.size:=by rw [iF,bE];exact Ps _
noncomputable def Av (s:Option MSt):List MSt:=match s with
 | some (.while_ _ b)=>b
 | some (.for_ _ _ _ _ b)=>b
 | _=>[]
noncomputable abbrev jE:List MSt:=Av di.body[0]?
noncomputable abbrev Ke:List MSt:=Av dh.body[1]?
section
variable (K:KT) (ri x y:Nat) (p:List Nat->Prop) (M:Nat)
noncomputable def iO (k:Int)(r:Rw)(s s':St)(o:Option gC):Prop:=∀⦃N:Nat⦄ ⦃Q:MV->List MO->Prop⦄ ⦃X:XT⦄ ⦃h:List MO⦄,ex h ri x y s->Au p M r s->3 * r.nest+13<N->(∀h',Kps ri x y h h'->ex h' ri x y s'->Q (oD o) h')->K N 85 [.inst 1 ri,r.mv,.int k] Q X h
noncomputable def fy (k:Int)(t:Tm)(a:List Rw)(s s':St)(o:Option gC):Prop:=∃n,∀⦃N:Nat⦄ ⦃P:Fl->MS->Prop⦄ ⦃X:XM⦄ ⦃h:List MO⦄ ⦃w3 w4:Option MV⦄,ex h ri x y s->Au p M (.wh t a) s->3 * ak a+14<N->
 (∀h' v3 v4,Kps ri x y h h'->ex h' ri x y s'->P (.ret (oD o)) ⟨[J (.inst 1 ri),J (Rw.wh t a).mv,J (.int k),v3,v4],h'⟩)->
  cz (λP m=>wpE K N (.cst (.bool aT)) (bX P) X m) (λP m=>aA K N jE P X m) P n ⟨[J (.inst 1 ri),J (Rw.wh t a).mv,J (.int k),w3,w4],h⟩
noncomputable def jo (k:Int)(rs:List Rw)(s s':St)(o:Option gC):Prop:=∀⦃N:Nat⦄ ⦃P:Fl->MS->Prop⦄ ⦃X:XM⦄ ⦃h:List MO⦄ ⦃u f w4 w5:Option MV⦄,ex h ri x y s->EF p M rs s->3 * ak rs+13<N->
 (∀h' k' v4 v5,Kps ri x y h h'->ex h' ri x y s'->P (match o with | none=>.next | some q=>.ret (oD (J q))) ⟨[J (.inst 1 ri),u,f,J (.int k'),v4,v5],h'⟩)->
  fb bY (λv P m=>asg [4] Z v (λm=>aA K N Ke P X m) m) P (mvs rs) ⟨[J (.inst 1 ri),u,f,J (.int k),w4,w5],h⟩
end
section
variable (hK:aD PP K) {ri x y:Nat}(d1:ri≠x) (d2:ri≠y) (d3:x≠y)
include hK
theorem jj (hf:jo K ri x y p M k rs s s' o)(R:ex h ri x y s)(C:EF p M rs s)(hN:3 * ak rs+14<N)
  (hq:∀h',Kps ri x y h h'->ex h' ri x y s'->Q (oD o) h'):K N 84 [.inst 1 ri,.tup (mvs rs),.int k] Q X h:=by
 obtain ⟨m,rfl,hM⟩:=room hN;refine hK _ _ _ _ _ _ dh rfl rfl ?_;refine hf R C (hM) λh' k' v4 v5 q1 q2=>?_
 cases o with
 | none=>exact hq h' q1 q2
 | some q=>exact hq h' q1 q2
omit hK in
theorem DB:jo K ri x y p M k [] s s bY:=by
 intro N P X h u f w4 w5 R C hN hq;show fb _ _ _ [] _;rw [m7];exact ⟨trivial,hq h k w4 w5 (.refl _) R⟩
theorem Aw {r:Rw}(he:EvR k r s s₁ bY)(hr:iO K ri x y p M k r s s₁ bY)(hf:jo K ri x y p M (k+r.size) rs s₁ s' o):jo K ri x y p M k (r::rs) s s' o:=by
 intro N P X h u f w4 w5 R C hN hq;obtain ⟨g,ok,sz,ne,en,ln,bd⟩:=C;have sz:r.size+ao rs<=M:=sz;have bd:bnd M s+(r.size+ao rs)<=1000000:=bd;have ne:max r.nest (ak rs)<=50:=ne;have hN:3 * max r.nest (ak rs)+13<N:=hN;obtain ⟨k1,k2,k3⟩:=(dN p M).1 he ok.1 (n1 sz) en;show fb _ _ _ (r.mv::mvs rs) _;rw [iV];refine ⟨trivial,?_⟩;refine az (eV R.a rfl) ?_;refine hr R ⟨g.1,ok.1,n1 sz,n2 ne (KF r.nest (ak rs)),en,ln,n1 bd⟩ (m3l hN) λh2 q2 R2=>?_;refine fv hK [r] (k:=1) (ab:=[]) (by show r.size+0<=_;exact n1 bd) (by show 0+max r.nest 0<=_;rw [L5];exact mx0 (dO (KF ..) (lk ne rfl))) (n2 (KF r.nest (ak rs)) hN (by show max r.nest 0+1+1+_<=_;rw [Nat.max_zero];exact by simp +arith only)) λh3 p3 e3=>?_;have p3:h2<+:h3:=p3;refine av e3 ?_;rw [DA];exact hf (R2.pre p3) ⟨g.2,ok.2,n1 sz,n2 ne (KI r.nest (ak rs)),k1,by rw [sC k2];exact ln,n2 k3 bd⟩ (m3r hN) λh' k' v4 v5 q1 R'=>hq h' k' v4 v5 ((q2.trans (.pre p3)).trans q1) R'
theorem Ax (hr:iO K ri x y p M k r s s₁ (J q)):jo K ri x y p M k (r::rs) s s₁ (J q):=by
 intro N P X h u f w4 w5 R C hN hq;obtain ⟨g,ok,sz,ne,en,ln,bd⟩:=C;have sz:r.size+ao rs<=M:=sz;have bd:bnd M s+(r.size+ao rs)<=1000000:=bd;have ne:max r.nest (ak rs)<=50:=ne;have hN:3 * max r.nest (ak rs)+13<N:=hN;show fb _ _ _ (r.mv::mvs rs) _;rw [iV];refine ⟨trivial,?_⟩;refine az (eV R.a rfl) ?_;refine hr R ⟨g.1,ok.1,n1 sz,n2 ne (KF r.nest (ak rs)),en,ln,n1 bd⟩ (m3l hN) λh2 q2 R2=>?_;exact hq h2 k _ _ q2 R2
end
theorem DC {r:Rw}(h:r.good):r.ft.deep<=3:=by
 cases r with
 | set s t=>exact h.2.2
 | tell t=>exact h.2
 | skip=>exact Ko _
 | ite t a b=>exact h.1.2
 | wh t a=>exact h.1.2
theorem lI (h:rk es t=J v):ofO (rk es t)=.int v:=by rw [h];rfl
section
variable (hK:aD PP K) {ri x y:Nat}(d1:ri≠x) (d2:ri≠y) (d3:x≠y)
omit hK in
theorem Ay (hK:aD PP K):iO K ri x y p M k .skip s s bY:=by
 intro N Q X h R C hN hq;obtain ⟨m,rfl,hM⟩:=room hN;refine hK _ _ _ _ _ _ bK rfl rfl ?_;exact hq h (.refl _) R
include hK
theorem kK (h1:r≠.skip)(h2:∀t a,r≠.wh t a)(R:ex h ri x y s)(C:Au p M r s)(hN:7<N)
  (hq:aA K N (bK.body.drop 3) (fin Q) (xin X) ⟨[J (.inst 1 ri),J r.mv,J (.int k),J (ofO (rk s.es r.ft))],h⟩):K (N+1) 85 [.inst 1 ri,r.mv,.int k] Q X h:=by
 refine hK _ _ _ _ _ _ bK rfl rfl ?_;have hd:=DC C.good;have ho:=lH C.okp h1
 cases r with
 | skip=>exact absurd rfl h1
 | wh t a=>exact absurd rfl (h2 t a)
 | set z t=>
  refine mj hK (gv (jD (n:=0) (.set z t))) (dO (nb rfl) hN) ?_;refine aZ R.a ?_;exact qw hK C.env t (by show t.deep+2<=N;have:t.deep<=3:=hd;exact n2 this hN) R.d ho hq
 | tell t=>
  refine mj hK (gv (jD (n:=0) (.tell t))) (dO (nb rfl) hN) ?_;refine aZ R.a ?_;exact qw hK C.env t (by show t.deep+2<=N;have:t.deep<=3:=hd;exact n2 this hN) R.d ho hq
 | ite t a b=>
  refine mj hK (gv (jD (n:=0) (.ite t a b))) (dO (nb rfl) hN) ?_;refine aZ R.a ?_;exact qw hK C.env t (by show t.deep+2<=N;have:t.deep<=3:=hd;exact n2 this hN) R.d ho hq
theorem DD (h1:r≠.skip)(h2:∀t a,r≠.wh t a)(hv:rk s.es r.ft=bY):iO K ri x y p M k r s s (J (.nought k)):=by
 intro N Q X h R C hN hq;obtain ⟨m,rfl,hM⟩:=room hN;refine kK hK h1 h2 R C (n1 hN) ?_;rw [hv];exact hq h (.refl _) R
include d1 d3 in
theorem DE (hv:rk s.es t=J v):iO K ri x y p M k (.set z t) s ⟨bH s.es z (.int v),s.turns,s.said⟩ bY:=by
 intro N Q X h R C hN hq;obtain ⟨m,rfl,hM⟩:=room hN;refine kK hK (by intro q;cases q) (by intro _ _ q;cases q) R C (n1 hN) ?_;rw [show ofO (rk s.es (Rw.set z t).ft)=.int v from lI hv];refine aZ R.a ?_;refine bT R.d ⟨Kn C.len (by decide),?_⟩;exact hq _ (λj o h1 h2 h3 e=>ap (LP h2) e) ⟨ap (LP d1) R.a,get_set R.d,ap d3 R.l⟩
include d2 d3 in
theorem Az (hv:rk s.es t=J v):iO K ri x y p M k (.tell t) s ⟨s.es,s.turns,s.said++[v]⟩ bY:=by
 intro N Q X h R C hN hq;obtain ⟨m,rfl,hM⟩:=room hN;refine kK hK (by intro q;cases q) (by intro _ _ q;cases q) R C (n1 hN) ?_;rw [show ofO (rk s.es (Rw.tell t).ft)=.int v from lI hv];refine aZ R.a ?_;refine az (aH R.l) ?_;refine aV (aU R.l) ⟨?_,?_⟩
 ·have:=C.bnd;have:s.said.length<=1000000:=by unfold bnd at this;exact n1 this
  rw [iF];exact Kn this (by decide)
 ·exact hq _ (λj o h1 h2 h3 e=>ap (LP h3) e) ⟨ap (LP d2) R.a,ap (LP d3) R.d,by rw [KB];exact get_set R.l⟩
theorem DF (hv:rk s.es t=J v)(h0:v≠0)(hf:jo K ri x y p M (k+1) a s s' o):iO K ri x y p M k (.ite t a b) s s' o:=by
 intro N Q X h R C hN hq;obtain ⟨m,rfl,hM⟩:=room hN;refine kK hK (by intro q;cases q) (by intro _ _ q;cases q) R C (n1 hN) ?_;rw [show ofO (rk s.es (Rw.ite t a b).ft)=.int v from lI hv];obtain ⟨g,ok,sz,ne,en,ln,bd⟩:=C;have sz:ao a+ao b+1<=M:=sz;have bd:bnd M s+(ao a+ao b+1)<=1000000:=bd;have ne:max (ak a) (ak b)+1<=50:=ne;have hM:3 * (max (ak a) (ak b)+1)+13<=m:=hM
 conv=>whnf
 rw [show (v==0)=Z from beq_eq_false_iff_ne.mpr h0];refine az (eV R.a rfl) ?_;exact jj hK hf R ⟨g.2.1,ok.2.1,n1 sz,n2 ne (KF (ak a) (ak b)),en,ln,n1 bd⟩ (n2 hM (KP 3 (KF (ak a) (ak b)))) λh' q R'=>hq h' q R'
theorem Hs (hv:rk s.es t=J 0)(hf:jo K ri x y p M (k+1+ao a) b s s' o):iO K ri x y p M k (.ite t a b) s s' o:=by
 intro N Q X h R C hN hq;obtain ⟨m,rfl,hM⟩:=room hN;refine kK hK (by intro q;cases q) (by intro _ _ q;cases q) R C (n1 hN) ?_;rw [show ofO (rk s.es (Rw.ite t a b).ft)=.int 0 from lI hv];obtain ⟨g,ok,sz,ne,en,ln,bd⟩:=C;have sz:ao a+ao b+1<=M:=sz;have bd:bnd M s+(ao a+ao b+1)<=1000000:=bd;have ne:max (ak a) (ak b)+1<=50:=ne;have hM:3 * (max (ak a) (ak b)+1)+13<=m:=hM;refine az (eV R.a rfl) ?_;refine fv hK a (k:=1) (ab:=[]) (n1 bd) (by show 0+ak a<=_;exact n2 ne (KF (ak a) (ak b))) (n2 hM (KF (ak a) (ak b))) λh3 p3 e3=>?_;have p3:h<+:h3:=p3;refine av e3 ?_;rw [iF,bE];exact jj hK hf (R.pre p3) ⟨g.2.2,ok.2.2,n1 sz,n2 ne (KI (ak a) (ak b)),en,ln,n1 bd⟩ (n2 hM (KP 3 (KI (ak a) (ak b)))) λh' q R'=>hq h' ((Kps.pre p3).trans q) R'
theorem Ht (hl:fy K ri x y p M k t a s s' o):iO K ri x y p M k (.wh t a) s s' o:=by
 intro N Q X h R C hN hq;obtain ⟨n,hl⟩:=hl;obtain ⟨m,rfl,hM⟩:=room hN;have hM:3 * (ak a+1)+13<=m:=hM;refine hK _ _ _ _ _ _ bK rfl rfl ?_;refine az (eV R.a rfl) ?_;obtain ⟨m,rfl,hM⟩:=room (k:=3 * (ak a+1)+12) (show 3 * (ak a+1)+12<m from hM);refine hK _ _ _ _ _ _ di rfl rfl ?_;exact ⟨n,hl R C (n1 hM) λh' v3 v4 q R'=>hq h' q R'⟩
theorem kL (R:ex h ri x y s)(C:Au p M (.wh t a) s)(hN:6<N)
  (hq:aA K N (jE.drop 1) (λf m=>match f with
   | .next=>cz (λP m=>wpE K N (.cst (.bool aT)) (bX P) X m) (λP m=>aA K N jE P X m) P n m
   | .cont=>cz (λP m=>wpE K N (.cst (.bool aT)) (bX P) X m) (λP m=>aA K N jE P X m) P n m
   | .brk=>P .next m
   | .ret r=>P (.ret r) m) X ⟨[J (.inst 1 ri),J (Rw.wh t a).mv,J (.int k),J (ofO (rk s.es t)),w4],h⟩) :
  cz (λP m=>wpE K N (.cst (.bool aT)) (bX P) X m) (λP m=>aA K N jE P X m) P (n+1) ⟨[J (.inst 1 ri),J (Rw.wh t a).mv,J (.int k),w3,w4],h⟩:=by
 rw [hO];refine aZ R.a ?_;exact qw hK C.env t (by have:t.deep<=3:=C.good.1.2;exact n2 this hN) R.d C.okp.1 hq
end
section
variable (hK:aD PP K) {ri x y:Nat}(d1:ri≠x) (d2:ri≠y) (d3:x≠y)
include hK
theorem AA (hv:rk s.es t=bY):fy K ri x y p M k t a s s (J (.nought k)):=⟨1,by
 intro N P X h w3 w4 R C hN hq;refine kL hK R C (n1 hN) ?_;rw [hv];exact hq h _ _ (.refl _) R⟩
theorem xO (hv:rk s.es t=J 0):fy K ri x y p M k t a s s bY:=⟨1,by
 intro N P X h w3 w4 R C hN hq;refine kL hK R C (n1 hN) ?_;rw [hv];exact hq h _ _ (.refl _) R⟩
theorem ui (hv:rk s.es t=J v)(h0:v≠0)(hs:s.turns=0):fy K ri x y p M k t a s s (J (.tired k)):=⟨1,by
 intro N P X h w3 w4 R C hN hq;refine kL hK R C (n1 hN) ?_;rw [lI hv]
 conv=>whnf
 rw [show (v==0)=Z from beq_eq_false_iff_ne.mpr h0];refine aZ R.a ?_;rw [hs];exact hq h _ _ (.refl _) R⟩
include d1 d2 in
theorem vt (hv:rk s.es t=J v)(h0:v≠0)(hs:s.turns=n+1)(hf:jo K ri x y p M (k+1) a ⟨s.es,n,s.said⟩ s₁ o)(R:ex h ri x y s)(C:Au p M (.wh t a) s)(hN:3 * ak a+14<N)
  (hq:∀h',Kps ri x y h h'->ex h' ri x y s₁->aA K N (jE.drop 6) (λf m=>match f with
   | .next=>cz (λP m=>wpE K N (.cst (.bool aT)) (bX P) X m) (λP m=>aA K N jE P X m) P q m
   | .cont=>cz (λP m=>wpE K N (.cst (.bool aT)) (bX P) X m) (λP m=>aA K N jE P X m) P q m
   | .brk=>P .next m
   | .ret r=>P (.ret r) m) X ⟨[J (.inst 1 ri),J (Rw.wh t a).mv,J (.int k),J (.int v),J (oD o)],h'⟩) :
  cz (λP m=>wpE K N (.cst (.bool aT)) (bX P) X m) (λP m=>aA K N jE P X m) P (q+1) ⟨[J (.inst 1 ri),J (Rw.wh t a).mv,J (.int k),w3,w4],h⟩:=by
 refine kL hK R C (n1 hN) ?_;rw [lI hv]
 conv=>whnf
 rw [show (v==0)=Z from beq_eq_false_iff_ne.mpr h0];refine aZ R.a ?_
 conv=>whnf
 rw [show (((s.turns:Nat):Int)==0)=Z from beq_eq_false_iff_ne.mpr (cne (n1 (Km hs.symm)))];refine aZ R.a ?_;refine aZ R.a ⟨(by decide:3<1000),?_⟩;have R1:ex (h.set ri (.attrs [(be,.ref x),(dL,.int ((s.turns:Int)-1)),(pK,.ref y)])) ri x y ⟨s.es,n,s.said⟩:=by
  refine ⟨?_,ap d1 R.d,ap d2 R.l⟩;rw [get_set R.a];have:((s.turns:Nat):Int)-1=(n:Nat):=by lia
  rw [this]
 change aA K N (jE.drop 5) _ X ⟨_,h.set ri (.attrs [(be,.ref x),(dL,.int ((s.turns:Int)-1)),(pK,.ref y)])⟩;have k1:Kps ri x y h (h.set ri (.attrs [(be,.ref x),(dL,.int ((s.turns:Int)-1)),(pK,.ref y)])):=λj o h1 _ _ e=>ap (LP h1) e;generalize h.set ri (.attrs [(be,.ref x),(dL,.int ((s.turns:Int)-1)),(pK,.ref y)])=h1 at *;refine az (eV R1.a rfl) ?_;refine kE hK (h:=h1) (gv (jD (n:=0) (.wh t a))) (n1 hN) λus hus=>?_;obtain ⟨u,us',rfl,hb,rfl⟩:=hus;have hb:=pI a hb;subst hb;refine ae (ac _ _) ?_;obtain ⟨g,ok,sz,ne,en,ln,bd⟩:=C;have sz:ao a+1<=M:=sz;have bd:bnd M s+(ao a+1)<=1000000:=bd;have ne:ak a+1<=50:=ne;have hb2:bnd M ⟨s.es,n,s.said⟩+M<=bnd M s:=by
  show s.said.length+n * M+M<=s.said.length+s.turns * M;rw [hs,OY];exact by simp +arith only
 refine jj hK hf (R1.pre (aa (aj _))) ⟨g.2,ok.2,n1 sz,n1 ne,en,ln,n2 hb2 bd⟩ (hN) λh' q R'=>?_;exact hq h' ((k1.trans (.pre (aa (aj _)))).trans q) R'
include d1 d2 in
theorem xP (hv:rk s.es t=J v)(h0:v≠0)(hs:s.turns=n+1)(hf:jo K ri x y p M (k+1) a ⟨s.es,n,s.said⟩ s₁ (J q)):fy K ri x y p M k t a s s₁ (J q):=⟨1,by
 intro N P X h w3 w4 R C hN hq;exact vt hK d1 d2 hv h0 hs (o:=some q) hf (q:=0) R C (hN) λh' q R'=>hq h' _ _ q R'⟩
include d1 d2 in
theorem xQ (hv:rk s.es t=J v)(h0:v≠0)(hs:s.turns=n+1)(he:Ev (k+1) a ⟨s.es,n,s.said⟩ s₁ bY)(hf:jo K ri x y p M (k+1) a ⟨s.es,n,s.said⟩ s₁ bY)(hl:fy K ri x y p M k t a s₁ s' o):fy K ri x y p M k t a s s' o:=by
 obtain ⟨q,hl⟩:=hl;refine ⟨q+1,?_⟩;intro N P X h w3 w4 R C hN hq;refine vt hK d1 d2 hv h0 hs (o:=none) hf (q:=q) R C (hN) λh' k' R'=>?_;obtain ⟨g,ok,sz,ne,en,ln,bd⟩:=C;have sz':ao a+1<=M:=sz;have bd:bnd M s+(ao a+1)<=1000000:=bd;have hb2:bnd M ⟨s.es,n,s.said⟩+M<=bnd M s:=by
  show s.said.length+n * M+M<=s.said.length+s.turns * M;rw [hs,OY];exact by simp +arith only
 obtain ⟨k1,k2,k3⟩:=(dN p M).2 he ok.2 (n1 sz') en;exact hl R' ⟨g,ok,sz,ne,k1,by rw [sC k2];exact ln,by show bnd M s₁+(ao a+1)<=_;exact n2 (KH hb2 k3) (KH bd sz')⟩ (hN) λh'' v3 v4 q R''=>hq h'' v3 v4 (k'.trans q) R''
include d1 d2 d3
theorem Hu (h:Ev k rs s s' o):jo K ri x y p M k rs s s' o:=by
 have no:∀{r:Rw} {k:Int} {s s':St} {o:Option gC},(∀t a,r≠.wh t a)->iO K ri x y p M k r s s' o->iO K ri x y p M k r s s' o/\∀t a,r=.wh t a->fy K ri x y p M k t a s s' o:=λh1 h2=>⟨h2,λt a e=>absurd e (h1 t a)⟩
 have yes:∀{k:Int} {t:Tm} {a:List Rw} {s s':St} {o:Option gC},fy K ri x y p M k t a s s' o->iO K ri x y p M k (.wh t a) s s' o/\∀t' a',Rw.wh t a=.wh t' a'->fy K ri x y p M k t' a' s s' o:=λh=>⟨Ht hK h,λt' a' e=>by cases e;exact h⟩
 have c1:∀{k:Int} {s:St},iO K ri x y p M k .skip s s bY/\∀t a,Rw.skip=.wh t a->fy K ri x y p M k t a s s bY:=λ{k s}=>no (λ_ _ q=>nomatch q) (Ay hK);have c2:∀{k:Int} {r:Rw} {s:St},r≠.skip->rk s.es r.ft=bY->iO K ri x y p M k r s s (J (.nought k))/\∀t a,r=.wh t a->fy K ri x y p M k t a s s (J (.nought k)):=λ{k r s} h1 h2=>by
  cases r with
  | wh t a=>exact yes (AA hK h2)
  | _=>exact no (λ_ _ q=>nomatch q) (DD hK h1 (λ_ _ q=>nomatch q) h2)
 have c11:∀{k:Int} {s:St},jo K ri x y p M k [] s s bY:=λ{k s}=>DB;have c12:∀{k:Int} {r:Rw} {rs:List Rw} {s s₁ s':St} {o:Option gC},EvR k r s s₁ bY->Ev (k+r.size) rs s₁ s' o->(iO K ri x y p M k r s s₁ bY/\∀t a,r=.wh t a->fy K ri x y p M k t a s s₁ bY)->jo K ri x y p M (k+r.size) rs s₁ s' o->jo K ri x y p M k (r::rs) s s' o:=λ{k r rs s s₁ s' o} h1 _ ih1 ih2=>Aw hK h1 ih1.1 ih2;have c13:∀{k:Int} {r:Rw} {rs:List Rw} {s s₁:St} {q:gC},EvR k r s s₁ (J q)->(iO K ri x y p M k r s s₁ (J q)/\∀t a,r=.wh t a->fy K ri x y p M k t a s s₁ (J q))->jo K ri x y p M k (r::rs) s s₁ (J q):=λ{k r rs s s₁ q} _ ih=>Ax hK ih.1;exact @Ev.rec (motive_1:=λk r s s' o _=>iO K ri x y p M k r s s' o/\∀t a,r=.wh t a->fy K ri x y p M k t a s s' o) (motive_2:=λk rs s s' o _=>jo K ri x y p M k rs s s' o)
  @c1 @c2 (λh=>no (λ_ _ q=>nomatch q) (DE hK d1 d3 h)) (λh=>no (λ_ _ q=>nomatch q) (Az hK d2 d3 h)) (λh1 h2 _ ih=>no (λ_ _ q=>nomatch q) (DF hK h1 h2 ih)) (λh1 _ ih=>no (λ_ _ q=>nomatch q) (Hs hK h1 ih))
  (λh=>yes (xO hK h)) (λh1 h2 h3=>yes (ui hK h1 h2 h3)) (λh1 h2 h3 h4 _ ih1 ih2=>yes (xQ hK d1 d2 h1 h2 h3 h4 ih1 (ih2.2 _ _ rfl))) (λh1 h2 h3 _ ih=>yes (xP hK d1 d2 h1 h2 h3 ih))
  @c11 @c12 @c13 _ _ _ _ _ h
end
theorem oE:∀{es:List (List Nat × MV)}{k:List Nat},k∈es.map (·.1)->∃v,aN es k=J v/\(k,v)∈es
 | [],k,h=>aO h
 | (a,w)::es,k,h=>by
  show ∃v,(match a==k with | true=>J w | false=>aN es k)=J v/\_
  cases q:a==k with
  | true=>rw [eq_of_beq q];exact ⟨w,rfl,.head _⟩
  | false=>
   rcases IF.mp h with e | h
   ·rw [e,beq_self_eq_true] at q;exact tf q
   ·obtain ⟨v,h1,h2⟩:=oE h;exact ⟨v,h1,.tail _ h2⟩
theorem pP:∀{es:List (List Nat × MV)}{k:List Nat}{v:MV},aN es k=J v->(k,v)∈es
 | [],k,v,h=>aJ h
 | (a,w)::es,k,v,h=>by
  replace h:(match a==k with | true=>J w | false=>aN es k)=J v:=h
  cases q:a==k with
  | true=>rw [q] at h;rw [<-By h,eq_of_beq q];exact .head _
  | false=>rw [q] at h;exact .tail _ (pP h)
theorem qI {f:List Nat->MV}:∀{ns:List (List Nat)}{s:List Nat},s∈ns->aN (ns.map λn=>(n,f n)) s=J (f s)
 | [],s,h=>aO h
 | n::ns,s,h=>by
  show (match n==s with | true=>J (f n) | false=>aN (ns.map λn=>(n,f n)) s)=J (f s)
  cases q:n==s with
  | true=>rw [eq_of_beq q]
  | false=>
   rcases IF.mp h with e | h
   ·rw [e,beq_self_eq_true] at q;exact tf q
   ·exact qI h
structure fz (es:List (List Nat × MV))(ns:List (List Nat)):Prop where
 keys:es.map (·.1)=ns
 vals:∀e∈es,∃k,e.2=.int k/\In6 k
theorem fz.vok (v:fz es ns):Vok es ns:=by
 refine ⟨by rw [<-v.keys,iF],λs hs=>?_⟩;obtain ⟨w,h1,h2⟩:=oE (es:=es) (k:=s) (by rw [v.keys];exact hs);obtain ⟨k,h3,h4⟩:=v.vals _ h2;obtain rfl:w=.int k:=h3;exact ⟨k,h1,h4.1,h4.2⟩
theorem fz.good (v:fz es ns):bo (b9 es ms) (·∈ms):=λs hs=>by
 unfold b9;rw [qI (f:=λn=>(aN es n).getD (.int 0)) hs]
 cases e:aN es s with
 | none=>exact ⟨0,rfl,by unfold In6;decide⟩
 | some w=>
  obtain ⟨k,h3,h4⟩:=v.vals _ (pP e);obtain rfl:w=.int k:=h3;exact ⟨k,rfl,h4⟩
theorem pQ:∀{t:Tm},t.ok q->(∀x∈an t,p x)->t.ok p
 | .num _,h,_=>h
 | .nm s,_,h=>h s (.head _)
 | .op c a b,h1,h=>⟨h1.1,pQ h1.2.1 λx hx=>h x (tO _ hx),pQ h1.2.2 λx hx=>h x (AT _ hx)⟩
mutual
theorem Hv:∀(r:Rw) (k:Int) (ab:List Tm),r.good->(∀x∈bR (r.num k ab),p x)->r.okp p
 | .set s t,k,ab,g,h=>by
  have h:∀x∈(s::aK (an t))++[],p x:=h;rw [Kr] at h;exact ⟨h s (.head _),pQ g.2.1 λx hx=>h x (.tail _ (aE.mpr hx))⟩
 | .tell t,k,ab,g,h=>by
  have h:∀x∈aK (an t)++[],p x:=h;rw [Kr] at h;exact pQ g.1 λx hx=>h x (aE.mpr hx)
 | .skip,_,_,_,_=>trivial
 | .ite t a b,k,ab,g,h=>by
  have h:∀x∈aK (an t)++bR (nums (k+1) (ab++[t]) a++nums (k+1+ao a) (ab++[t]) b),p x:=h;rw [dp] at h;exact ⟨pQ g.1.1 λx hx=>h x (tO _ (aE.mpr hx)),gX a _ _ g.2.1 λx hx=>h x (AT _ (tO _ hx)),gX b _ _ g.2.2 λx hx=>h x (AT _ (AT _ hx))⟩
 | .wh t a,k,ab,g,h=>by
  have h:∀x∈aK (an t)++bR (nums (k+1) (ab++[t]) a),p x:=h;exact ⟨pQ g.1.1 λx hx=>h x (tO _ (aE.mpr hx)),gX a _ _ g.2 λx hx=>h x (AT _ hx)⟩
theorem gX:∀(rs:List Rw) (k:Int) (ab:List Tm),b0 rs->(∀x∈bR (nums k ab rs),p x)->eX p rs
 | [],_,_,_,_=>trivial
 | r::rs,k,ab,g,h=>by
  have h:∀x∈bR (r.num k ab++nums (k+r.size) ab rs),p x:=h;rw [dp] at h;exact ⟨Hv r k ab g.1 λx hx=>h x (tO _ hx),gX rs _ ab g.2 λx hx=>h x (AT _ hx)⟩
end
theorem vv:∀{h0 h':List MO},(∀(j:Nat) (o:MO),h0[j]?=J o->h'[j]?=J o)->h0<+:h'
 | [],h',_=>List.nil_prefix
 | o::h0,[],h=>aJ (h 0 o rfl)
 | o::h0,o'::h',h=>by
  obtain rfl:o'=o:=By (h 0 o rfl);obtain ⟨t,e⟩:=vv (h0:=h0) (h':=h') λj q hq=>h (j+1) q hq;exact ⟨t,by rw [<-e];rfl⟩
theorem AB {m:MS}(h:a<m.vars.length):(m.set a v).get a=J v:=by
 unfold MS.get MS.set;rw [NK h]
noncomputable abbrev Jj:List Nat:=[100,111,110,101]
noncomputable def DG:Option gC->List Nat
 | none=>Jj
 | some q=>q.word
noncomputable def DH:Option gC->Int
 | none=>0
 | some q=>q.num
noncomputable def fR (ns:List (List Nat))(es:List (List Nat × MV)):List MV:=ns.map λn=>.tup [.str n,(aN es n).getD (.int 0)]
section
variable (hK:aD PP K)
include hK
theorem Jk (hp:bw h i A B rows)(hl:A.length+B.length<=300)(hd:h[d]?=J (.dict es))(hv:fz es (A++B))(ht:t<=450)(hg:b0 rows)(hs:ao rows<=400)(hns:aK (ay A B rows)=ns)(h64:ns.length<64)(hn:ak rows<=7)(he:Ev 1 rows ⟨b9 es ns,t,[]⟩ s' o)(hN:60<N)
  (hq:∀h' r y,h<+:h'->h.length<=r->h.length<=y->r≠y->h'[r]?=J (.list (fR ns s'.es))->h'[y]?=J (.list (s'.said.map .int))->Q (.tup [.str (DG o),.int (DH o),.ref r,.ref y]) h'):K N 87 [.inst 0 i,.ref d,.int t] Q X h:=by
 obtain ⟨m,rfl,hM⟩:=room hN;refine hK _ _ _ _ _ _ t0 rfl rfl ?_;refine Dm hK (h:=h) hp hl hd hv.vok (dO (nb rfl) hM) λh1 p1=>?_;refine Kb hK (.int t) (dO (nb rfl) hM) ?_;rw [decide_eq_true (show (0:Int)<=t by lia),decide_eq_true (show (t:Int)<=1000 by lia)];obtain ⟨m,rfl,hM⟩:=room hM;show K m 83 _ _ _ _;have hp1:=hp.up p1;subst hns;refine xI hK (h0:=h1) hp1 (af p1 hd) hg (hs) hl h64 hn (n1 hN) λh2 x y p2 hx hy hxy a2 d2 s2=>?_;have p2:h1<+:h2:=p2;have hp2:=hp1.up p2;obtain ⟨_,_,b1,_⟩:=id hp2;have R2:ex h2 h1.length x y ⟨b9 es (aK (ay A B rows)),t,[]⟩:=⟨a2,d2,s2⟩
 have hG:bo (b9 es (aK (ay A B rows))) (·∈aK (ay A B rows)):=hv.good;have hok:eX (·∈aK (ay A B rows)) rows:=gX rows 1 [] hg λx hx=>aE.mpr (AT _ hx);have hlen:(b9 es (aK (ay A B rows))).length<=1000:=by unfold b9;rw [iF];exact n1 h64
 have hb0:bnd 400 ⟨b9 es (aK (ay A B rows)),t,[]⟩+ao rows<=1000000:=by
  show 0+t * 400+ao rows<=_;lia
 refine az (eV a2 rfl) ?_;refine az (eV b1 rfl) ?_;refine jR hK (h:=h2) hp2 (nb rfl) ?_;refine jj hK (Hu hK (p:=(·∈aK (ay A B rows))) (M:=400) (KA hx) (KA hy) hxy he) R2 ⟨hg,hok,hs,dO hn (nb rfl),hG,hlen,hb0⟩ (by lia) λh3 q3 R3=>?_;obtain ⟨k1,k2,k3⟩:=(dN (·∈aK (ay A B rows)) 400).2 he hok hs hG;have p3:h1<+:h3:=vv λj o e=>by
  have hj:=(iN.mp e).1;exact q3 j o (KA hj) (KA (LY hj hx)) (KA (LY hj hy)) (af p2 e)
 have hp3:=hp1.up p3;obtain ⟨_,_,c1,_⟩:=id hp3;have rest:aA K (m+1) (t0.body.drop 5) (fin Q) (xin X) ⟨[J (.inst 0 i),J (.ref d),J (.int t),J (.inst 1 h1.length),J (.tup [.str (DG o),.int (DH o)]),bY,bY],h3⟩:=by
  refine az (eV c1 rfl) ?_;refine mo hK (h:=h3) hp3 hg (hs) hl h64 hn (dO (nb rfl) hM) λh4 r p4 l4 e4=>?_;have p4:h3<+:h4:=p4;refine aI (aG e4) ?_;refine kz (λw=>⟨[J (.inst 0 i),J (.ref d),J (.int t),J (.inst 1 h1.length),J (.tup [.str (DG o),.int (DH o)]),bY,w],h4⟩) (λj=>(fR (aK (ay A B rows)) s'.es).take j) _ rfl rfl (λ_=>e4) (λj z w P hz n1 n2=>?_) (λw=>?_)
  ·skip
   obtain ⟨s,hs1,rfl⟩:=EQ.mp (ID ..▸hz);obtain ⟨v,hv1,hv2⟩:=k1 s (rW hs1);refine aZ (af p4 R3.a) ?_;refine bT (af p4 R3.d) ?_;refine cy hv1 ?_;refine n1 _ _ ?_;refine aq ?_;show (fR (aK (ay A B rows)) s'.es)[j]?=_;unfold fR;rw [ID,hs1];show J (MV.tup [.str s,(aN s'.es s).getD (.int 0)])=_;rw [hv1];rfl
  ·skip
   have el:((aK (ay A B rows)).map MV.str).length=(fR (aK (ay A B rows)) s'.es).length:=by unfold fR;rw [iF,iF]
   rw [el,KD];refine aZ (ai (af p4 R3.a)) ?_;have l3:h1.length<=h3.length:=p3.length_le;have l1:h.length<=h1.length:=p1.length_le;have l34:h3.length<=h4.length:=p4.length_le;have hy3:y<h4.length:=(iN.mp (af p4 R3.l)).1;exact hq _ h4.length y ((p1.trans p3).trans (p4.trans (Lb _ _))) (n3 hy3 l1 hy) (n2 l1 hy) (Lg hy3) (ac _ _) (ai (af p4 R3.l))
 cases o with
 | none=>exact rest
 | some q=>exact rest
end
mutual
theorem pR:∀d:D,d.deq d=aT
 | .none=>rfl
 | .bool b=>beq_self_eq_true b
 | .int i=>beq_self_eq_true i
 | .str s=>beq_self_eq_true s
 | .list xs=>jS xs
 | .tup xs=>jS xs
theorem jS:∀ds:List D,D.deqs ds ds=aT
 | []=>rfl
 | d::ds=>by
  show (d.deq d&&D.deqs ds ds)=aT;rw [pR d,jS ds];rfl
end
theorem vw (d:D)(h1:Rd hp x d)(h2:Rd hp y d)(h3:d.deep<=1000)(h4:d.ok=aT)(h:Q aT):EqP hp x y Q:=.mk d d h1 h2 h3 h4 h4 (by rw [pR];exact h)
noncomputable def prM (p:List Nat × Int):MV:=.tup [.str p.1,.int p.2]
noncomputable def prD (p:List Nat × Int):D:=.tup [.str p.1,.int p.2]
theorem qJ:∀(qs:List (List Nat × Int)),Rds hp (qs.map prM) (qs.map prD)
 | []=>.nil
 | p::qs=>.cons (.tup (.cons (.str _) (.cons (.int _) .nil))) (qJ qs)
theorem oG:∀(is:List Int),Rds hp (is.map .int) (is.map .int)
 | []=>.nil
 | i::is=>.cons (.int _) (oG is)
theorem vx:∀{qs:List (List Nat × Int)},(∀p∈qs,okS p.1)->D.oks (qs.map prD)=aT
 | [],_=>rfl
 | p::qs,h=>by
  have h1:=(h p (.head _)).d;show (((D.str p.1).ok&&aT)&&D.oks (qs.map prD))=aT;rw [h1,vx λq hq=>h q (.tail _ hq)];rfl
theorem sD:∀(is:List Int),D.oks (is.map .int)=aT
 | []=>rfl
 | i::is=>by show (aT&&D.oks (is.map .int))=aT;rw [sD is];rfl
theorem pS:∀(qs:List (List Nat × Int)),D.deeps (qs.map prD)<=1
 | []=>Ko _
 | p::qs=>by
  have:=pS qs;exact mx (oF _) this
theorem oH:∀(is:List Int),D.deeps (is.map .int)=0
 | []=>rfl
 | i::is=>by show max 0 (D.deeps (is.map .int))=0;rw [oH is];rfl
structure LF (A B:List (List Nat))(rows:List Rw):Prop where
 gn:∀s∈A++B,Gn s
 nd:(A++B).Nodup
 len:A.length+B.length<=100
 g:b0 rows
 sz:ao rows<=400
 ne:ak rows<=7
 few:(aK (ay A B rows)).length<64
 ok:∀s∈aK (ay A B rows),okS s
section
variable (hK:aD PP K)
include hK
theorem vy (ha:0<=a)(hr:h[r]?=J (.list (ns.map .str)))(hnd:ns.Nodup)(hl:ns.length<=300)(hN:1<N)
  (hq:∀h' es,h<+:h'->h'[h.length]?=J (.dict es)->fz es ns->Q (.ref h.length) h'):K N 89 [.scr is,.int a,.ref r] Q X h:=by
 obtain ⟨m,rfl,hM⟩:=room hN;refine hK _ _ _ _ _ _ jB rfl rfl ?_;refine aI (jg (ai hr)) ?_;refine mM (λj w4 w5 w6 hp es=>⟨[J (.scr is),J (.int a),J (.ref r),J (.ref h.length),w4,w5,w6],hp⟩) (λj w4 w5 w6 hp es=>A4 (h<+:hp) (hp[h.length]?=J (.dict es)) (es.map (·.1)=ns.take j) (∀e∈es,∃k,e.2=.int k/\In6 k))
  bY bY bY _ [] rfl ⟨aa (aj _),ac _ _,rfl,λe h=>aO h⟩ (λ_ _ _ _ _ _ ⟨p,_,_,_⟩=>af p hr) (λj x w4 w5 w6 hp es P hx hI hn _=>?_) (λw4 w5 w6 hp es hI=>?_)
 ·obtain ⟨p1,e1,e2,e3⟩:=hI;obtain ⟨z,hz1,rfl⟩:=mO hx;obtain ⟨s,hs1,rfl⟩:=EQ.mp (ID ..▸hz1);obtain ⟨m,rfl,hM⟩:=room hM;refine ⟨rfl,?_⟩;refine fX hK (Int.add_nonneg ha (KZ _)) ?_;refine cS hK ?_;generalize hc:mix (cell is (a+(j:Int)))=c;refine ae (ac _ _) ?_;refine aw kt mP ?_;refine bT (ai e1) ?_;have hel:es.length=(ns.take j).length:=by rw [<-e2,iF]
  rw [KS] at hel;refine ⟨lk (KJ (dO (Km hel) (dO (Md ..) hl))) rfl,?_⟩;have hj:=(iN.mp hs1).1;have hnew:s∉es.map (·.1):=by
   rw [e2];intro q;have hd:=K1.mp ((K0 (j+1) ns).symm▸hnd);have hd:=hd.1;rw [aq hs1] at hd;exact (K1.mp hd).2.2 s q s (iD.mpr rfl) rfl
  have hsel:∃k,sel (decide (5<c % 8)) (MV.int (c / 8 % 4)) (.int (c / 8 % 10 ^ (6:Int).toNat))=.int k/\In6 k:=by
   have e6:(10:Int) ^ (6:Int).toNat=1000000:=by decide
   rw [e6]
   cases decide (5<c % 8) with
   | true=>exact ⟨_,rfl,by unfold In6;exact em rfl⟩
   | false=>exact ⟨_,rfl,by unfold In6;exact em rfl⟩
  obtain ⟨v,hv1,hv2⟩:=hsel
  suffices key:P .next ⟨[J (.scr is),J (.int a),J (.ref r),J (.ref h.length),J (.int j),J (.str s),J (.int c)],(hp++[MO.list [.int (c / 8 % 4),.int (c / 8 % 10 ^ (6:Int).toNat)]]).set h.length (.dict (bH es s (sel (decide (5<c % 8)) (.int (c / 8 % 4)) (.int (c / 8 % 10 ^ (6:Int).toNat)))))⟩ from key
  rw [hv1];refine hn _ _ _ _ (bH es s (.int v)) ⟨aF (aa p1) (oF _),get_set (ai e1),?_,?_⟩
  ·rw [iI hnew,KB,e2,aq hs1];rfl
  ·rw [iI hnew];intro e he
   rcases nO.mp he with he | he
   ·exact e3 e he
   ·rw [iD.mp he];exact ⟨v,rfl,hv2⟩
 ·obtain ⟨p1,e1,e2,e3⟩:=hI;rw [n9,iF,KD] at e2;exact hq _ es p1 e1 ⟨e2,e3⟩
end
noncomputable def yN (b n:Nat):List (List Nat):=(LH n).map λ(k:Nat)=>121::b::dec k
theorem AC:∀s∈yN 111 20++yN 115 20,Gn s:=by unfold Gn Nm;decide +kernel
theorem Kf:(yN 111 20++yN 115 20).Nodup:=by decide +kernel
theorem uj {α:Type}{p:α->Bool}{ys:List α}{j:Nat}{s:α}(e:ys[j]?=J s)(h:p s=aT):(ys.take (j+1)).filter p=(ys.take j).filter p++[s]:=by
 rw [aq e,List.filter_append,List.filter_cons_of_pos h];rfl
theorem uk {α:Type}{p:α->Bool}{ys:List α}{j:Nat}{s:α}(e:ys[j]?=J s)(h:p s=Z):(ys.take (j+1)).filter p=(ys.take j).filter p:=by
 rw [aq e,List.filter_append,NI (by rw [h];exact Bool.false_ne_true)];exact Kr _
theorem AD (b:Nat)(h:n<=20):(yN b n).Sublist (yN b 20):=by
 have e:yN b n=(yN b 20).take n:=by
  unfold yN;rw [<-N5,List.take_range,Mv h]
 rw [e];exact OE ..
theorem AE (b n:Nat):(yN b n).length=n:=by unfold yN;rw [iF,List.length_range]
section
theorem vz (h:wpE K n e (λv m=>aA K n r Q X (m.set i v)) X m):aA K n (.asg [i] Z e::r) Q X m:=h
theorem DI (h:wpE K n a (λx m=>wpE K n b (λy m=>Q (.ref m.heap.length) (m.push (.list [x,y]))) X m) X m):wpE K n (.list [a,b]) Q X m:=h
theorem AF (A:MV->MS->Prop)(B:MV->MV->MS->Prop)(g0:aS g m.heap)(h1:∀P:Option MV->MS->Prop,(∀a m1,A a m1->P (J a) m1)->step x P m)(ga:∀a m1,A a m1->aS g m1.heap)
  (h2:∀a m1,A a m1->∀P:Option MV->MS->Prop,(∀b m2,B a b m2->P (J b) m2)->step y P m1) (gb:∀a b m2,B a b m2->aS g m2.heap/\Q [a,b] m2):dA g step Q [x,y] [] m:=by
 rw [gF];refine ⟨g0,h1 _ λa m1 hA=>?_⟩;show dA g step Q [y] [a] m1;rw [gF];refine ⟨ga a m1 hA,h2 a m1 hA _ λb m2 hB=>?_⟩;show dA g step Q [] [a,b] m2;rw [kZ];exact gb a b m2 hB
theorem AG (hk:0<=k/\k<=20)(hsrc:∀Q:PQ,Q (.int k) m->wpE K n src Q X m)(hv:v<m.vars.length)(hq:Q (.ref m.heap.length) ⟨m.vars,m.heap++[.list ((yN b k.toNat).map .str)]⟩) :
  wpE K n (.comp (.bin .add (.cst (.str [121,b])) (.blt .str [.var v])) [v] Z .range1 [src] []) Q X m:=by
 show wpE K n src _ X m;refine hsrc _ ?_;refine aI (iB (z1 hk.1) (z1 hk.2)) ?_;refine gq (λj a m'=>m'.vars.length=m.vars.length/\m'.heap=m.heap/\a=((yN b k.toNat).take j).map .str) ⟨rfl,rfl,rfl⟩ (λ_ _ _ _=>trivial) (λj x a m' P hx hI n1 _=>?_) (λa m' hI=>?_)
 ·obtain ⟨e1,e2,rfl⟩:=hI;obtain ⟨hj,rfl⟩:=kr hx;show wpE K n (.var v) _ noX (m'.set v (.int j));refine eR (AB (by rw [e1];exact hv)) ?_;have hj2:(j:Int)<20:=LN.mpr (KG hj (Oh.mpr hk.2));refine ⟨⟨Mp (by decide) (KZ j),Po hj2 (by decide)⟩,?_⟩;have:=(fE (i:=(j:Int)) ⟨KZ _,Po hj2 (by decide)⟩).2;refine ⟨aR (dO (L6 this 2) (nb rfl)),?_⟩;refine n1 _ _ ⟨by show (m'.vars.set v _).length=_;rw [OZ,e1],e2,?_⟩;rw [aq (r:=121::b::dec j) (by unfold yN;rw [ID,List.getElem?_range hj];rfl),KB];rfl
 ·obtain ⟨e1,e2,rfl⟩:=hI;show Q (.ref m'.heap.length) ⟨m.vars,m'.heap++[.list _]⟩;rw [lq,M0 (by rw [AE];exact oF _),e2];exact hq
theorem AH {ss ys:List (List Nat)}{hp:List MO}(hr:hp[r]?=J (.list (ss.map .str)))(hs:∀s∈ss,okS s)(ha:hp[a]?=J (.list (ys.map .str)))(hy:∀s∈ys,okS s)(hq:Q (.ref hp.length) ⟨[J (.ref r),v1,v2,v3,v4,v5,J (.ref a),v7],hp++[.list ((ys.filter λs=>!ss.contains s).map .str)]⟩) :
  wpE K n (.comp (.var 7) [7] Z .val [.var 6] [.cmp .nin (.var 7) (.var 0)]) Q X ⟨[J (.ref r),v1,v2,v3,v4,v5,J (.ref a),v7],hp⟩:=by
 refine aI (aG ha) ?_;refine kz (λw=>⟨[J (.ref r),v1,v2,v3,v4,v5,J (.ref a),w],hp⟩) (λj=>((ys.take j).filter λs=>!ss.contains s).map .str) _ rfl rfl (λ_=>ha) (λj x w P hx n1 n2=>?_) (λw=>?_)
 ·obtain ⟨s,hs1,rfl⟩:=EQ.mp (ID ..▸hx);refine av hr ?_;refine bV (hy s (rW hs1)) hs ?_
  cases q:ss.contains s with
  | true=>exact n2 _ (by rw [uk hs1 (by rw [q];rfl)])
  | false=>exact n1 _ _ (by rw [uj hs1 (by rw [q];rfl),KB];rfl)
 ·rw [iF,KD];exact hq
variable (hK:aD PP K)
include hK
theorem Hw {ss:List (List Nat)}{h:List MO}(hr:h[r]?=J (.list (ss.map .str)))(hs:∀s∈ss,okS s)(hN:0<N)
  (hq:∀(h':List MO) (i a b:Nat) (U V:List (List Nat)),h<+:h'->h'[i]?=J (.list [.ref a,.ref b])->h'[a]?=J (.list (U.map .str))->h'[b]?=J (.list (V.map .str))->U.Sublist (yN 111 20)->V.Sublist (yN 115 20)->(∀s∈U++V,s∉ss)->Q (.ref i) h'):K N 95 [.ref r,.int c] Q X h:=by
 obtain ⟨m,rfl,hM⟩:=room hN;refine hK _ _ _ _ _ _ iA rfl rfl ?_;refine ae (ac _ _) ?_;have hx:0<=c % 4/\c % 4<4:=em rfl;obtain ⟨x,hx1,k,rfl,hk⟩:=mh.get (P:=λ_ x=>∃k:Int,x=.int k/\0<=k/\k<20) (n:=0) (l:=[MV.int 0,.int (c / 4 % 3),.int (c / 4 % 20),.int 0]) (.cons ⟨0,rfl,by decide⟩ (.cons ⟨_,rfl,em rfl⟩ (.cons ⟨_,rfl,em rfl⟩ (.cons ⟨0,rfl,by decide⟩ .nil)))) (c % 4).toNat (by show _<4;exact emN rfl);refine aw (ba hx.1 hx.2) hx1 ?_;have rest:∀hp:List MO,h<+:hp->aA K m (iA.body.drop 1) (fin Q) (xin X) ⟨[J (.ref r),J (.int c),J (.int k),bY,bY,bY,bY,bY],hp⟩:=λhp p1=>by
  refine vz (DI ?_);refine AG (⟨z1 hk.1,z1 hk.2⟩) (λQ hq=>hq) (KN rfl) ?_;have hr2:0<=c / 4 % 2/\c / 4 % 2<2:=em rfl;have t1:k.toNat<=20:=Oh.mpr (Mx hk.2);have t2:(k+c / 4 % 2).toNat<=20:=Oh.mpr (show k+c / 4 % 2<=20 from z2 hk.2 hr2.2);refine AG (k:=k+c / 4 % 2) ⟨Int.add_nonneg hk.1 hr2.1,z2 hk.2 hr2.2⟩ (λQ hq=>hq) (KN rfl) ?_;have ya:∀b n,b=111\/b=115->n<=20->∀s∈yN b n,okS s:=λb n hb hn s hs=>by
   have hs:=(AD b hn).subset hs
   rcases hb with rfl | rfl
   ·exact (AC s (tO _ hs)).1.ok
   ·exact (AC s (AT _ hs)).1.ok
  have q1:=p1.trans (aa (o:=.list ((yN 115 (k+c / 4 % 2).toNat).map .str)) (aa (o:=.list ((yN 111 k.toNat).map .str)) (aj hp)));have q2:(hp++[MO.list ((yN 111 k.toNat).map .str)]++[.list ((yN 115 (k+c / 4 % 2).toNat).map .str)])[hp.length]?=J (.list ((yN 111 k.toNat).map .str)):=ai (ac _ _);have q3:(hp++[MO.list ((yN 111 k.toNat).map .str)]++[.list ((yN 115 (k+c / 4 % 2).toNat).map .str)])[(hp++[MO.list ((yN 111 k.toNat).map .str)]).length]?=J (.list ((yN 115 (k+c / 4 % 2).toNat).map .str)):=ac _ _;dsimp only;generalize (hp++[MO.list ((yN 111 k.toNat).map .str)]).length=b at *;generalize hp++[MO.list ((yN 111 k.toNat).map .str)]++[.list ((yN 115 (k+c / 4 % 2).toNat).map .str)]=h1 at *;refine aI (aG (ac _ _)) ?_;refine AF (λa m=>a=.ref (h1++[MO.list [.ref hp.length,.ref b]]).length/\m=⟨[J (.ref r),J (.int c),J (.int k),J (.ref h1.length),bY,bY,J (.ref hp.length),bY],h1++[MO.list [.ref hp.length,.ref b]]++[MO.list (((yN 111 k.toNat).filter λs=>!ss.contains s).map .str)]⟩) (λa e m=>a=.ref (h1++[MO.list [.ref hp.length,.ref b]]).length/\e=.ref (h1++[MO.list [.ref hp.length,.ref b]]++[MO.list (((yN 111 k.toNat).filter λs=>!ss.contains s).map .str)]).length/\m.heap=h1++[MO.list [.ref hp.length,.ref b]]++[MO.list (((yN 111 k.toNat).filter λs=>!ss.contains s).map .str)]++[MO.list (((yN 115 (k+c / 4 % 2).toNat).filter λs=>!ss.contains s).map .str)])
   (ac _ _) (λP n1=>?_) (λa m1 hA=>by obtain ⟨_,rfl⟩:=hA;exact ai (ac _ _)) (λa m1 hA P n1=>?_) (λa e m2 hB=>?_)
  ·show wpE K m (.comp (.var 7) [7] Z .val [.var 6] [.cmp .nin (.var 7) (.var 0)]) (λx m=>P (J x) m) noX ⟨[J (.ref r),J (.int c),J (.int k),J (.ref h1.length),bY,bY,J (.ref hp.length),bY],h1++[MO.list [.ref hp.length,.ref b]]⟩;refine AH (n:=m) (v1:=some (.int c)) (v2:=some (.int k)) (v3:=some (.ref h1.length)) (v4:=none) (v5:=none) (v7:=none) (ai (af q1 hr)) hs (ai q2) (ya 111 _ (.inl rfl) t1) ?_;exact n1 _ _ ⟨rfl,rfl⟩
  ·obtain ⟨rfl,rfl⟩:=hA;show wpE K m (.comp (.var 7) [7] Z .val [.var 6] [.cmp .nin (.var 7) (.var 0)]) (λx m=>P (J x) m) noX ⟨[J (.ref r),J (.int c),J (.int k),J (.ref h1.length),bY,bY,J (.ref b),bY],h1++[MO.list [.ref hp.length,.ref b]]++[MO.list (((yN 111 k.toNat).filter λs=>!ss.contains s).map .str)]⟩;refine AH (n:=m) (v1:=some (.int c)) (v2:=some (.int k)) (v3:=some (.ref h1.length)) (v4:=none) (v5:=none) (v7:=none) (ai (ai (af q1 hr))) hs (ai (ai q3)) (ya 115 _ (.inr rfl) t2) ?_;exact n1 _ _ ⟨rfl,rfl,rfl⟩
  obtain ⟨rfl,rfl,hB⟩:=hB;refine ⟨by rw [hB];exact ai (ai (ac _ _)),?_⟩;show Q _ (m2.heap++[_]);rw [hB];refine hq _ _ _ _ ((yN 111 k.toNat).filter λs=>!ss.contains s) ((yN 115 (k+c / 4 % 2).toNat).filter λs=>!ss.contains s) (q1.trans (aa (aa (aa (aa (aj _)))))) (ac _ _) (ai (ai (ac _ _))) (ai (ac _ _)) (List.filter_sublist.trans (AD _ t1)) (List.filter_sublist.trans (AD _ t2)) λs hs' q=>?_;have hc:ss.contains s=aT:=KL.mpr q
  rcases nO.mp hs' with h1 | h1
  ·have:=(Od.mp h1).2;rw [hc] at this;exact ff this
  ·have:=(Od.mp h1).2;rw [hc] at this;exact ff this
 exact rest _ (aa (aj _))
end
theorem sF (n:Nat)(l:List α):(l.drop n++l.take n).Perm l:=by
 have:=List.perm_append_comm (l₁:=l.drop n) (l₂:=l.take n);rw [K0] at this;exact this
section
variable (hK:aD PP K)
include hK
theorem DJ {ss U V:List (List Nat)}{h:List MO}(hr:h[r]?=J (.list (ss.map .str)))(ten:ss.length=10)(hi:h[i]?=J (.list [.ref a,.ref b]))(ha:h[a]?=J (.list (U.map .str)))(hb:h[b]?=J (.list (V.map .str)))(hU:U.length<=20)(hV:V.length<=20)(hN:0<N)
  (hq:∀(h':List MO) (i a b:Nat) (A B A' B':List (List Nat)),h<+:h'->h'[i]?=J (.list [.ref a,.ref b])->h'[a]?=J (.list (A.map .str))->h'[b]?=J (.list (B.map .str))->A.Perm (U++A')->B.Perm (V++B')->A'.Sublist (ss.take 5)->B'.Sublist (ss.drop 5)->Q (.ref i) h'):K N 96 [.ref r,.ref i,.int c] Q X h:=by
 obtain ⟨m,rfl,hM⟩:=room hN;refine hK _ _ _ _ _ _ fP rfl rfl ?_;refine ae hi ?_;refine av ha ?_;refine ae (ai hi) ?_;refine av (ai hb) ?_;have loop:∀(hp:List MO) (ra rb rr:Nat),h<+:hp->h.length<=ra->h.length<=rb->ra≠rb->ra≠rr->rb≠rr->hp[rr]?=J (.list [.ref ra,.ref rb])->hp[ra]?=J (.list (U.map .str))->hp[rb]?=J (.list (V.map .str))->
   aA K m (fP.body.drop 2) (fin Q) (xin X) ⟨[J (.ref r),J (.ref i),J (.int c),J (.ref rr),J (.int c),bY,bY,bY],hp⟩:=λhp ra rb rr p0 la lb n1 n2 n3 e1 e2 e3=>by
  refine aI (jg (af p0 hr)) ?_;refine kn (λj (v:Int) (w5:Option MV) (w6:Option MV) (hp:List MO) (A:List (List Nat)) (B:List (List Nat))=>⟨[J (.ref r),J (.ref i),J (.int c),J (.ref rr),J (.int v),w5,w6,bY],hp⟩) (λj (v:Int) (w5:Option MV) (w6:Option MV) (hp:List MO) (A:List (List Nat)) (B:List (List Nat))=>A6 (h<+:hp) (hp[rr]?=J (.list [.ref ra,.ref rb])) (hp[ra]?=J (.list ((U++A).map .str))) (hp[rb]?=J (.list ((V++B).map .str))) (A.Sublist ((ss.take 5).take j)) (B.Sublist ((ss.drop 5).take (j-5))))
   c bY bY hp [] [] rfl ⟨p0,e1,by rw [Kr];exact e2,by rw [Kr];exact e3,List.nil_sublist _,List.nil_sublist _⟩ (λ_ _ _ _ _ _ _ hI=>af hI.h1 hr) (λj x v w5 w6 hp A B P hx hI hn _=>?_) (λv w5 w6 hp A B hI=>?_)
  ·obtain ⟨p1,f1,f2,f3,sA,sB⟩:=hI;obtain ⟨z,hz1,rfl⟩:=mO hx;obtain ⟨s,hs1,rfl⟩:=EQ.mp (ID ..▸hz1);have hj:=(iN.mp hs1).1;have lA:=sA.length_le;have lB:=sB.length_le;rw [KS,KS] at lA;rw [KS,Lf] at lB;have tA:((ss.take 5).take j).Sublist ((ss.take 5).take (j+1)):=List.take_sublist_take_left (Ma _);have tB:((ss.drop 5).take (j-5)).Sublist ((ss.drop 5).take (j+1-5)):=List.take_sublist_take_left (N6 (Ma _) _);refine ⟨rfl,?_⟩
   conv=>whnf
   cases decide (0<v % 3) with
   | false=>
    exact hn _ _ _ hp A B ⟨p1,f1,f2,f3,sA.trans tA,sB.trans tB⟩
   | true=>
    refine ae f1 ?_
    rcases LO j 5 with h5 | h5
    ·refine aw (j:=0) (v:=.ref ra) ?_ rfl ?_
     ·rw [show (j:Int) / 5=0 from Int.ediv_eq_zero_of_lt (KZ _) (LN.mpr h5)];rfl
     refine az (aH f2) ?_;refine aV (aU f2) ?_;have lA:=dO lA (L8 ..);refine ⟨by rw [iF,eQ];exact lk (Internal.n3 hU lA h5) (b:=1000) rfl,?_⟩;refine hn _ _ _ _ (A++[s]) B ⟨aF p1 la,ap n2 f1,?_,ap n1 f3,?_,sB.trans tB⟩
     ·rw [show (U++(A++[s])).map MV.str=(U++A).map MV.str++[.str s] by rw [<-Ks,KB];rfl];exact get_set f2
     ·rw [aq (r:=s) (by rw [List.getElem?_take_of_lt h5];exact hs1)];exact sA.append (List.Sublist.refl _)
    ·refine aw (j:=1) (v:=.ref rb) ?_ rfl ?_
     ·rw [show (j:Int) / 5=1 from congrArg Int.ofNat (Nat.div_eq_of_lt_le (k:=1) h5 (dO hj (Km ten)))];rfl
     refine az (aH f3) ?_;refine aV (aU f3) ?_;have lB:=dO (dO lB (L8 ..)) (Nb _ _);refine ⟨by rw [iF,eQ];exact lk (Internal.n3 hV lB (dO hj (Km ten))) (b:=1000) rfl,?_⟩;refine hn _ _ _ _ A (B++[s]) ⟨aF p1 lb,ap n3 f1,ap (LP n1) f2,?_,sA.trans tA,?_⟩
     ·rw [show (V++(B++[s])).map MV.str=(V++B).map MV.str++[.str s] by rw [<-Ks,KB];rfl];exact get_set f3
     ·rw [Nat.succ_sub h5,aq (r:=s) (by rw [List.getElem?_drop,Of h5];exact hs1)];exact sB.append (List.Sublist.refl _)
  ·obtain ⟨p1,f1,f2,f3,sA,sB⟩:=hI;have sA:=sA.trans (OE _ _);have sB:=sB.trans (OE _ _);have lA:=sA.length_le;have lB:=sB.length_le;rw [KS] at lA;rw [Lf] at lB;refine ae f1 ?_;refine av f2 ?_;refine az (decide_eq_true (LQ Pb (Oe ..))) ?_;refine ae f1 ?_;refine av f3 ?_;refine az (decide_eq_true (LQ Pb (Oe ..))) ?_;have hx:0<=c / 27 % max 1 (((U++A).map MV.str).length:Int):=LM _ (MY (LQ Pb (Oe ..)));have hy:0<=c / 189 % max 1 (((V++B).map MV.str).length:Int):=LM _ (MY (LQ Pb (Oe ..)));generalize c / 27 % max 1 (((U++A).map MV.str).length:Int)=x at *;generalize c / 189 % max 1 (((V++B).map MV.str).length:Int)=y at *;have fin':∀hp,h<+:hp->hp[rr]?=J (.list [.ref ra,.ref rb])->hp[ra]?=J (.list ((U++A).map .str))->hp[rb]?=J (.list ((V++B).map .str))->aA K m (fP.body.drop 4) (fin Q) (xin X) ⟨[J (.ref r),J (.ref i),J (.int c),J (.ref rr),J (.int v),w5,w6,J (.ref hp.length)],hp++[MO.list [.int x,.int y]]⟩:=λhp p1 f1 f2 f3=>by
    refine ae (ai f1) ?_;refine ae (ac _ _) ?_;refine ae (ai f2) ?_;have rot:∀(l:List (List Nat)) {x:Int},0<=x->aQ (l.map MV.str) (J x) bY++aQ (l.map MV.str) bY (J x)=(l.drop x.toNat++l.take x.toNat).map MV.str:=λl {x} hx=>by
     rw [bN hx,du hx,KB,N4,N5]
    have rln:∀(l:List (List Nat)) {x:Int},0<=x->l.length<=1000->(aQ (l.map MV.str) (J x) bY).length+(aQ (l.map MV.str) bY (J x)).length<=line:=λl {x} hx hl=>by
     rw [bN hx,du hx,Lf,KS,iF,Nat.min_comm,Nat.sub_add_min_cancel];exact lk hl rfl
    refine ae (ai (ai f1)) ?_;refine ae (ai (ac _ _)) ?_;refine ae (ai (ai f2)) ?_;refine ae (ai (ac _ _)) ?_;refine ae (ac _ _) ?_;refine ⟨rln _ hx (by rw [eQ];exact dO (KH hU (dO lA (L8 ..))) (nb rfl)),?_⟩;refine ae (ai (ai (ai (ai f1)))) ?_;refine ae (ai (ai (ai (ac _ _)))) ?_;refine ae (ai (ai (ai (ai f3)))) ?_;refine ae (ai (ai (ai (ai (ai f1))))) ?_;refine ae (ai (ai (ai (ai (ac _ _))))) ?_;refine ae (ai (ai (ai (ai (ai f3))))) ?_;refine ae (ai (ac _ _)) ?_;refine ae (ac _ _) ?_;refine ⟨rln _ hy (by rw [eQ];exact dO (KH hV (dO lB (dO (Nb ..) (Km ten)))) (nb rfl)),?_⟩;refine hq _ _ _ _ ((U++A).drop x.toNat++(U++A).take x.toNat) ((V++B).drop y.toNat++(V++B).take y.toNat) A B (aa (aa (aa (aa (aa (aa (aa (aa p1)))))))) (ac _ _) ?_ ?_ (sF _ _) (sF _ _) sA sB
    ·rw [<-rot _ hx];exact ai (ai (ai (ai (ac _ _))))
    ·rw [<-rot _ hy];exact ai (ac _ _)
   exact fin' hp p1 f1 f2 f3
 have l1:(h++[MO.list (U.map .str)]).length=h.length+1:=by rw [eQ];rfl
 have l2:(h++[MO.list (U.map .str)]++[MO.list (V.map .str)]).length=h.length+1+1:=by rw [eQ,l1];rfl
 exact loop (h++[MO.list (U.map .str)]++[MO.list (V.map .str)]++[MO.list [.ref h.length,.ref (h++[MO.list (U.map .str)]).length]]) h.length (h++[MO.list (U.map .str)]).length (h++[MO.list (U.map .str)]++[MO.list (V.map .str)]).length (aa (aa (aa (aj _)))) (oF _) (n1 (Km l1.symm)) (KA (n1 (Km l1.symm))) (KA (n1 (Km l2.symm))) (KA (n2 (Km l2.symm) (Km l1))) (ac _ _) (ai (ai (ac _ _))) (ai (ac _ _))
end
mutual
theorem ul:∀r:Rw,r.size<=r.lines.length
 | .set s t=>oF _
 | .tell t=>oF _
 | .skip=>oF _
 | .ite t a b=>by
  have h1:=gD a;have h2:=gD b;show ao a+ao b+1<=(lns a++cu::(lns b++[b8])).length+1;rw [eQ,KQ,eQ];exact n2 h2 h1
 | .wh t a=>by
  have h1:=gD a;show ao a+1<=(lns a++[b8]).length+1;rw [eQ];exact n1 h1
theorem gD:∀rs:List Rw,ao rs<=(lns rs).length
 | []=>oF _
 | r::rs=>by
  have h1:=ul r;have h2:=gD rs;show r.size+ao rs<=(r.lines++lns rs).length;rw [eQ];exact n2 h2 h1
end
theorem xR:∀{t:Tm},t.ok p->∀x∈an t,p x
 | .num _,_,x,h=>aO h
 | .nm s,q,x,h=>by rw [iD.mp h];exact q
 | .op c a b,q,x,h=>(nO.mp h).elim (xR q.2.1 x) (xR q.2.2 x)
mutual
theorem Hx:∀(r:Rw) (k:Int) (ab:List Tm),r.gp p->∀x∈bR (r.num k ab),p x
 | .set s t,k,ab,g,x,h=>by
  have h:x∈(s::aK (an t))++[]:=h;rw [Kr] at h
  rcases IF.mp h with e | h
  ·rw [e];exact g.1
  ·exact xR g.2.1 x (aE.mp h)
 | .tell t,k,ab,g,x,h=>by
  have h:x∈aK (an t)++[]:=h;rw [Kr] at h;exact xR g.1 x (aE.mp h)
 | .skip,k,ab,_,x,h=>aO h
 | .ite t a b,k,ab,g,x,h=>by
  have h:x∈aK (an t)++bR (nums (k+1) (ab++[t]) a++nums (k+1+ao a) (ab++[t]) b):=h;rw [dp] at h
  rcases nO.mp h with h | h
  ·exact xR g.1.1 x (aE.mp h)
  ·exact (nO.mp h).elim (kM a _ _ g.2.1 x) (kM b _ _ g.2.2 x)
 | .wh t a,k,ab,g,x,h=>by
  have h:x∈aK (an t)++bR (nums (k+1) (ab++[t]) a):=h
  rcases nO.mp h with h | h
  ·exact xR g.1.1 x (aE.mp h)
  ·exact kM a _ _ g.2 x h
theorem kM:∀(rs:List Rw) (k:Int) (ab:List Tm),gps p rs->∀x∈bR (nums k ab rs),p x
 | [],_,_,_,x,h=>aO h
 | r::rs,k,ab,g,x,h=>by
  have h:x∈bR (r.num k ab++nums (k+r.size) ab rs):=h;rw [dp] at h;exact (nO.mp h).elim (Hx r k ab g.1 x) (kM rs _ ab g.2 x)
end
theorem xS {ss U V A B A' B':List (List Nat)}(ten:ss.length=10)(gn:∀s∈ss,Gn s)(hnd:ss.Nodup)(hU:U.Sublist (yN 111 20))(hV:V.Sublist (yN 115 20))(hno:∀s∈U++V,s∉ss)(pA:A.Perm (U++A'))(pB:B.Perm (V++B'))(sA:A'.Sublist (ss.take 5))(sB:B'.Sublist (ss.drop 5))(hg:gps (·∈ss) rows)(hn:ak rows<=7)(hl:ao rows<=400):LF A B rows:=by
 have sy:(U++V).Sublist (yN 111 20++yN 115 20):=hU.append hV;have ss':(A'++B').Sublist ss:=by have:=sA.append sB;rw [K0] at this;exact this
 have pp:(A++B).Perm ((U++V)++(A'++B')):=by
  refine (pA.append pB).trans ?_;rw [Ks,Ks];refine Pw.append_left U ?_;rw [<-Ks,<-Ks];exact Pw.append_right B' List.perm_append_comm
 have lU:=hU.length_le;have lV:=hV.length_le;rw [AE] at lU lV;have l':=ss'.length_le;have gU:∀s∈U++V,Gn s:=λs h=>AC s (sy.subset h);have lp:=pp.length_eq;simp only [eQ] at lp l';have mem:∀s∈A++B,s∈(U++V)++ss:=λs h=>by
  rcases nO.mp (pp.subset h) with h | h
  ·exact tO _ h
  ·exact AT _ (ss'.subset h)
 have gall:∀s∈(U++V)++ss,Gn s:=λs h=>(nO.mp h).elim (gU s) (gn s);have memp:∀s∈ay A B rows,s∈(U++V)++ss:=λs h=>by
  rcases nO.mp h with h | h
  ·exact mem s h
  ·exact AT _ (kM rows 1 [] hg s h)
 refine ⟨λs h=>gall s (mem s h),pp.nodup_iff.mpr (K1.mpr ⟨Kf.sublist sy,hnd.sublist ss',λa ha b hb e=>hno a ha (e▸ss'.subset hb)⟩),dO (Km lp) (dO (KH (KH lU lV) (dO l' (Km ten))) (nb rfl)),iK (iJ gn hg),hl,hn,?_,λs h=>(gall s (memp s (aE.mp h))).1.ok⟩;have:=kB memp;simp only [eQ] at this;exact Kn (dO this (KH (KH lU lV) (Km ten))) (nb rfl)
noncomputable abbrev Txt:=List Nat
noncomputable def rn:Tm->List Txt
 | .op c a b=>rn a++rn b++(match c==47 with
  | true=>an b
  | false=>[])
 | _=>[]
noncomputable def dvs:Tm->Bool
 | .op c a b=>c==47||(dvs a||dvs b)
 | _=>Z
theorem wa:∀{t:Tm}{x:Txt},x∈rn t->x∈an t
 | .num _,x,h=>aO h
 | .nm _,x,h=>aO h
 | .op c a b,x,h=>by
  show x∈an a++an b
  rcases nO.mp (show x∈rn a++rn b++_ from h) with h | h
  ·exact (nO.mp h).elim (λh=>tO _ (wa h)) λh=>AT _ (wa h)
  ·cases q:c==47 with
   | true=>rw [q] at h;exact AT _ h
   | false=>rw [q] at h;exact aO h
theorem wb (hc:cM c)(h:jn c x y=bY):c=47/\y=0:=by
 refine xG (P:=λc=>jn c x y=bY->c=47/\y=0) hc ?_ ?_ ?_ ?_ ?_ ?_ h
 ·intro h;exact jF h
 ·intro h;exact jF h
 ·intro h;exact jF h
 ·intro h;exact jF h
 ·intro h;exact jF h
 ·intro h;replace h:(match y==0 with | true=>bY | false=>J (x / y))=bY:=h
  cases q:y==0 with
  | true=>exact ⟨rfl,eq_of_beq q⟩
  | false=>rw [q] at h;exact jF h
noncomputable abbrev ES:=List (List Nat × MV)
noncomputable def Lw (S:Txt->Prop)(es es':ES):Prop:=∀n,¬ S n->aN es n=aN es' n
section
theorem fA (h:Lw S es es'):∀{t:Tm},(∀n∈an t,¬ S n)->rk es t=rk es' t
 | .num _,_=>rfl
 | .nm s,k=>by
  show (match aN es s with | some (.int v)=>J v | _=>bY)=(match aN es' s with | some (.int v)=>J v | _=>bY);rw [h s (k s (.head _))]
 | .op c a b,k=>by
  show (match rk es a,rk es b with | some x,J y=>jn c x y | _,_=>bY)=(match rk es' a,rk es' b with | some x,J y=>jn c x y | _,_=>bY);rw [fA h λn hn=>k n (tO _ hn),fA h λn hn=>k n (AT _ hn)]
theorem kN (g:bo es p):∀{t:Tm},t.ok p->dvs t=Z->rk es t≠bY
 | .num _,_,_=>λh=>jF h
 | .nm s,ht,_=>λh=>by
  obtain ⟨u,e,_⟩:=g s ht;exact bc h (vk e)
 | .op c a b,ht,hd=>λh=>by
  obtain ⟨h1,h2⟩:=LV.mp hd;obtain ⟨h2,h3⟩:=LV.mp h2
  cases e1:rk es a with
  | none=>exact kN g ht.2.1 h2 e1
  | some x=>
   cases e2:rk es b with
   | none=>exact kN g ht.2.2 h3 e2
   | some y=>
    rw [oq e1 e2] at h;rw [(wb ht.1 h).1] at h1;exact tf h1
theorem qK (g:bo es p)(h:Lw S es es'):∀{t:Tm},t.ok p->(∀n∈rn t,¬ S n)->rk es t=bY->rk es' t=bY
 | .num _,_,_,e=>jF e
 | .nm s,ht,_,e=>by
  obtain ⟨u,e1,_⟩:=g s ht;exact bc e (vk e1)
 | .op c a b,ht,hn,e=>by
  have na:∀n∈rn a,¬ S n:=λn q=>hn n (tO _ (tO _ q));have nb:∀n∈rn b,¬ S n:=λn q=>hn n (tO _ (AT _ q));have any:rk es' b=bY->rk es' (.op c a b)=bY:=λq=>by
   cases q1:rk es' a with
   | none=>exact oo q1
   | some x=>exact ub q1 q
  cases e1:rk es a with
  | none=>exact oo (qK g h ht.2.1 na e1)
  | some x=>
   cases e2:rk es b with
   | none=>exact any (qK g h ht.2.2 nb e2)
   | some y=>
    rw [oq e1 e2] at e;obtain ⟨rfl,rfl⟩:=wb ht.1 e;have eb:rk es b=rk es' b:=fA h λn q=>hn n (AT _ q)
    cases q1:rk es' a with
    | none=>exact oo q1
    | some x'=>rw [oq q1 (eb.symm.trans e2)];rfl
end
theorem Lw.symm (h:Lw S es es'):Lw S es' es:=λn q=>(h n q).symm
theorem Lw.trans (h:Lw S es es')(k:Lw S es' es''):Lw S es es'':=λn q=>(h n q).trans (k n q)
theorem Lw.set (h:Lw S es es')(x:Txt)(v:MV):Lw S (bH es x v) (bH es' x v):=λn q=>by rw [lG,lG,h n q]
theorem Lw.hide (es:ES)(hx:S x)(v:MV):Lw S es (bH es x v):=λn q=>by
 rw [lG,if_neg (show ¬ n=x from λe=>q (by rw [e];exact hx))]
noncomputable def Dv (S:Txt->Prop)(H:Prop)(t:Tm):Prop:=dvs t=aT->¬ H/\∀n∈rn t,¬ S n
mutual
noncomputable def Rw.sf (S:Txt->Prop)(H:Prop):Rw->Prop
 | .set x t=>(¬ S x->¬ H/\∀n∈an t,¬ S n)/\Dv S H t
 | .tell t=>(¬ H/\∀n∈an t,¬ S n)/\Dv S H t
 | .skip=>True
 | .ite t a b=>Dv S H t/\sfs S (H\/∃n∈an t,S n) a/\sfs S (H\/∃n∈an t,S n) b
 | .wh t a=>(¬ H/\∀n∈an t,¬ S n)/\Dv S H t/\sfs S (H\/∃n∈an t,S n) a
noncomputable def sfs (S:Txt->Prop)(H:Prop):List Rw->Prop
 | []=>True
 | r::rs=>r.sf S H/\sfs S H rs
end
theorem EG {r:Rw}(h:r.sf S H)(hr:r≠.skip):Dv S H r.ft:=by
 cases r with
 | set x t=>exact h.2
 | tell t=>exact h.2
 | skip=>exact absurd rfl hr
 | ite t a b=>exact h.1
 | wh t a=>exact h.2.1
structure Hi (S:Txt->Prop)(s s':St)(o:Option gC):Prop where
 o:o=bY
 turns:s'.turns=s.turns
 said:s'.said=s.said
 es:Lw S s.es s'.es
section
theorem qL (h:Ev k rs s s' o):∀⦃H:Prop⦄,H->sfs S H rs->eX p rs->bo s.es p->Hi S s s' o:=by
 refine Ev.rec (motive_1:=λk r s s' o _=>∀⦃H:Prop⦄,H->r.sf S H->r.okp p->bo s.es p->Hi S s s' o) (motive_2:=λk rs s s' o _=>∀⦃H:Prop⦄,H->sfs S H rs->eX p rs->bo s.es p->Hi S s s' o)
  ?_ ?_ ?_ ?_ ?_ ?_ ?_ ?_ ?_ ?_ ?_ ?_ ?_ h
 ·intro k s H hH hs ho g;exact ⟨rfl,rfl,rfl,λ_ _=>rfl⟩
 ·intro k r s hr hv H hH hs ho g;refine absurd hv (kN g (lH ho hr) ?_)
  cases q:dvs r.ft with
  | false=>rfl
  | true=>exact absurd hH (EG hs hr q).1
 ·intro k x t v s hv H hH hs ho g;exact ⟨rfl,rfl,rfl,Lw.hide _ (Kz λq=>(hs.1 q).1 hH) _⟩
 ·intro k t v s hv H hH hs ho g;exact absurd hH hs.1.1
 ·intro k t a b v s s' o hv h0 _ ih H hH hs ho g;exact ih (.inl hH) hs.2.1 ho.2.1 g
 ·intro k t a b s s' o hv _ ih H hH hs ho g;exact ih (.inl hH) hs.2.2 ho.2.2 g
 ·intro k t a s hv H hH hs ho g;exact absurd hH hs.1.1
 ·intro k t a v s hv h0 ht H hH hs ho g;exact absurd hH hs.1.1
 ·intro k t a v n s s₁ s' o hv h0 ht _ _ _ _ H hH hs ho g;exact absurd hH hs.1.1
 ·intro k t a v n s s₁ q hv h0 ht _ _ H hH hs ho g;exact absurd hH hs.1.1
 ·intro k s H hH hs ho g;exact ⟨rfl,rfl,rfl,λ_ _=>rfl⟩
 ·intro k r rs s s₁ s' o he _ i1 i2 H hH hs ho g;obtain ⟨a1,a2,a3,a4⟩:=i1 hH hs.1 ho.1 g;obtain ⟨b1,b2,b3,b4⟩:=i2 hH hs.2 ho.2 ((dN p r.size).1 he ho.1 (oF _) g).good;exact ⟨b1,b2.trans a2,b3.trans a3,a4.trans b4⟩
 ·intro k r rs s s₁ q he i1 H hH hs ho g;exact jF (i1 hH hs.1 ho.1 g).o
structure Al (S:Txt->Prop)(s z:St):Prop where
 turns:z.turns=s.turns
 said:z.said=s.said
 es:Lw S s.es z.es
theorem Al.hi (A:Al S s z)(h:Hi S s s' o)(k:Hi S z z' o'):o'=o/\Al S s' z':=⟨k.o.trans h.o.symm,k.turns.trans (A.turns.trans h.turns.symm),k.said.trans (A.said.trans h.said.symm),(h.es.symm.trans A.es).trans k.es⟩
theorem AI (h:Ev k rs s s' o):∀⦃H:Prop⦄,¬ H->sfs S H rs->eX p rs->bo s.es p->∀⦃z:St⦄,bo z.es p->Al S s z->∃z',Ev k rs z z' o/\Al S s' z':=by
 have both:∀{r:Rw} {H:Prop} {s z:St},r≠.skip->r.sf S H->r.okp p->bo s.es p->bo z.es p->Al S s z->(rk s.es r.ft=bY↔rk z.es r.ft=bY):=λ{r H s z} hr hs ho g g' A=>by
  cases q:dvs r.ft with
  | false=>exact ⟨λe=>absurd e (kN g (lH ho hr) q),λe=>absurd e (kN g' (lH ho hr) q)⟩
  | true=>
   have hn:=(EG hs hr q).2;exact ⟨qK g A.es (lH ho hr) hn,qK g' A.es.symm (lH ho hr) hn⟩
 have num:∀{r:Rw} {H:Prop} {s z:St} {v:Int},r≠.skip->r.sf S H->r.okp p->bo s.es p->bo z.es p->Al S s z->rk s.es r.ft=J v->∃w,rk z.es r.ft=J w:=λ{r H s z v} hr hs ho g g' A hv=>by
  cases e:rk z.es r.ft with
  | some w=>exact ⟨w,rfl⟩
  | none=>exact bc ((both hr hs ho g g' A).mpr e) hv
 have dark:∀{k:Int} {t:Tm} {a b:List Rw} {H:Prop} {s s' z:St} {v:Int} {o:Option gC},(∃n∈an t,S n)->(Rw.ite t a b).sf S H->(Rw.ite t a b).okp p->bo s.es p->bo z.es p->Al S s z->rk s.es t=J v->Hi S s s' o->∃z',EvR k (.ite t a b) z z' o/\Al S s' z':=λ{k t a b H s s' z v o} hS hs ho g g' A hv hi=>by
  obtain ⟨w,hw⟩:=num (r:=.ite t a b) (λe=>by cases e) hs ho g g' A hv;obtain ⟨e0,_⟩:=id hi;subst e0;by_cases h0:w=0
  ·obtain ⟨z',o',ev,_⟩:=uh b (k+1+ao a) z;have h2:=qL ev (.inr hS) hs.2.2 ho.2.2 g';obtain ⟨e1,_⟩:=id h2;subst e1 h0;exact ⟨z',.no hw ev,(A.hi hi h2).2⟩
  ·obtain ⟨z',o',ev,_⟩:=uh a (k+1) z;have h2:=qL ev (.inr hS) hs.2.1 ho.2.1 g';obtain ⟨e1,_⟩:=id h2;subst e1;exact ⟨z',.yes hw h0 ev,(A.hi hi h2).2⟩
 refine Ev.rec (motive_1:=λk r s s' o _=>∀⦃H:Prop⦄,¬ H->r.sf S H->r.okp p->bo s.es p->∀⦃z:St⦄,bo z.es p->Al S s z->∃z',EvR k r z z' o/\Al S s' z') (motive_2:=λk rs s s' o _=>∀⦃H:Prop⦄,¬ H->sfs S H rs->eX p rs->bo s.es p->∀⦃z:St⦄,bo z.es p->Al S s z->∃z',Ev k rs z z' o/\Al S s' z')
  ?_ ?_ ?_ ?_ ?_ ?_ ?_ ?_ ?_ ?_ ?_ ?_ ?_ h
 ·intro k s H hH hs ho g z g' A;exact ⟨z,.skip,A⟩
 ·intro k r s hr hv H hH hs ho g z g' A;exact ⟨z,.bad hr ((both hr hs ho g g' A).mp hv),A⟩
 ·intro k x t v s hv H hH hs ho g z g' A;by_cases hx:S x
  ·obtain ⟨w,hw⟩:=num (r:=.set x t) (λe=>by cases e) hs ho g g' A hv;exact ⟨_,.set hw,A.turns,A.said,((Lw.hide _ hx _).symm.trans A.es).trans (Lw.hide _ hx _)⟩
  ·exact ⟨_,.set ((fA A.es (hs.1 hx).2).symm.trans hv),A.turns,A.said,A.es.set _ _⟩
 ·intro k t v s hv H hH hs ho g z g' A;exact ⟨_,.tell ((fA A.es hs.1.2).symm.trans hv),A.turns,congrArg (·++[_]) A.said,A.es⟩
 ·intro k t a b v s s' o hv h0 h1 ih H hH hs ho g z g' A;by_cases hS:∃n∈an t,S n
  ·exact dark hS hs ho g g' A hv (qL h1 (.inr hS) hs.2.1 ho.2.1 g)
  ·obtain ⟨z',h2,A'⟩:=ih (λq=>q.elim hH hS) hs.2.1 ho.2.1 g g' A;exact ⟨z',.yes ((fA A.es λn hn q=>hS ⟨n,hn,q⟩).symm.trans hv) h0 h2,A'⟩
 ·intro k t a b s s' o hv h1 ih H hH hs ho g z g' A;by_cases hS:∃n∈an t,S n
  ·exact dark hS hs ho g g' A hv (qL h1 (.inr hS) hs.2.2 ho.2.2 g)
  ·obtain ⟨z',h2,A'⟩:=ih (λq=>q.elim hH hS) hs.2.2 ho.2.2 g g' A;exact ⟨z',.no ((fA A.es λn hn q=>hS ⟨n,hn,q⟩).symm.trans hv) h2,A'⟩
 ·intro k t a s hv H hH hs ho g z g' A;exact ⟨z,.done ((fA A.es hs.1.2).symm.trans hv),A⟩
 ·intro k t a v s hv h0 ht H hH hs ho g z g' A;exact ⟨z,.tired ((fA A.es hs.1.2).symm.trans hv) h0 (A.turns.trans ht),A⟩
 ·intro k t a v n s s₁ s' o hv h0 ht h1 h3 i1 i2 H hH hs ho g z g' A;obtain ⟨z₁,h4,A1⟩:=i1 (λq=>q.elim hH λ⟨n,hn,q⟩=>hs.1.2 n hn q) hs.2.2 ho.2 g (z:=⟨z.es,n,z.said⟩) g' ⟨rfl,A.said,A.es⟩;obtain ⟨z',h5,A2⟩:=i2 hH hs ho ((dN p (ao a)).2 h1 ho.2 (oF _) g).good ((dN p (ao a)).2 h4 ho.2 (oF _) g').good A1;exact ⟨z',.turn ((fA A.es hs.1.2).symm.trans hv) h0 (A.turns.trans ht) h4 h5,A2⟩
 ·intro k t a v n s s₁ q hv h0 ht h1 i1 H hH hs ho g z g' A;obtain ⟨z₁,h4,A1⟩:=i1 (λq=>q.elim hH λ⟨n,hn,q⟩=>hs.1.2 n hn q) hs.2.2 ho.2 g (z:=⟨z.es,n,z.said⟩) g' ⟨rfl,A.said,A.es⟩;exact ⟨z₁,.stop ((fA A.es hs.1.2).symm.trans hv) h0 (A.turns.trans ht) h4,A1⟩
 ·intro k s H hH hs ho g z g' A;exact ⟨z,.nil,A⟩
 ·intro k r rs s s₁ s' o h1 h3 i1 i2 H hH hs ho g z g' A;obtain ⟨z₁,h4,A1⟩:=i1 hH hs.1 ho.1 g g' A;obtain ⟨z',h5,A2⟩:=i2 hH hs.2 ho.2 ((dN p r.size).1 h1 ho.1 (oF _) g).good ((dN p r.size).1 h4 ho.1 (oF _) g').good A1;exact ⟨z',.cons h4 h5,A2⟩
 ·intro k r rs s s₁ q h1 i1 H hH hs ho g z g' A;obtain ⟨z₁,h4,A1⟩:=i1 hH hs.1 ho.1 g g' A;exact ⟨z₁,.stop h4,A1⟩
end
noncomputable abbrev oJ:Txt:=[116,117,114,110]
noncomputable def ats (ab:List Tm):List Txt:=ab.flatMap λt=>aK (an t)
noncomputable def Rw.fs:Rw->List Txt
 | .skip=>[]
 | r=>aK (an r.ft)
noncomputable def fB (r:Rw)(ab:List Tm):List Txt:=aK (ats ab++r.fs)
theorem gY:n∈ats ab↔∃t∈ab,n∈an t:=by
 unfold ats;rw [Mh];exact ⟨λ⟨t,h,k⟩=>⟨t,h,aE.mp k⟩,λ⟨t,h,k⟩=>⟨t,h,aE.mpr k⟩⟩
theorem AJ {r:Rw}(hr:r≠.skip):n∈r.fs↔n∈an r.ft:=by
 cases r with
 | skip=>exact absurd rfl hr
 | set s t=>exact aE
 | tell t=>exact aE
 | ite t a b=>exact aE
 | wh t a=>exact aE
theorem kO {r:Rw}(hr:r≠.skip):n∈fB r ab↔n∈ats ab\/n∈an r.ft:=by
 unfold fB;rw [aE,nO,AJ hr]
noncomputable abbrev Flw:=Int × Txt × Txt
noncomputable def qfl (q:Num):List Flw:=match q.2.1 with
 | .set x t=>(fB (.set x t) q.2.2).map λs=>(q.1,s,x)
 | _=>[]
noncomputable def cw (qs:List Num):List Flw:=qs.flatMap qfl
inductive Rch (A B:List Txt)(fl:List Flw):Txt->Prop
 | base {x} (h:x∈B):Rch A B fl x
 | step {k s x} (h:(k,s,x)∈fl) (hs:Rch A B fl s) (hA:x∉A) (hB:x∉B):Rch A B fl x
noncomputable abbrev Lk:=Txt × List Txt
noncomputable def lk1 (A:List Txt)(r:Rw)(ab:List Tm):List Lk:=match r with
 | .set x t=>match A.contains x with
  | true=>[(cO,fB (.set x t) ab)]
  | false=>[]
 | _=>[]
noncomputable def lk2 (r:Rw)(ab:List Tm):List Lk:=match r with
 | .tell t=>[(dJ,fB (.tell t) ab)]
 | _=>[]
noncomputable def lk3 (r:Rw)(ab:List Tm):List Lk:=match r with
 | .wh t a=>[(oJ,fB (.wh t a) ab)]
 | _=>[]
noncomputable def lk4 (r:Rw)(ab:List Tm):List Lk:=match dvs r.ft with
 | true=>[(mU,aK (rn r.ft)++ats ab)]
 | false=>[]
noncomputable def lks (A:List Txt)(r:Rw)(ab:List Tm):List Lk:=lk1 A r ab++lk2 r ab++lk3 r ab++lk4 r ab
section
variable {S:Txt->Prop}
structure lJ (S:Txt->Prop)(A:List Txt)(qs:List Num):Prop where
 lk:∀q∈qs,∀l∈lks A q.2.1 q.2.2,∀n∈l.2,¬ S n
 cl:∀f∈cw qs,S f.2.1->f.2.2∉A->S f.2.2
theorem lJ.left (h:lJ S A (qs++qs')):lJ S A qs:=⟨λq hq=>h.lk q (tO _ hq),λf hf=>h.cl f (by unfold cw;rw [Mo];exact tO _ hf)⟩
theorem lJ.right (h:lJ S A (qs++qs')):lJ S A qs':=⟨λq hq=>h.lk q (AT _ hq),λf hf=>h.cl f (by unfold cw;rw [Mo];exact AT _ hf)⟩
theorem qM:(∃n∈ats (ab++[t]),S n)=((∃n∈ats ab,S n)\/∃n∈an t,S n):=by
 refine propext ⟨λ⟨n,h,k⟩=>?_,λh=>?_⟩
 ·obtain ⟨u,hu,hn⟩:=gY.mp h
  rcases nO.mp hu with hu | hu
  ·exact .inl ⟨n,gY.mpr ⟨u,hu,hn⟩,k⟩
  ·rw [iD.mp hu] at hn;exact .inr ⟨n,hn,k⟩
 ·rcases h with ⟨n,h,k⟩ | ⟨n,h,k⟩
  ·obtain ⟨u,hu,hn⟩:=gY.mp h;exact ⟨n,gY.mpr ⟨u,tO _ hu,hn⟩,k⟩
  ·exact ⟨n,gY.mpr ⟨t,AT _ (iD.mpr rfl),h⟩,k⟩
theorem mV (h:lJ S A qs)(hq:q∈qs):Dv S (∃n∈ats q.2.2,S n) q.2.1.ft:=λhd=>by
 have key:∀n∈aK (rn q.2.1.ft)++ats q.2.2,¬ S n:=h.lk q hq (mU,_) (AT _ (by unfold lk4;rw [hd];exact .head _));exact ⟨λ⟨n,hn,k⟩=>key n (AT _ hn) k,λn hn=>key n (tO _ (aE.mpr hn))⟩
theorem oK (hr:r≠.skip)(h:∀n∈fB r ab,¬ S n):(¬ ∃n∈ats ab,S n)/\∀n∈an r.ft,¬ S n:=
 ⟨λ⟨n,hn,k⟩=>h n ((kO hr).mpr (.inl hn)) k,λn hn=>h n ((kO hr).mpr (.inr hn))⟩
mutual
theorem DK:∀(r:Rw) {k:Int}{ab:List Tm},lJ S A (r.num k ab)->r.sf S (∃n∈ats ab,S n)
 | .set x t,k,ab,h=>by
  refine ⟨λhx=>oK (r:=.set x t) (λe=>by cases e) λn hn hS=>?_,mV (q:=(k,.set x t,ab)) h (.head _)⟩
  cases q:A.contains x with
  | true=>
   refine h.lk (k,.set x t,ab) (.head _) (cO,fB (.set x t) ab) ?_ n hn hS;refine tO _ (tO _ (tO _ ?_));show _∈(match A.contains x with | true=>_ | false=>_);rw [q];exact .head _
  | false=>
   refine hx (h.cl (k,n,x) (Mh.mpr ⟨_,.head _,KW.mpr ⟨n,hn,rfl⟩⟩) hS λhA=>?_);rw [KL.mpr hA] at q;exact tf q
 | .tell t,k,ab,h=>⟨oK (r:=.tell t) (λe=>by cases e) (h.lk (k,.tell t,ab) (.head _) (dJ,_) (tO _ (tO _ (AT _ (.head _))))),mV (q:=(k,.tell t,ab)) h (.head _)⟩
 | .skip,k,ab,h=>trivial
 | .ite t a b,k,ab,h=>by
  have h2:lJ S A ([(k,.ite t a b,ab)]++(nums (k+1) (ab++[t]) a++nums (k+1+ao a) (ab++[t]) b)):=h;refine ⟨mV (q:=(k,.ite t a b,ab)) h (.head _),?_,?_⟩
  ·rw [<-qM];exact iP a h2.right.left
  ·rw [<-qM];exact iP b h2.right.right
 | .wh t a,k,ab,h=>by
  have h2:lJ S A ([(k,.wh t a,ab)]++nums (k+1) (ab++[t]) a):=h;refine ⟨oK (r:=.wh t a) (λe=>by cases e) (h.lk (k,.wh t a,ab) (.head _) (oJ,_) (tO _ (AT _ (.head _)))),mV (q:=(k,.wh t a,ab)) h (.head _),?_⟩;rw [<-qM];exact iP a h2.right
theorem iP:∀(rs:List Rw) {k:Int}{ab:List Tm},lJ S A (nums k ab rs)->sfs S (∃n∈ats ab,S n) rs
 | [],_,_,_=>trivial
 | r::rs,k,ab,h=>⟨DK r (lJ.left h),iP rs (lJ.right (qs:=r.num k ab) h)⟩
end
end
theorem AK (hm:∀q∈nums 1 [] rows,∀l∈lks A q.2.1 q.2.2,∀n∈l.2,¬ Rch A B (cw (nums 1 [] rows)) n)(ho:eX p rows)(g:bo s.es p)(g':bo z.es p)(ha:Al (Rch A B (cw (nums 1 [] rows))) s z)(h1:Ev 1 rows s s' o) :
  ∃z',Ev 1 rows z z' o/\Al (Rch A B (cw (nums 1 [] rows))) s' z':=by
 refine AI h1 (H:=∃n∈ats [],Rch A B (cw (nums 1 [] rows)) n) (λ⟨n,hn,_⟩=>aO hn) (iP rows ⟨hm,λf hf hS hA=>?_⟩) ho g g' ha;obtain ⟨k,s,x⟩:=f;by_cases hB:x∈B
 ·exact .base hB
 ·exact .step hf hS hA hB
section
mutual
theorem Hy {P:Tm->Prop}:∀(r:Rw) {k:Int}{ab:List Tm},(∀q∈r.num k ab,P q.2.1.ft)->(∀t∈ab,P t)->∀q∈r.num k ab,(∀t∈q.2.2,P t)/\q.2.2.length<=ab.length+r.nest
 | .set s t,k,ab,h,ha,q,hq=>by rw [iD.mp hq];exact ⟨ha,oF _⟩
 | .tell t,k,ab,h,ha,q,hq=>by rw [iD.mp hq];exact ⟨ha,oF _⟩
 | .skip,k,ab,h,ha,q,hq=>by rw [iD.mp hq];exact ⟨ha,oF _⟩
 | .ite t a b,k,ab,h,ha,q,hq=>by
  have hb:∀u∈ab++[t],P u:=λu hu=>(nO.mp hu).elim (ha u) λe=>by rw [iD.mp e];exact h (k,.ite t a b,ab) (.head _)
  rcases IF.mp hq with rfl | hq
  ·exact ⟨ha,K5 _ _⟩
  ·show _/\_<=ab.length+(max (ak a) (ak b)+1)
   rcases nO.mp hq with hq | hq
   ·obtain ⟨h1,h2⟩:=kP a (λq hq=>h q (.tail _ (tO _ hq))) hb q hq;rw [eQ,Kx] at h2;exact ⟨h1,n2 h2 (KF (ak a) (ak b))⟩
   ·obtain ⟨h1,h2⟩:=kP b (λq hq=>h q (.tail _ (AT _ hq))) hb q hq;rw [eQ,Kx] at h2;exact ⟨h1,n2 h2 (KI (ak a) (ak b))⟩
 | .wh t a,k,ab,h,ha,q,hq=>by
  have hb:∀u∈ab++[t],P u:=λu hu=>(nO.mp hu).elim (ha u) λe=>by rw [iD.mp e];exact h (k,.wh t a,ab) (.head _)
  rcases IF.mp hq with rfl | hq
  ·exact ⟨ha,K5 _ _⟩
  ·obtain ⟨h1,h2⟩:=kP a (λq hq=>h q (.tail _ hq)) hb q hq;rw [eQ,Kx] at h2;exact ⟨h1,show _<=ab.length+(ak a+1) from n1 h2 (by simp +arith only)⟩
theorem kP {P:Tm->Prop}:∀(rs:List Rw) {k:Int}{ab:List Tm},(∀q∈nums k ab rs,P q.2.1.ft)->(∀t∈ab,P t)->∀q∈nums k ab rs,(∀t∈q.2.2,P t)/\q.2.2.length<=ab.length+ak rs
 | [],_,_,_,_,q,hq=>aO hq
 | r::rs,k,ab,h,ha,q,hq=>by
  show _/\_<=ab.length+max r.nest (ak rs)
  rcases nO.mp (show q∈r.num k ab++nums (k+r.size) ab rs from hq) with hq | hq
  ·obtain ⟨h1,h2⟩:=Hy r (λq hq=>h q (tO _ hq)) ha q hq;exact ⟨h1,n2 h2 (KF r.nest (ak rs))⟩
  ·obtain ⟨h1,h2⟩:=kP rs (λq hq=>h q (AT _ hq)) ha q hq;exact ⟨h1,n2 h2 (KI r.nest (ak rs))⟩
end
theorem mW {r:Rw}(h:r.good):r.ft.good:=by
 cases r with
 | set s t=>exact h.2
 | tell t=>exact h
 | skip=>exact ⟨⟨Int.le_refl 0,by decide⟩,Ko _⟩
 | ite t a b=>exact h.1
 | wh t a=>exact h.1
theorem Hz {r:Rw}(h:n∈an r.ft):n∈r.nms:=by
 cases r with
 | set s t=>exact .tail _ (aE.mpr h)
 | tell t=>exact aE.mpr h
 | skip=>exact aO h
 | ite t a b=>exact aE.mpr h
 | wh t a=>exact aE.mpr h
structure pT (T:List Txt)(q:Num):Prop where
 good:q.2.1.good
 tg:∀t∈q.2.2,t.good
 am:∀n∈ats q.2.2,n∈T
 fn:∀n∈an q.2.1.ft,n∈T
 len:q.2.2.length<=7
theorem LF.nums {A B:List Txt}{rows:List Rw}(F:LF A B rows):∀q∈nums 1 [] rows,pT (aK (ay A B rows)) q:=λq hq=>by
 have key:∀q∈Internal.nums 1 [] rows,q.2.1.ft.good/\∀n∈Internal.an q.2.1.ft,n∈aK (ay A B rows):=λq hq=>⟨mW (dy F.g q hq),λn hn=>aE.mpr (AT _ (Mh.mpr ⟨q,hq,Hz hn⟩))⟩
 obtain ⟨h1,h2⟩:=kP rows (P:=λt=>t.good/\∀n∈Internal.an t,n∈aK (ay A B rows)) key (λ_ h=>aO h) q hq;refine ⟨dy F.g q hq,λt ht=>(h1 t ht).1,λn hn=>?_,(key q hq).2,dO h2 (by rw [NC,L5];exact F.ne)⟩;obtain ⟨t,ht,hn⟩:=gY.mp hn;exact (h1 t ht).2 n hn
theorem d6 (h:t.good):(aK (an t)).length<=8:=dO (iH _) (dO (dj t) h.lv)
theorem AL (ab:List Tm)(t:Tm):ats (ab++[t])=ats ab++aK (an t):=by
 unfold ats;rw [Mo];exact congrArg (_++·) (Kr _)
theorem mX:∀{ab:List Tm},(∀t∈ab,t.good)->(ats ab).length<=8 * ab.length
 | [],_=>oF _
 | t::ab,h=>by
  have h1:=d6 (h t (.head _));have h2:=mX (ab:=ab) λu hu=>h u (.tail _ hu);show (aK (an t)++ats ab).length<=8 * (ab.length+1);rw [eQ];exact n2 h2 h1
theorem HA {r:Rw}(h:r.good):r.fs.length<=8:=by
 cases r with
 | skip=>exact Ko _
 | set s t=>exact d6 h.2
 | tell t=>exact d6 h
 | ite t a b=>exact d6 h.1
 | wh t a=>exact d6 h.1
noncomputable abbrev AM:Txt:=[111,112,101,110]
noncomputable abbrev wc:Txt:=[115,101,99,114,101,116]
noncomputable abbrev AN:Txt:=[102,114,101,101]
noncomputable def g8 (A B:List Txt)(x:Txt):Txt:=match A.contains x with
 | true=>AM
 | false=>match B.contains x with
  | true=>wc
  | false=>AN
noncomputable def hJ (f:Flw):MV:=.tup [.int f.1,.str f.2.1,.str f.2.2]
theorem we (o:pT T q)(hT:T.length<64):(qfl q).length<=63:=by
 obtain ⟨k,r,ab⟩:=q
 cases r with
 | set x t=>
  show ((fB (.set x t) ab).map _).length<=63;rw [iF];exact LK (Kn (kB (t:=T) λn hn=>(nO.mp hn).elim (o.am n) λhn=>o.fn n (aE.mp hn)) hT)
 | _=>exact Ko _
theorem sG (hT:T.length<64):∀{qs:List Num},(∀q∈qs,pT T q)->(cw qs).length<=63 * qs.length
 | [],_=>oF _
 | q::qs,h=>by
  have h1:=we (h q (.head _)) hT;have h2:=sG hT (qs:=qs) λx hx=>h x (.tail _ hx);show (qfl q++cw qs).length<=63 * (qs.length+1);rw [eQ];exact n2 h2 h1
theorem oL (a b:List Num):cw (a++b)=cw a++cw b:=Mo ..
theorem HB {A B:List Txt}(q:A.contains x=aT):g8 A B x=AM:=by unfold g8;rw [q]
theorem HC {A B:List Txt}(q:A.contains x=Z)(p:B.contains x=aT):g8 A B x=wc:=by unfold g8;rw [q,p]
theorem HD {A B:List Txt}(q:A.contains x=Z)(p:B.contains x=Z):g8 A B x=AN:=by unfold g8;rw [q,p]
variable (hK:aD PP K)
include hK
theorem wf {ab:List Tm}(hg:∀t∈ab,t.good)(hl:ab.length<=7)(hN:6<N)(hq:∀h',h<+:h'->h'[h.length]?=J (.list ((ats ab).map .str))->Q (.ref h.length) h'):K N 101 [.tup (ab.map Tm.mv)] Q X h:=by
 refine kc hK im hN rfl rfl λM hM=>?_;refine gT (λj w hp=>⟨[J (.tup (ab.map Tm.mv)),J (.ref h.length),w],hp⟩) (λj w hp=>h<+:hp/\hp[h.length]?=J (.list ((ats (ab.take j)).map .str))) bY _ rfl ⟨aa (aj _),ac _ _⟩ (λ_ _ _ _=>trivial) (λj x w hp P hx hI hn _=>?_) (λw hp hI=>?_)
 ·refine rV (G:=λx=>asg [2] Z x _ _) hx λt ht=>?_;have hg1:=hg t (rW ht);refine az (e8 hI.2) ?_;refine jQ hK (by have:=hg1.2;exact n2 this hM) hg1.1 (dO hg1.lv (nb rfl)) λi h2 p2 _ e2=>?_;have e3:=af p2 hI.2;have l1:=mX (ab:=ab.take j) λu hu=>hg u (LW hu);refine aV (aU e3) (aV (aU e2) ⟨aR (by rw [iF,iF];exact dO (KH (dO l1 (KP 8 (dO (N7 ..) hl))) (d6 hg1)) (nb rfl)),?_⟩);refine hn _ _ ⟨aF (hI.1.trans p2) (oF _),?_⟩;rw [aq ht,AL,KB];exact get_set e3
 ·have:=hI.2;rw [iF,KD] at this;exact hq hp hI.1 this
theorem AO {T:List Txt}{k:Int}{r:Rw}{ab:List Tm}(o:pT T (k,r,ab))(hT:T.length<64)(hN:7<N)(hq:∀h' i,h<+:h'->h.length<=i->h'[i]?=J (.list ((fB r ab).map .str))->Q (.ref i) h'):K N 102 [r.mv,.tup (ab.map Tm.mv)] Q X h:=by
 have few:(aK (ats ab++r.fs)).length<64:=Kn (kB (t:=T) λn hn=>(nO.mp hn).elim (o.am n) λhn=>by
  by_cases hs:r=.skip
  ·rw [hs] at hn;exact aO hn
  ·exact o.fn n ((AJ hs).mp hn)) hT
 have la:(ats ab).length<=8 * 7:=dO (mX o.tg) (KP 8 o.len);refine kc hK jw hN rfl rfl λM hM=>?_;refine wf hK o.tg o.len hM λh1 p1 e1=>?_;have p1:h<+:h1:=p1;have last:∀{hp:List MO} {i:Nat},h1<+:hp->hp[i]?=J (.list ((ats ab++r.fs).map .str))->aA K M [.ret (.blt .sortedSet [.var 2])] (fin Q) (xin X) ⟨[J r.mv,J (.tup (ab.map Tm.mv)),J (.ref i)],hp⟩:=λ{hp i} p e=>ae e (.mk (ats ab++r.fs) rfl few (by rw [eQ];exact Kn (KH la (HA o.good)) (nb rfl)) (hq _ _ (aa (p1.trans p)) (dO p1.length_le p.length_le) (ac _ _)));have more:∀{t:Tm},r.fm=t.mv->r.fs=aK (an t)->t.good->aA K M [.asg [2] Z (.bin .add (.var 2) (.call 1 [.call 26 [.var 0]])),.ret (.blt .sortedSet [.var 2])] (fin Q) (xin X) ⟨[J r.mv,J (.tup (ab.map Tm.mv)),J (.ref h.length)],h1⟩:=λ{t} h2 h3 ht=>by
  refine mj hK (gv (jD (n:=0) r)) (dO (nb rfl) hM) ?_;rw [h2];refine jQ hK (by have:=ht.2;exact n2 this hM) ht.1 (dO ht.lv (nb rfl)) λi h4 p4 _ e4=>?_;refine ae (af p4 e1) (ae e4 ⟨bG (dO (KH la (d6 ht)) (nb rfl)),last (aa p4) ?_⟩);rw [h3];exact bW _ _ _
 cases r with
 | skip=>exact last (aj _) (by rw [show ats ab++Rw.fs .skip=ats ab from Kr _];exact e1)
 | set s t=>exact more rfl rfl o.good.2
 | tell t=>exact more rfl rfl o.good
 | ite t a b=>exact more rfl rfl o.good.1
 | wh t a=>exact more rfl rfl o.good.1
theorem AP {i:Nat}{A B:List Txt}{rows:List Rw}{x:Txt}(hp:bw h i A B rows)(hg:∀s∈A++B,Gn s)(hx:okS x)(hN:0<N)(hq:Q (.str (g8 A B x)) h):K N 65 [.inst 0 i,.str x] Q X h:=by
 obtain ⟨a,b,h1,h2,h3⟩:=hp;refine kc hK g6 hN rfl rfl λM _=>?_;refine aZ h1 (av h2 (bV hx (λs hs=>(hg s (tO _ hs)).1.ok) ?_));refine dP (λq=>by rw [HB q] at hq;exact hq) λq=>?_;refine aZ h1 (av h3 (bV hx (λs hs=>(hg s (AT _ hs)).1.ok) ?_));exact dP (λp=>by rw [HC q p] at hq;exact hq) λp=>by rw [HD q p] at hq;exact hq
omit hK in
theorem Jl {x:Txt}{t:Tm}{ab:List Tm}{k:Int}{r5:Nat}{v0 v1 v5:Option MV}{P:PQ}{hp:List MO}(e5:hp[r5]?=J (.list ((fB (.set x t) ab).map .str)))(hq:P (.ref hp.length) ⟨[v0,v1,J (.int k),J (Rw.mv (.set x t)),J (.tup (ab.map Tm.mv)),v5],hp++[.list ((qfl (k,.set x t,ab)).map hJ)]⟩) :
  wC (dz .val [.ref r5] hp) λitems g=>dA g (El [5] Z (lO K N []) (wpE K N (.tup [.var 2,.var 5,.idx (.var 3) (.cst (.int 1))]))) (Ia P [v0,v1,J (.int k),J (Rw.mv (.set x t)),J (.tup (ab.map Tm.mv)),v5]) items [] ⟨[v0,v1,J (.int k),J (Rw.mv (.set x t)),J (.tup (ab.map Tm.mv)),v5],hp⟩:=by
 refine aI (aG e5) ?_;refine kz (λw=>⟨[v0,v1,J (.int k),J (Rw.mv (.set x t)),J (.tup (ab.map Tm.mv)),w],hp⟩) (λj=>((qfl (k,.set x t,ab)).map hJ).take j) _ rfl rfl (λ_=>e5) (λj z w P hz n1 n2=>?_) (λw=>?_)
 ·obtain ⟨s,hs1,rfl⟩:=EQ.mp (ID ..▸hz);refine n1 _ _ (aq ?_);show (((fB (.set x t) ab).map λs=>(k,s,x)).map hJ)[j]?=_;rw [ID,ID,hs1];rfl
 ·rw [show ((fB (.set x t) ab).map MV.str).length=((qfl (k,.set x t,ab)).map hJ).length by show _=(((fB (.set x t) ab).map λs=>(k,s,x)).map hJ).length;rw [iF,iF,iF],KD];exact hq
theorem DL {i:Nat}{A B:List Txt}{rows:List Rw}(hp:bw h i A B rows)(F:LF A B rows)(hN:9<N)
  (hq:∀h' r,h<+:h'->h.length<=r->h'[r]?=J (.list ((cw (nums 1 [] rows)).map hJ))->Q (.ref r) h'):K N 103 [.inst 0 i] Q X h:=by
 obtain ⟨a,b,h1,_,_⟩:=id hp;have p1:h<+:h++[.list []]:=aa (aj _);refine kc hK rS hN rfl rfl λM hM=>?_;refine az (eV (af p1 h1) rfl) ?_;refine jR hK (hp.up p1) (dO (nb rfl) hM) ?_;refine fv hK rows (k:=1) (ab:=[]) (dO F.sz (nb rfl)) (by show 0+_<=_;exact n1 F.ne) (n2 hM F.ne) λh4 p4 e4=>?_;have p4:h++[.list []]<+:h4:=p4;refine aI (aG e4) ?_;refine mM (λj w2 w3 w4 w5 hp=>⟨[J (.inst 0 i),J (.ref h.length),w2,w3,w4,w5],hp⟩) (λj w2 w3 w4 w5 hp=>A3 (h<+:hp) (hp[h.length]?=J (.list ((cw ((nums 1 [] rows).take j)).map hJ))) (hp[(h++[MO.list []]).length]?=J (.list ((nums 1 [] rows).map cT))))
  bY bY bY bY _ rfl ⟨p1.trans p4,af p4 (ac _ _),e4⟩ (λ_ _ _ _ _ _ hI=>hI.h3) (λj x w2 w3 w4 w5 hp P hx hI hn _=>?_) (λw2 w3 w4 w5 hp hI=>?_)
 ·obtain ⟨⟨k,r,ab⟩,hq1,rfl⟩:=EQ.mp (ID ..▸hx);have o:=F.nums _ (rW hq1);refine ⟨rfl,?_⟩;have skip:qfl (k,r,ab)=[]->P .next ⟨[J (.inst 0 i),J (.ref h.length),J (.int k),J r.mv,J (.tup (ab.map Tm.mv)),w5],hp⟩:=λe=>hn _ _ _ _ _ ⟨hI.h1,by rw [aq hq1,oL,show cw [(k,r,ab)]=[] from (Kr _).trans e,Kr];exact hI.h2,hI.h3⟩
  cases r with
  | skip=>exact skip rfl
  | tell t=>exact skip rfl
  | ite t a b=>exact skip rfl
  | wh t a=>exact skip rfl
  | set x t=>
   refine az (e8 hI.h2) ?_;refine AO hK o F.few (n1 hM) λh5 r5 p5 _ e5=>?_;have p5:hp<+:h5:=p5;refine Jl e5 ?_;have q4:=ai (o':=.list ((qfl (k,.set x t,ab)).map hJ)) (af p5 hI.h2);refine aV (aU q4) (aV (aU (ac _ _)) ⟨aR ?_,?_⟩)
   ·have lt:=sG F.few (qs:=(nums 1 [] rows).take j) λx hx=>F.nums x (LW hx);rw [iF,iF];exact dO (KH (dO lt (KP 63 (dO (N7 ..) (by rw [bE];exact F.sz)))) (we o F.few)) (nb rfl)
   refine hn _ _ _ _ _ ⟨aF (aa (hI.h1.trans p5)) (oF _),?_,ap (by rw [eQ];exact KA (Lp _)) (ai (af p5 hI.h3))⟩;rw [aq hq1,oL,show cw [(k,.set x t,ab)]=qfl (k,.set x t,ab) from Kr _,KB];exact get_set q4
 ·have:=hI.h2;rw [iF,KD] at this;exact hq _ _ hI.h1 (oF _) this
end
section
noncomputable def Kg (hp:List MO)(w:Nat)(v:MV)(n:Nat):Prop:=∃i ps,v=.ref i/\w<i/\hp[i]?=J (.list ps)/\ps.length<=n
theorem AQ:(aN es x).isSome=aT↔x∈es.map (·.1):=by
 constructor
 ·intro h;obtain ⟨v,e⟩:=K6.mp h;exact KW.mpr ⟨_,pP e,rfl⟩
 ·intro h;obtain ⟨v,e,_⟩:=oE h;rw [e];rfl
theorem AR {l:List Txt}(h:l.contains x=Z):x∉l:=λq=>by rw [KL.mpr q] at h;exact tf h
theorem pU {A B:List Txt}{x:Txt}:(g8 A B x==AN)=aT↔x∉A/\x∉B:=by
 unfold g8
 cases q3:A.contains x with
 | true=>exact ⟨λh=>ff h,λh=>absurd (KL.mp q3) h.1⟩
 | false=>
  cases q4:B.contains x with
  | true=>exact ⟨λh=>ff h,λh=>absurd (KL.mp q4) h.2⟩
  | false=>exact ⟨λ_=>⟨AR q3,AR q4⟩,λ_=>rfl⟩
structure RI (h:List MO)(T:List Txt)(hp:List MO)(es:ES)(ws:List Txt):Prop where
 pre:h<+:hp
 d:hp[h.length]?=J (.dict es)
 w:hp[h.length+1]?=J (.list (ws.map .str))
 keys:es.map (·.1)=ws
 nd:ws.Nodup
 rd:∀e∈es,Kg hp (h.length+1) e.2 ws.length
 sub:∀x∈ws,x∈T
section
theorem RI.up (r:RI h T hp es ws)(p:hp<+:hp'):RI h T hp' es ws:=⟨r.pre.trans p,af p r.d,af p r.w,r.keys,r.nd,λe he=>let ⟨i,ps,h1,h2,h3,h4⟩:=r.rd e he;⟨i,ps,h1,h2,af p h3,h4⟩,r.sub⟩
theorem RI.few (r:RI h T hp es ws)(hT:T.length<64):ws.length<64:=Kn (jO ws T r.nd r.sub) hT
theorem RI.len (r:RI h T hp es ws):es.length=ws.length:=by rw [<-r.keys,iF]
theorem RI.add (r:RI h T hp es ws)(hx:x∉ws)(hT:x∈T)(hi:h.length+1<i)(e:hp[i]?=J (.list ps))(hl:ps.length<=ws.length+1) :
  RI h T ((hp.set h.length (.dict (bH es x (.ref i)))).set (h.length+1) (.list ((ws++[x]).map .str))) (bH es x (.ref i)) (ws++[x]):=by
 have hd:bH es x (.ref i)=es++[(x,.ref i)]:=iI (by rw [r.keys];exact hx);have keep:∀{j:Nat} {o:MO},h.length+1<j->hp[j]?=J o->((hp.set h.length (.dict (bH es x (.ref i)))).set (h.length+1) (.list ((ws++[x]).map .str)))[j]?=J o:=λhj ho=>ap (KA hj) (ap (KA (LY (Lp _) hj)) ho);refine ⟨aF (aF r.pre (oF _)) (Ma _),ap (MN _) (get_set r.d),get_set (ap (LP (MN _)) r.w),?_,?_,λq hq=>?_,λy hy=>?_⟩
 ·rw [hd,KB,r.keys];rfl
 ·exact K1.mpr ⟨r.nd,Mm.mpr ⟨LD,MT⟩,λa ha b hb e=>hx (by rw [<-iD.mp hb,<-e];exact ha)⟩
 ·rw [eQ];rw [hd] at hq;refine (nO.mp hq).elim (λhq=>?_) λhq=>?_
  ·obtain ⟨i',ps',h1,h2,h3,h4⟩:=r.rd q hq;exact ⟨i',ps',h1,h2,keep h2 h3,Mz h4⟩
  ·rw [iD.mp hq];exact ⟨i,ps,rfl,hi,keep hi e,hl⟩
 ·exact (nO.mp hy).elim (r.sub y) λhy=>by rw [iD.mp hy];exact hT
theorem RI.put (r:RI h T hp es ws)(hT':T.length<64)(hx:x∉ws)(hT:x∈T)(hi:h.length+1<i)(e:hp[i]?=J (.list ps))(hl:ps.length<=ws.length+1)(h1:∀hp,(MS.mk vs hp).get 1=J (.ref h.length))(h2:∀hp,(MS.mk vs hp).get 2=J (.ref (h.length+1)))(h3:∀hp,(MS.mk vs hp).get 3=J (.str x))
  (hq:∀hp',RI h T hp' (bH es x (.ref i)) (ws++[x])->(∀j o,h.length+1<j->hp[j]?=J o->hp'[j]?=J o)->P .next ⟨vs,hp'⟩) :
  wpE K N (.var 1) (yf (wpE K N (.var 3)) (Il (aA K N [.expr (.mth .append (.var 2) [.var 3])]) P X) X (.ref i)) X ⟨vs,hp⟩:=by
 have few:=r.few hT';refine eR (h1 _) (eR (K:=K) (n:=N) (X:=X) (h3 _) ?_);refine bT r.d ⟨by rw [r.len];exact LY few (by unfold line;decide),?_⟩;refine eR (K:=K) (n:=N) (X:=X) (h2 _) ?_;have hw:(hp.set h.length (.dict (bH es x (.ref i))))[h.length+1]?=J (.list (ws.map .str)):=ap (LP (MN _)) r.w;refine az (aH hw) (eR (K:=K) (n:=N) (X:=X) (h3 _) (aV (aU hw) ⟨by rw [iF];exact LY few (by unfold line;decide),?_⟩));have r3:=r.add hx hT hi e hl;have:=hq _ r3 λj o hj ho=>ap (KA hj) (ap (KA (LY (Lp _) hj)) ho);rw [KB] at this;exact this
end
variable (hK:aD PP K)
include hK
theorem xU {h:List MO}{T A B:List Txt}{fl:List Flw}{hp:List MO}(r:RI h T hp es ws)(hT:T.length<64)(hpg:bw h i A B rows)(hg:∀s∈A++B,Gn s)(hx:okS x)(hxT:x∈T)(hs:src∈ws)(hN:0<N)
  (hf:h.length+1<f) (hfl:hp[f]?=J (.list (fl.map hJ)))
  (hq:∀hp' es' ws',RI h T hp' es' ws'->hp'[f]?=J (.list (fl.map hJ))->(ws'=ws\/(ws'=ws++[x]/\s=src/\x∉A/\x∉B))->(s=src->x∉A->x∉B->x∈ws')->P .next ⟨[J (.inst 0 i),J (.ref h.length),J (.ref (h.length+1)),J (.str x),J (.ref f),J (.int at_),J (.str src),J (.int k),J (.str s)],hp'⟩) :
  asg [7,8,3] aT (hJ (k,s,x)) (λm=>aA K N [.ite (.and [.cmp .eq (.var 8) (.var 6),.cmp .nin (.var 3) (.var 1),.cmp .eq (.umth 0 65 [107,105,110,100] (.var 0) [.var 3]) (.cst (.str [102,114,101,101]))]) [.setIdx (.var 1) (.var 3) (.bin .add (.idx (.var 1) (.var 6)) (.list [.tup [.var 7,.var 3]])),.expr (.mth .append (.var 2) [.var 3])] []] P X m) ⟨[J (.inst 0 i),J (.ref h.length),J (.ref (h.length+1)),v3,J (.ref f),J (.int at_),J (.str src),w7,w8],hp⟩:=by
 obtain ⟨a,b,h1,_,_⟩:=hpg.up r.pre;have few:=r.few hT;refine ⟨rfl,?_⟩;refine sZ (λq1=>hq hp es ws r hfl (.inl rfl) λe=>by rw [e,beq_self_eq_true] at q1;exact tf q1) λq1=>?_;refine iU r.d ?_;refine sZ (λq2=>hq hp es ws r hfl (.inl rfl) λ_ _ _=>r.keys▸AQ.mp (Bool.not_eq_false' ..▸q2)) λq2=>?_;have hnew:x∉ws:=λhx=>by rw [AQ.mpr (r.keys.symm▸hx)] at q2;exact ff q2
 refine az (eV h1 rfl) ?_;refine AP hK (hpg.up r.pre) hg hx hN ?_;refine sZ (λq3=>hq hp es ws r hfl (.inl rfl) λ_ hA hB=>by rw [pU.mpr ⟨hA,hB⟩] at q3;exact tf q3) λq3=>?_;obtain ⟨hA,hB⟩:=pU.mp q3;obtain ⟨v,e1,e2⟩:=oE (es:=es) (k:=src) (by rw [r.keys];exact hs);obtain ⟨j,ps,e3,e4,e5,e6⟩:=r.rd _ e2;obtain rfl:v=.ref j:=e3;refine bT r.d (cy e1 ?_);refine ae (ai e5) (ae (ac _ _) ⟨aR (dO (Lq (dO e6 (LA few)) 1) (nb rfl)),?_⟩);have p2:hp<+:hp++[MO.list [.tup [.int k,.str x]]]++[MO.list (ps++[.tup [.int k,.str x]])]:=aa (aa (aj _));have lw:=(iN.mp r.w).1;refine RI.put (r.up p2) hT hnew hxT (i:=(hp++[MO.list [.tup [.int k,.str x]]]).length) (by rw [eQ];exact M6 lw) (ac _ _) (by rw [eQ];exact KJ e6) (λ_=>rfl) (λ_=>rfl) (λ_=>rfl) λhp' r' kp=>?_;exact hq hp' _ _ r' (kp _ _ hf (af p2 hfl)) (.inr ⟨rfl,eq_of_beq q1,hA,hB⟩) λ_ _ _=>AT _ (iD.mpr rfl)
end
section
structure um (hp:List MO)(S:Txt->Prop)(es:ES):Prop where
 keys:∀x,x∈es.map (·.1)↔S x
 rd:∀e∈es,∃i ps,e.2=.ref i/\hp[i]?=J (.list ps)/\ps.length<=64
theorem HE:∀f∈cw (nums 1 [] rows),f.2.2∈aK (ay A B rows):=λf hf=>by
 obtain ⟨⟨k,r,ab⟩,hq,hf⟩:=Mh.mp hf;refine aE.mpr (AT _ (Mh.mpr ⟨_,hq,?_⟩))
 cases r with
 | set x t=>
  obtain ⟨s,_,rfl⟩:=KW.mp (show f∈(fB (.set x t) ab).map λs=>(k,s,x) from hf);exact .head _
 | _=>exact aO hf
structure RL (A B:List Txt)(fl:List Flw)(ws:List Txt)(n:Nat):Prop where
 base:∀x∈B,x∈ws
 snd:∀x∈ws,Rch A B fl x
 cl:∀s∈ws.take n,∀k x,(k,s,x)∈fl->x∉A->x∉B->x∈ws
theorem RL.all (h:RL A B fl ws n)(hn:ws.length<=n)(x:Txt):x∈ws↔Rch A B fl x:=by
 refine ⟨h.snd x,λr=>?_⟩
 induction r with
 | base hb=>exact h.base _ hb
 | step hf _ hA hB ih=>exact h.cl _ (by rw [M0 hn];exact ih) _ _ hf hA hB
theorem HF {fl:List Flw}{j:Nat}{v:MV}(e:(fl.map hJ)[j]?=J v):∃k s x,fl[j]?=J (k,s,x)/\v=hJ (k,s,x):=by
 obtain ⟨⟨k,s,x⟩,h1,h2⟩:=ID ..▸e |> EQ.mp;exact ⟨k,s,x,h1,h2.symm⟩
theorem RL.turn (L:RL A B fl ws n)(hc:∀k x,(k,src,x)∈fl.take j->x∉A->x∉B->x∈ws)(e:ws[n]?=J src)(hj:fl[j]?=J (k,s,x))
  (h3:ws'=ws\/(ws'=ws++[x]/\s=src/\x∉A/\x∉B)) (h4:s=src->x∉A->x∉B->x∈ws'):RL A B fl ws' n/\(∀k x,(k,src,x)∈fl.take (j+1)->x∉A->x∉B->x∈ws')/\ws'[n]?=J src:=by
 have d:∀{k' y},(k',src,y)∈fl.take (j+1)->(k',src,y)∈fl.take j\/(s=src/\y=x):=λhy=>by
  rw [aq hj] at hy;exact (nO.mp hy).imp_right λhy=>by cases iD.mp hy;exact ⟨rfl,rfl⟩
 rcases h3 with rfl | ⟨rfl,rfl,hA,hB⟩
 ·exact ⟨L,λk y hy hA hB=>(d hy).elim (λhy=>hc k y hy hA hB) λq=>by obtain ⟨q,rfl⟩:=q;exact h4 q hA hB,e⟩
 ·refine ⟨⟨λy hy=>tO _ (L.base y hy),λy hy=>?_,λs' hs' k'' y hf' hA hB=>tO _ (L.cl s' ?_ k'' y hf' hA hB)⟩,λk y hy hA hB=>(d hy).elim (λhy=>tO _ (hc k y hy hA hB)) λq=>by obtain ⟨q,rfl⟩:=q;exact h4 q hA hB,ai e⟩
  ·rcases nO.mp hy with hy | hy
   ·exact L.snd y hy
   ·rw [iD.mp hy];exact .step (rW hj) (L.snd _ (rW e)) hA hB
  ·rw [List.take_append_of_le_length (LA (iN.mp e).1)] at hs';exact hs'
theorem RL.next (L:RL A B fl ws n)(hc:∀k x,(k,src,x)∈fl->x∉A->x∉B->x∈ws)(e:ws[n]?=J src):RL A B fl ws (n+1):=
 ⟨L.base,L.snd,λs hs k x hf hA hB=>by
  rw [aq e] at hs
  rcases nO.mp hs with hs | hs
  ·exact L.cl s hs k x hf hA hB
  ·rw [iD.mp hs] at hf;exact hc k x hf hA hB⟩
variable (hK:aD PP K)
include hK
section
variable {T A B:List Txt}{fl:List Flw}(hT:T.length<64) (hpg:bw h i A B rows) (hg:∀s∈A++B,Gn s) (hok:∀x∈T,okS x) (hN:0<N) (hf:h.length+1<f) (hfT:∀f∈fl,f.2.2∈T)
include hT hpg hg hok hN hf hfT
theorem AS {src:Txt}{P:Fl->MS->Prop}(r:RI h T hp es ws)(hfl:hp[f]?=J (.list (fl.map hJ)))(L:RL A B fl ws n)(e:ws[n]?=J src)
  (hq:∀v3 w7 w8 hp es ws,RI h T hp es ws->hp[f]?=J (.list (fl.map hJ))->RL A B fl ws (n+1)->n<ws.length->P .next ⟨[J (.inst 0 i),J (.ref h.length),J (.ref (h.length+1)),v3,J (.ref f),J (.int ((n:Int)+1)),J (.str src),w7,w8],hp⟩) :
  aA K N [.for_ [7,8,3] aT .val [.var 4] [.ite (.and [.cmp .eq (.var 8) (.var 6),.cmp .nin (.var 3) (.var 1),.cmp .eq (.umth 0 65 [107,105,110,100] (.var 0) [.var 3]) (.cst (.str [102,114,101,101]))]) [.setIdx (.var 1) (.var 3) (.bin .add (.idx (.var 1) (.var 6)) (.list [.tup [.var 7,.var 3]])),.expr (.mth .append (.var 2) [.var 3])] []]] P (xin X) ⟨[J (.inst 0 i),J (.ref h.length),J (.ref (h.length+1)),v3,J (.ref f),J (.int ((n:Int)+1)),J (.str src),w7,w8],hp⟩:=by
 refine aI (aG hfl) ?_;refine kn (λj v3 w7 w8 hp es ws=>⟨[J (.inst 0 i),J (.ref h.length),J (.ref (h.length+1)),v3,J (.ref f),J (.int ((n:Int)+1)),J (.str src),w7,w8],hp⟩)
  (λj v3 w7 w8 hp es ws=>A5 (RI h T hp es ws) (hp[f]?=J (.list (fl.map hJ))) (RL A B fl ws n) (∀k x,(k,src,x)∈fl.take j->x∉A->x∉B->x∈ws) (ws[n]?=J src)) _ _ _ _ _ ws rfl ⟨r,hfl,L,λk x h=>(by rw [LC] at h;exact aO h),e⟩ (λ_ _ _ _ _ _ _ hI=>hI.h2) (λj y v3 w7 w8 hp es ws P hy hI hn _=>?_) (λv3 w7 w8 hp es ws hI=>?_)
 ·obtain ⟨k',s,x,hj,rfl⟩:=HF hy;have hm:=rW hj;refine xU hK hI.h1 hT hpg hg (hok x (hfT _ hm)) (hfT _ hm) (rW hI.h5) hN hf hI.h2 λhp' es' ws' r' hfl' h3 h4=>?_;obtain ⟨L,hc,e⟩:=hI.h3.turn hI.h4 hI.h5 hj h3 h4;exact hn _ _ _ hp' es' ws' ⟨r',hfl',L,hc,e⟩
 ·have hc:=hI.h4;rw [iF,KD] at hc;exact hq _ _ _ _ _ _ hI.h1 hI.h2 (hI.h3.next hc hI.h5) (iN.mp hI.h5).1
theorem un (r:RI h T hp es ws)(hfl:hp[f]?=J (.list (fl.map hJ)))(L:RL A B fl ws 0)
  (hq:∀h' es,h<+:h'->h'[h.length]?=J (.dict es)->um h' (Rch A B fl) es->Q (.ref h.length) h') :
  aA K N (kh.body.drop 5) (fin Q) (xin X) ⟨[J (.inst 0 i),J (.ref h.length),J (.ref (h.length+1)),v3,J (.ref f),J (.int (0:Nat)),bY,bY,bY],hp⟩:=by
 refine ⟨65,qq (λw:Nat × List MO × ES × List Txt × Option MV × Option MV × Option MV × Option MV=>⟨[J (.inst 0 i),J (.ref h.length),J (.ref (h.length+1)),w.2.2.2.2.1,J (.ref f),J (.int (w.1:Nat)),w.2.2.2.2.2.1,w.2.2.2.2.2.2.1,w.2.2.2.2.2.2.2],w.2.1⟩) (λk w=>A5 (w.1+k=65) (w.1<=w.2.2.2.1.length) (RI h T w.2.1 w.2.2.1 w.2.2.2.1) (w.2.1[f]?=J (.list (fl.map hJ))) (RL A B fl w.2.2.2.1 w.1))
  (λw hI=>nf (n3 (hI.h3.few hT) hI.h2 (Km hI.h1.symm))) (λk w W hI hW=>?_) _ (0,hp,es,ws,v3,bY,bY,bY) rfl ⟨rfl,Ko _,r,hfl,L⟩⟩
 clear r hfl L;obtain ⟨n,hp,es,ws,v3,w6,w7,w8⟩:=w;obtain ⟨h1,h2,r,hfl,L⟩:=hI;dsimp only at h1 h2 r hfl L;refine av r.w ?_;refine dP (λq=>?_) λq=>?_
 ·have hlt:n<ws.length:=by have:=LN.mp (of_decide_eq_true q);rw [iF] at this;exact this
  have e:=bn hlt;generalize ws[n]=src at e;refine ae r.w (aw (fk rfl (by rw [iF];exact hlt)) (by rw [ID,e];rfl) ?_);exact AS hK hT hpg hg hok hN hf hfT r hfl L e λv3 w7 w8 hp es ws r hfl L hlt=>hW (n+1,hp,es,ws,_,_,_,_) ⟨(Nat.succ_add_eq_add_succ n k).trans h1,hlt,r,hfl,L⟩
 ·have hge:ws.length<=n:=by have:=MX.mp (of_decide_eq_false q);rw [iF] at this;exact Ly.mp this
  refine hq hp es r.pre r.d ⟨λx=>by rw [r.keys];exact L.all hge x,λe he=>?_⟩;obtain ⟨i',ps,q1,_,q3,q4⟩:=r.rd e he;exact ⟨i',ps,q1,q3,dO q4 (LA (r.few hT))⟩
end
theorem DM (hpg:bw h i A B rows)(F:LF A B rows)(hN:10<N)
  (hq:∀h' es,h<+:h'->h'[h.length]?=J (.dict es)->um h' (Rch A B (cw (nums 1 [] rows))) es->Q (.ref h.length) h'):K N 104 [.inst 0 i] Q X h:=by
 obtain ⟨a,b,h1,_,_⟩:=id hpg;have p2:h<+:h++[.dict []]++[.list []]:=aa (aa (aj _));have e2:(h++[MO.dict []]).length=h.length+1:=by rw [eQ];rfl
 refine kc hK kh hN rfl rfl λM hM=>?_;show aA K M (kh.body.drop 2) (fin Q) (xin X) ⟨[J (.inst 0 i),J (.ref h.length),J (.ref (h++[MO.dict []]).length),bY,bY,bY,bY,bY,bY],h++[MO.dict []]++[.list []]⟩;have r0:RI h (aK (ay A B rows)) (h++[MO.dict []]++[.list []]) [] []:=⟨p2,ai (ac _ _),by rw [<-e2];exact ac _ _,rfl,MT,λ_ h=>aO h,λ_ h=>aO h⟩
 rw [e2];generalize h++[MO.dict []]++[.list []]=h0 at p2 r0;refine az (eV (af p2 h1) rfl) ?_;refine z8 hK (hpg.up p2) (dO (nb rfl) hM) ?_;have r1:=r0.up (aa (o:=.list (B.map .str)) (aa (o:=.list (A.map .str)) (aj _)));have e4:(h0++[MO.list (A.map .str)]++[MO.list (B.map .str)])[h0.length+1]?=J (.list (B.map .str)):=by
  have:=ac (h0++[MO.list (A.map .str)]) (MO.list (B.map .str));rw [eQ] at this;exact this
 have l4:h.length+1<h0.length+1:=M6 (iN.mp r0.w).1;have gB:∀x∈B,x∈aK (ay A B rows):=λx hx=>aE.mpr (tO _ (AT _ hx));have nB:B.Nodup:=(K1.mp F.nd).2.1;refine aI (aG e4) ?_;refine gV (λj v3 hp es=>⟨[J (.inst 0 i),J (.ref h.length),J (.ref (h.length+1)),v3,bY,bY,bY,bY,bY],hp⟩) (λj v3 hp es=>RI h (aK (ay A B rows)) hp es (B.take j)/\hp[h0.length+1]?=J (.list (B.map .str))) _ _ [] rfl ⟨r1,e4⟩ (λ_ _ _ _ hI=>hI.2) (λj y v3 hp es P hy hI hn _=>?_) (λv3 hp es hI=>?_)
 ·obtain ⟨x,hx,rfl⟩:=EQ.mp (ID ..▸hy);have hm:=rW hx;have hnew:x∉B.take j:=λq=>by
   have hd:=(K1.mp ((K0 (j+1) B).symm▸nB)).1;rw [aq hx] at hd;exact (K1.mp hd).2.2 x q x (iD.mpr rfl) rfl
  have p3:hp<+:hp++[MO.list [.tup [.int 0,.str x]]]:=aa (aj _);refine RI.put (vs:=[J (.inst 0 i),J (.ref h.length),J (.ref (h.length+1)),J (.str x),bY,bY,bY,bY,bY]) (hI.1.up p3) F.few hnew (gB x hm) (i:=hp.length) (iN.mp hI.1.w).1 (ac _ _) (KJ (Ko _)) (λ_=>rfl) (λ_=>rfl) (λ_=>rfl) λhp' r' kp=>?_;rw [<-aq hx] at r';exact hn _ _ _ ⟨r',kp _ _ l4 (af p3 hI.2)⟩
 ·obtain ⟨r,_⟩:=hI;rw [iF,KD] at r;refine DL hK (hpg.up r.pre) F hM λh5 f p5 l5 e5=>?_;exact un hK F.few hpg F.gn F.ok (dO (nb rfl) hM) (KG (iN.mp r.w).1 l5) HE (r.up p5) e5 ⟨λx hx=>hx,λx hx=>.base hx,λs hs=>by rw [LC] at hs;exact aO hs⟩ hq
end
section
theorem oM:∀t:Tm,(rn t).length<=t.deep * t.lv
 | .num _=>Ko _
 | .nm _=>Ko _
 | .op c a b=>by
  have h1:=oM a;have h2:=oM b;have h3:=dj b;have g1:a.deep * a.lv<=max a.deep b.deep * a.lv:=Nat.mul_le_mul_right _ (KF ..);have g2:b.deep * b.lv<=max a.deep b.deep * b.lv:=Nat.mul_le_mul_right _ (KI ..);show (rn a++rn b++(match c==47 with | true=>an b | false=>[])).length<=(max a.deep b.deep+1) * (a.lv+b.lv);rw [eQ,eQ,OY,Nat.mul_add]
  cases c==47 with
  | true=>exact KH (KH (dO h1 g1) (dO h2 g2)) (dO h3 (L9 ..))
  | false=>exact KH (KH (dO h1 g1) (dO h2 g2)) (Ko _)
theorem AU (h:t.good):(rn t).length<=24:=dO (oM t) (dO (Pc h.2 h.lv) (nb rfl))
theorem oN {w:Txt}(h:w.length≠1):([c]==w)=Z:=beq_eq_false_iff_ne.mpr λe=>h (by rw [<-e];rfl)
inductive LkA (hp:List MO)(n:Nat):List Lk->List MV->Prop
 | nil:LkA hp n [] []
 | cons {w ns i ls vs}:n<i->hp[i]?=J (.list (ns.map .str))->LkA hp n ls vs->LkA hp n ((w,ns)::ls) (.tup [.str w,.ref i]::vs)
section
theorem LkA.up (u:∀i o,n<i->hp[i]?=J o->hp'[i]?=J o)(h:LkA hp n ls vs):LkA hp' n ls vs:=by
 induction h with
 | nil=>exact .nil
 | cons h1 h2 _ ih=>exact .cons h1 (u _ _ h1 h2) ih
theorem LkA.snoc (h1:n<i)(h2:hp[i]?=J (.list (ns.map .str)))(h:LkA hp n ls vs):LkA hp n (ls++[(w,ns)]) (vs++[.tup [.str w,.ref i]]):=by
 induction h with
 | nil=>exact .cons h1 h2 .nil
 | cons k1 k2 _ ih=>exact .cons k1 k2 ih
theorem LkA.get (h:LkA hp n ls vs):∀{j:Nat}{v:MV},vs[j]?=J v->∃w ns i,ls[j]?=J (w,ns)/\v=.tup [.str w,.ref i]/\hp[i]?=J (.list (ns.map .str)):=by
 induction h with
 | nil=>intro j v e;exact aJ e
 | @cons w ns i ls vs h1 h2 h3 ih=>
  intro j v e
  cases j with
  | zero=>exact ⟨w,ns,i,rfl,(By e).symm,h2⟩
  | succ j=>exact ih e
theorem LkA.len (h:LkA hp n ls vs):vs.length=ls.length:=by
 induction h with
 | nil=>rfl
 | cons _ _ _ ih=>exact congrArg (·+1) ih
end
structure LS (h hp:List MO)(ls:List Lk)(vs:List MV):Prop where
 pre:h<+:hp
 at_:hp[h.length]?=J (.list vs)
 lk:LkA hp h.length ls vs
theorem LS.up (s:LS h hp ls vs)(p:hp<+:hp'):LS h hp' ls vs:=⟨s.pre.trans p,af p s.at_,s.lk.up λ_ _ _ e=>af p e⟩
theorem LS.add (s:LS h hp ls vs)(h1:h.length<i)(h2:hp[i]?=J (.list (ns.map .str))):LS h (hp.set h.length (.list (vs++[.tup [.str w,.ref i]]))) (ls++[(w,ns)]) (vs++[.tup [.str w,.ref i]]):=
 ⟨aF s.pre (oF _),get_set s.at_,(s.lk.snoc h1 h2).up λ_ _ hi e=>ap (KA hi) e⟩
variable (hK:aD PP K)
include hK
theorem HG:∀(t:Tm) {N:Nat}{Q:MV->List MO->Prop}{X:XT}{h:List MO},t.deep+1<N->t.ok p->t.deep<=3->t.lv<=8->(∀r h',h<+:h'->h'[r]?=J (.list ((rn t).map .str))->Q (.ref r) h')->K N 2 [t.mv] Q X h
 | .num k,N,Q,X,h,hN,ht,hd,hl,hq=>by
  obtain ⟨M,rfl,hM⟩:=room hN;refine hK _ _ _ _ _ _ cg rfl rfl ?_;exact hq _ _ (aa (aj _)) (ac _ _)
 | .nm s,N,Q,X,h,hN,ht,hd,hl,hq=>by
  obtain ⟨M,rfl,hM⟩:=room hN;refine hK _ _ _ _ _ _ cg rfl rfl ?_;exact hq _ _ (aa (aj _)) (ac _ _)
 | .op c a b,N,Q,X,h,hN,ht,hd,hl,hq=>by
  have hN:max a.deep b.deep+1+1<N:=hN;have hl:a.lv+b.lv<=8:=hl;have hd:max a.deep b.deep+1<=3:=hd;obtain ⟨M,rfl,hM⟩:=room hN;have g1:a.deep * a.lv<=3 * 8:=Pc (n2 hd (KF a.deep b.deep)) (n1 hl);have g2:b.deep * b.lv<=3 * 8:=Pc (n2 hd (KI a.deep b.deep)) (n1 hl);have l1:=oM a;have l2:=oM b;have l3:=dj b;refine hK _ _ _ _ _ _ cg rfl rfl ?_;refine HG a (n2 hN (KF a.deep b.deep)) ht.2.1 (n2 hd (KF a.deep b.deep)) (n1 hl) λr1 h1 p1 e1=>?_;refine HG b (n2 hN (KI a.deep b.deep)) ht.2.2 (n2 hd (KI a.deep b.deep)) (n1 hl) λr2 h2 p2 e2=>?_;have p1:h<+:h1:=p1;have p2:h1<+:h2:=p2;refine ae (af p2 e1) (ae e2 ?_);refine ⟨bG (dO (KH (dO l1 g1) (dO l2 g2)) (nb rfl)),?_⟩;have p3:h<+:h2++[.list ((rn a).map .str++(rn b).map .str)]:=aa (p1.trans p2);have e3:(h2++[MO.list ((rn a).map .str++(rn b).map .str)])[h2.length]?=J (.list ((rn a++rn b).map .str)):=bW _ _ _
  conv=>whnf
  have hq:∀r h',h<+:h'->h'[r]?=J (.list ((rn a++rn b++(match c==47 with | true=>an b | false=>[])).map .str))->Q (.ref r) h':=hq
  cases q:([c]==[47]) with
  | true=>
   obtain rfl:c=47:=(LX (eq_of_beq q)).1;refine De hK b (n2 hM (KI a.deep b.deep)) ht.2.2 (n1 (show a.lv+b.lv<=8 from hl)) λr4 h4 p4 e4=>?_;have p4:h2++[.list ((rn a).map .str++(rn b).map .str)]<+:h4:=p4;refine ae (af p4 e3) (ae e4 ?_);refine ⟨bG (by rw [eQ];exact dO (KH (KH (dO l1 g1) (dO l2 g2)) (dO l3 (show b.lv<=8 from n1 (show a.lv+b.lv<=8 from hl)))) (nb rfl)),?_⟩;exact hq _ _ (aa (p3.trans p4)) (bW _ _ _)
  | false=>
   rw [show (c==47)=Z from beq_eq_false_iff_ne.mpr λe=>by rw [e] at q;exact tf q] at hq;exact hq _ _ p3 (by rw [Kr];exact e3)
theorem AV (ht:t.good)(hN:5<N)(hq:∀r h',h<+:h'->h.length<=r->h'[r]?=J (.list ((aK (rn t)).map .str))->Q (.ref r) h'):K N 3 [t.mv] Q X h:=by
 obtain ⟨M,rfl,hM⟩:=room hN;have l1:=AU ht;refine hK _ _ _ _ _ _ il rfl rfl ?_;refine HG hK t (by have:=ht.2;exact n2 this hN) ht.1 ht.2 ht.lv λr1 h1 p1 e1=>?_;have p1:h<+:h1:=p1;refine ae e1 ?_;exact .mk (rn t) rfl (Ef (Kn (iH _) (n1 l1))) (n1 l1) (hq _ _ (aa p1) p1.length_le (ac _ _))
theorem AW:∀(t:Tm) {N:Nat}{Q:MV->List MO->Prop}{X:XT}{h:List MO},t.deep<N->Q (.bool (dvs t)) h->K N 4 [t.mv] Q X h
 | .num k,N,Q,X,h,hN,hq=>by
  obtain ⟨M,rfl,hM⟩:=room hN;refine hK _ _ _ _ _ _ gO rfl rfl ?_;exact hq
 | .nm s,N,Q,X,h,hN,hq=>by
  obtain ⟨M,rfl,hM⟩:=room hN;refine hK _ _ _ _ _ _ gO rfl rfl ?_;exact hq
 | .op c a b,N,Q,X,h,hN,hq=>by
  have hN:max a.deep b.deep+1<N:=hN;have hq:Q (.bool (c==47||(dvs a||dvs b))) h:=hq;obtain ⟨M,rfl,hM⟩:=room hN;refine hK _ _ _ _ _ _ gO rfl rfl ?_
  conv=>whnf
  cases q:([c]==[47]) with
  | true=>
   obtain rfl:c=47:=(LX (eq_of_beq q)).1;exact hq
  | false=>
   rw [show (c==47)=Z from beq_eq_false_iff_ne.mpr λe=>by rw [e] at q;exact tf q] at hq;refine AW a (n2 hN (KF a.deep b.deep)) ?_
   cases q1:dvs a with
   | true=>rw [q1] at hq;exact hq
   | false=>
    rw [q1] at hq;exact AW b (n2 hN (KI a.deep b.deep)) hq
end
section
theorem xV:(g8 A B x==AM)=A.contains x:=by
 unfold g8
 cases A.contains x with
 | true=>rfl
 | false=>cases B.contains x<;>rfl
variable (hK:aD PP K)
include hK
section
variable {Q:MV->List MO->Prop}(o:pT T (k,r,ab)) (hT:T.length<64) (hN:8<=N) (hq:∀h' vs,LS h h' (lks A r ab) vs->Q (.ref h.length) h')
theorem uo (o:pT T (k,r,ab))(hT:T.length<64)(hN:8<=N)(s:LS h hp ls vs)(hl:ls.length<=4)(hw:∀hp' vs',LS h hp' (ls++[(w,fB r ab)]) vs'->P .next ⟨[J (.inst 0 i),J r.mv,J (.tup (ab.map Tm.mv)),J (.ref h.length)],hp'⟩) :
  aA K N [.expr (.mth .append (.var 3) [.tup [.cst (.str w),.call 102 [.var 1,.var 2]]])] P (xin X) ⟨[J (.inst 0 i),J r.mv,J (.tup (ab.map Tm.mv)),J (.ref h.length)],hp⟩:=by
 refine az (aH s.at_) ?_;refine AO hK o hT hN λh1 j p1 l1 e1=>?_;have p1:hp<+:h1:=p1;have s1:=s.up p1;refine aV (aU s1.at_) ?_;refine ⟨Kn (by rw [s1.lk.len];exact hl) (KG (show 4<5 by decide) (aR (by decide))),?_⟩;exact hw _ _ (s1.add (KG (iN.mp s.at_).1 l1) e1)
include o hT hN hq in
theorem Kh (e:lks A r ab=ls++lk4 r ab)(s:LS h hp ls vs)(hl:ls.length<=4):aA K N (fN.body.drop 4) (fin Q) (xin X) ⟨[J (.inst 0 i),J r.mv,J (.tup (ab.map Tm.mv)),J (.ref h.length)],hp⟩:=by
 have no:dvs r.ft=Z->Q (.ref h.length) hp:=λhd=>by
  unfold lk4 at e;rw [hd,Kr] at e;exact hq hp vs (e▸s)
 have any:r≠.skip->r.fm=r.ft.mv->wpE K N (.call 4 [.call 26 [.var 1]]) (bX λb m=>match b with
   | true=>aA K N [.expr (.mth .append (.var 3) [.tup [.cst (.str [110,111,117,103,104,116]),.bin .add (.call 3 [.call 26 [.var 1]]) (.call 101 [.var 2])]]),.ret (.var 3)] (fin Q) (xin X) m
   | false=>aA K N [.ret (.var 3)] (fin Q) (xin X) m) (xin X) ⟨[J (.inst 0 i),J r.mv,J (.tup (ab.map Tm.mv)),J (.ref h.length)],hp⟩:=λhr hf=>by
  have gf:r.ft.good:=mW o.good;refine mj hK (gv (jD (n:=0) r)) (dO (nb rfl) hN) ?_;rw [hf];refine AW hK r.ft (by have:=gf.2;exact n2 this hN) ?_
  cases hd:dvs r.ft with
  | false=>exact no hd
  | true=>
   unfold lk4 at e;rw [hd] at e;refine az (aH s.at_) ?_;refine mj hK (gv (jD (n:=0) r)) (dO (nb rfl) hN) ?_;rw [hf];refine AV hK gf (dO (nb rfl) hN) λj1 h1 p1 l1 e1=>?_;have p1:hp<+:h1:=p1;refine wf hK o.tg o.len (dO (nb rfl) hN) λh2 p2 e2=>?_;have p2:h1<+:h2:=p2;refine ae (af p2 e1) (ae e2 ?_);have la:(ats ab).length<=8 * ab.length:=mX o.tg;have ll:ab.length<=7:=o.len;have lr:=AU gf;have lr2:=iH (rn r.ft);refine ⟨bG (by lia),?_⟩;have s1:=s.up (aa (o:=.list ((aK (rn r.ft)).map .str++(ats ab).map .str)) (p1.trans p2));refine aV (aU s1.at_) ?_;refine ⟨Kn (by rw [s1.lk.len];exact hl) (KG (show 4<5 by decide) (aR (by decide))),?_⟩;refine hq _ _ (e▸s1.add ?_ (bW _ _ _));exact KG (iN.mp s.at_).1 (dO p1.length_le p2.length_le)
 cases r with
 | skip=>exact no rfl
 | set x t=>exact any (λe=>by cases e) rfl
 | tell t=>exact any (λe=>by cases e) rfl
 | ite t a b=>exact any (λe=>by cases e) rfl
 | wh t a=>exact any (λe=>by cases e) rfl
include o hT hN hq in
theorem DN (hp:bw h i A B rows)(hg:∀s∈A++B,Gn s)(hx:∀x t,r=.set x t->okS x):K (N+1) 111 [.inst 0 i,r.mv,.tup (ab.map Tm.mv)] Q X h:=by
 obtain ⟨a,b,h1,_,_⟩:=id hp;have p0:h<+:h++[.list []]:=aa (aj _);have s0:LS h (h++[.list []]) [] []:=⟨p0,ac _ _,.nil⟩
 refine hK _ _ _ _ _ _ fN rfl rfl ?_;have four:∀{ls:List Lk} {vs:List MV} {hp:List MO},lks A r ab=ls++lk4 r ab->LS h hp ls vs->ls.length<=4->aA K N (fN.body.drop 4) (fin Q) (xin X) ⟨[J (.inst 0 i),J r.mv,J (.tup (ab.map Tm.mv)),J (.ref h.length)],hp⟩:=λe s hl=>Kh hK o hT hN hq e s hl
 cases r with
 | skip=>exact four rfl s0 (Ko _)
 | ite t x y=>exact four rfl s0 (Ko _)
 | tell t=>
  refine uo hK (w:=dJ) o hT hN s0 (Ko _) λhp' vs' s'=>?_;exact four rfl s' (KN rfl)
 | wh t x=>
  refine uo hK (w:=oJ) o hT hN s0 (Ko _) λhp' vs' s'=>?_;exact four rfl s' (KN rfl)
 | set x t=>
  refine az (eV (af p0 h1) rfl) ?_;refine AP hK (hp.up p0) hg (hx x t rfl) (dO (nb rfl) hN) ?_
  conv=>whnf
  rw [show (g8 A B x==[111,112,101,110])=A.contains x from xV]
  cases q:A.contains x with
  | false=>exact four (by show (match A.contains x with | true=>_ | false=>_)++_++_++_=_;rw [q];rfl) s0 (Ko _)
  | true=>
   refine uo hK (w:=cO) o hT hN s0 (Ko _) λhp' vs' s'=>?_;exact four (by show (match A.contains x with | true=>_ | false=>_)++_++_++_=_;rw [q];rfl) s' (KN rfl)
end
end
section
theorem DP (h:(cO,ns)∈lks A r ab):∃x t,r=.set x t:=by
 have h4:(cO,ns)∉lk4 r ab:=λq=>by
  unfold lk4 at q
  cases hd:dvs r.ft with
  | true=>rw [hd] at q;exact absurd (congrArg PE (iD.mp q)) (by show cO≠mU;decide)
  | false=>rw [hd] at q;exact aO q
 cases r with
 | set x t=>exact ⟨x,t,rfl⟩
 | tell t=>
  rcases nO.mp h with h | h
  ·exact absurd (congrArg PE (iD.mp (show (cO,ns)∈[(dJ,fB (.tell t) ab)] from h))) (by show cO≠dJ;decide)
  ·exact absurd h h4
 | skip=>exact absurd h h4
 | ite t a b=>exact absurd h h4
 | wh t a=>
  rcases nO.mp h with h | h
  ·exact absurd (congrArg PE (iD.mp (show (cO,ns)∈[(oJ,fB (.wh t a) ab)] from h))) (by show cO≠oJ;decide)
  ·exact absurd h h4
variable (hK:aD PP K)
include hK
theorem DQ {ns:List Txt}{h:List MO}(hd:h[d]?=J (.dict es))(hi:h[i]?=J (.list (ns.map .str)))(R:um h S es)
  (q0:(∀n∈ns,¬ S n)->Q .none h) (q1:∀n j ps,n∈ns->S n->h[j]?=J (.list ps)->ps.length<=64->Q (.ref j) h):K (N+1) 112 [.ref d,.ref i] Q X h:=by
 have road:∀{n:Txt} {v:MV},aN es n=J v->S n/\∃j ps,v=.ref j/\h[j]?=J (.list ps)/\ps.length<=64:=λ{n v} e=>⟨(R.keys n).mp (KW.mpr ⟨_,pP e,rfl⟩),R.rd _ (pP e)⟩
 refine hK _ _ _ _ _ _ mf rfl rfl ?_;refine aI (aG hi) ?_;refine gT (λj (b:MV) w=>⟨[J (.ref d),J (.ref i),J b,w],h⟩) (λj b w=>(b=.none/\∀n∈ns.take j,¬ S n)\/∃n,n∈ns/\aN es n=J b) .none bY rfl (.inl ⟨rfl,λn h=>by rw [LC] at h;exact aO h⟩) (λ_ _ _ _=>hi) (λj x b w P hx hI hn _=>?_) (λb w hI=>?_)
 ·refine rV (G:=λx=>asg [3] Z x _ _) hx λn hn1=>?_;have mem:=rW hn1;refine iU hd ?_;refine sZ (λq=>?_) λq=>?_
  ·refine hn _ _ (hI.imp_left λ⟨e,hI⟩=>⟨e,λm hm=>?_⟩);rw [aq hn1] at hm;refine (nO.mp hm).elim (hI m) λhm hs=>?_;rw [iD.mp hm] at hs;rw [AQ.mpr ((R.keys n).mpr hs)] at q;exact tf q
  ·obtain ⟨v,e⟩:=K6.mp q;obtain ⟨_,j',ps',rfl,e2,l2⟩:=road e;have take:P .next ⟨[J (.ref d),J (.ref i),J (.ref j'),J (.str n)],h⟩:=hn _ _ (.inr ⟨n,mem,e⟩)
   rcases hI with ⟨rfl,hI⟩ | ⟨n',hn',hI⟩
   ·exact bT hd (cy e take)
   ·obtain ⟨_,j'',ps'',rfl,e3,l3⟩:=road hI;refine bT hd (cy e ?_);refine av e2 (av e3 ?_);refine dP (λ_=>?_) λ_=>hn _ _ (.inr ⟨n',hn',hI⟩);exact bT hd (cy e take)
 ·rcases hI with ⟨rfl,hI⟩ | ⟨n,hn,e⟩
  ·rw [iF,KD] at hI;exact q0 hI
  ·obtain ⟨hs,j,ps,rfl,e2,l2⟩:=road e;exact q1 n j ps hn hs e2 l2
end
section
theorem um.up (r:um hp S es)(p:hp<+:hp'):um hp' S es:=⟨r.keys,λe he=>let ⟨i,ps,h1,h2,h3⟩:=r.rd e he;⟨i,ps,h1,af p h2,h3⟩⟩
theorem qN (hq:(k,r,ab)∈nums 1 [] rows)(x:Txt)(t:Tm)(e:r=.set x t):x∈aK (ay A B rows):=by
 subst e;exact aE.mpr (AT _ (Mh.mpr ⟨_,hq,.head _⟩))
noncomputable def uq (A B:List Txt)(rows:List Rw):Prop:=∀q∈nums 1 [] rows,∀l∈lks A q.2.1 q.2.2,∀n∈l.2,¬ Rch A B (cw (nums 1 [] rows)) n
theorem qO (st:σ->MS)(I:Nat->σ->Prop)(Rt:MV->MS->Prop)(w:σ)(e0:m=st w)(h0:I 0 w)(hg:∀i w,I i w->aS g (st w).heap)
  (hstep:∀i x w (P:Fl->MS->Prop),items[i]?=J x->I i w->(∀w,I (i+1) w->P .next (st w))->(∀r m',Rt r m'->P (.ret r) m')->step x P (st w)) (hend:∀w,I items.length w->Q .next (st w)) (hret:∀r m,Rt r m->Q (.ret r) m):fb g step Q items m:=by
 refine rU (λi m=>∃w,m=st w/\I i w) Rt ⟨w,e0,h0⟩ (λi m hI=>?_) (λi x m P hx hI h1 _ h3=>?_) (λm hI=>?_) hret
 ·obtain ⟨w,rfl,h⟩:=hI;exact hg i w h
 ·obtain ⟨w,rfl,h⟩:=hI;exact hstep i x w P hx h (λw h=>h1 _ ⟨w,rfl,h⟩) h3
 ·obtain ⟨w,rfl,h⟩:=hI;exact hend w h
variable (hK:aD PP K)
include hK
section
omit hK in
theorem xW (hl:(w,ns)∈lks A r ab)(e2:hp[j]?=J (.list ps))(l2:ps.length<=64)(hr:∀hp' ts vars,hp<+:hp'->P (.ret (.tup ts)) ⟨vars,hp'⟩) :
  aA K N [.asg [8] Z (.cst (.str [])),.ite (.cmp .eq (.var 5) (.cst (.str [115,101,116]))) [.asg [8] Z (.idx (.var 3) (.cst (.int 1)))] [],.ret (.tup [.var 5,.bin .add (.var 7) (.list [.tup [.var 2,.var 8]])])] P (xin X) ⟨[J (.inst 0 i),J (.ref d),J (.int k),J r.mv,J (.tup (ab.map Tm.mv)),J (.str w),J (.ref i'),J (.ref j),w8],hp⟩:=by
 have last:∀x:Txt,aA K N [.ret (.tup [.var 5,.bin .add (.var 7) (.list [.tup [.var 2,.var 8]])])] P (xin X) ⟨[J (.inst 0 i),J (.ref d),J (.int k),J r.mv,J (.tup (ab.map Tm.mv)),J (.str w),J (.ref i'),J (.ref j),J (.str x)],hp⟩:=λx=>ae (ai e2) (ae (ac _ _) ⟨aR (dO (Lq l2 1) (nb rfl)),hr _ _ _ (aa (aa (aj _)))⟩);refine dP (λq=>?_) λ_=>last [];obtain ⟨x,t,rfl⟩:=DP (A:=A) (r:=r) (ab:=ab) (ns:=ns) (by rw [<-show w=cO from eq_of_beq q];exact hl);exact last x
theorem AX (hpg:bw hp i A B rows)(F:LF A B rows)(hN:11<N)(hqm:(k,r,ab)∈nums 1 [] rows)(hd:hp[d]?=J (.dict es))(R:um hp (Rch A B (cw (nums 1 [] rows))) es)
  (hn:∀hp' w5 w6 w7 w8,hp<+:hp'->(∀l∈lks A r ab,∀n∈l.2,¬ Rch A B (cw (nums 1 [] rows)) n)->P .next ⟨[J (.inst 0 i),J (.ref d),J (.int k),J r.mv,J (.tup (ab.map Tm.mv)),w5,w6,w7,w8],hp'⟩)
  (hr:∀hp' ts vars,hp<+:hp'->¬ uq A B rows->P (.ret (.tup ts)) ⟨vars,hp'⟩) :
  asg [2,3,4] aT (cT (k,r,ab)) (λm=>aA K N [.for_ [5,6] aT .val [.call 111 [.var 0,.var 3,.var 4]] [.asg [7] Z (.call 112 [.var 1,.var 6]),.ite (.isN Z (.var 7)) [.asg [8] Z (.cst (.str [])),.ite (.cmp .eq (.var 5) (.cst (.str [115,101,116]))) [.asg [8] Z (.idx (.var 3) (.cst (.int 1)))] [],.ret (.tup [.var 5,.bin .add (.var 7) (.list [.tup [.var 2,.var 8]])])] []]] P (xin X) m) ⟨[J (.inst 0 i),J (.ref d),w2,w3,w4,w5,w6,w7,w8],hp⟩:=by
 obtain ⟨M,rfl,hM⟩:=room hN;refine ⟨rfl,?_⟩;refine DN hK (h:=hp) (F.nums _ hqm) F.few (dO (nb rfl) hM) (λh1 vs s=>?_) hpg F.gn λx t e=>F.ok x (qN hqm x t e);refine aI (aG s.at_) ?_;refine qO (λw:Option MV × Option MV × Option MV × Option MV=>⟨[J (.inst 0 i),J (.ref d),J (.int k),J r.mv,J (.tup (ab.map Tm.mv)),w.1,w.2.1,w.2.2.1,w.2.2.2],h1⟩) (λj _=>∀l∈(lks A r ab).take j,∀n∈l.2,¬ Rch A B (cw (nums 1 [] rows)) n)
  (λv m=>P (.ret v) m) (w5,w6,w7,w8) rfl (λl hl=>by rw [LC] at hl;exact aO hl) (λ_ _ _=>s.at_) (λj x w0 P' hx hI hn' hr'=>?_) (λw0 hI=>?_) (λv m h=>h)
 ·obtain ⟨w,ns,i',hl,rfl,e1⟩:=s.lk.get hx;refine ⟨rfl,?_⟩;refine DQ hK (af s.pre hd) e1 (R.up s.pre) (λh0=>?_) λn j' ps hn1 hS e2 l2=>?_
  ·refine hn' (_,_,_,_) λl hl'=>?_;rw [aq hl] at hl';exact (nO.mp hl').elim (hI l) λhl'=>by rw [iD.mp hl'];exact h0
  ·have hm:=rW hl;exact xW hm e2 l2 λhp' ts vars p=>hr' _ _ (hr _ _ _ (s.pre.trans p) λD=>D _ hqm _ hm n hn1 hS)
 ·rw [s.lk.len,KD] at hI;exact hn _ _ _ _ _ s.pre hI
end
theorem AY (hpg:bw h i A B rows)(F:LF A B rows)(hN:12<N)
  (q0:∀h',h<+:h'->uq A B rows->Q .none h') (q1:∀h' ts,h<+:h'->¬ uq A B rows->Q (.tup ts) h'):K N 113 [.inst 0 i] Q X h:=by
 refine kc hK pE hN rfl rfl λM hM=>?_;refine DM hK hpg F (dO (nb rfl) hM) λh1 es p1 d1 R1=>?_;have p1:h<+:h1:=p1;obtain ⟨a,b,b1,_,_⟩:=hpg.up p1;refine az (eV b1 rfl) ?_;refine jR hK (hpg.up p1) (dO (nb rfl) hM) ?_;refine fv hK rows (k:=1) (ab:=[]) (dO F.sz (nb rfl)) (by show 0+_<=_;exact n1 F.ne) (by have:=F.ne;exact n2 this hM) λh2 p2 e2=>?_;have p2:h1<+:h2:=p2;refine aI (aG e2) ?_;refine qO (λw:Option MV × Option MV × Option MV × Option MV × Option MV × Option MV × Option MV × List MO=>⟨[J (.inst 0 i),J (.ref h.length),w.1,w.2.1,w.2.2.1,w.2.2.2.1,w.2.2.2.2.1,w.2.2.2.2.2.1,w.2.2.2.2.2.2.1],w.2.2.2.2.2.2.2⟩) (λj w=>h2<+:w.2.2.2.2.2.2.2/\∀q∈(nums 1 [] rows).take j,∀l∈lks A q.2.1 q.2.2,∀n∈l.2,¬ Rch A B (cw (nums 1 [] rows)) n)
  (λv m=>Q v m.heap) (bY,bY,bY,bY,bY,bY,bY,h2) rfl ⟨aj _,λq hq=>by rw [LC] at hq;exact aO hq⟩ (λ_ _ hI=>af hI.1 e2) (λj x w0 P hx hI hn hr=>?_) (λw0 hI=>?_) (λv m h=>h)
 ·obtain ⟨⟨k,r,ab⟩,hq1,rfl⟩:=EQ.mp (ID ..▸hx);have p4:=p2.trans hI.1;refine AX hK (hpg.up (p1.trans p4)) F hM (rW hq1) (af p4 d1) (R1.up p4) (λhp' w5 w6 w7 w8 p5 h0=>?_) λhp' ts vars p5 D=>hr _ _ (q1 hp' ts ((p1.trans p4).trans p5) D);refine hn (_,_,_,_,_,_,_,_) ⟨hI.1.trans p5,λq hq=>?_⟩;rw [aq hq1] at hq;exact (nO.mp hq).elim (hI.2 q) λhq=>by rw [iD.mp hq];exact h0
 ·have:=hI.2;rw [iF,KD] at this;exact q0 _ (p1.trans (p2.trans hI.1)) this
end
section
noncomputable def ans (ab:List Tm):List Txt:=ab.flatMap an
theorem DR (ab:List Tm)(t:Tm):ans (ab++[t])=ans ab++an t:=by
 unfold ans;rw [Mo];exact congrArg (_++·) (Kr _)
theorem mY:∀{ab:List Tm},(∀t∈ab,t.good)->(ans ab).length<=8 * ab.length
 | [],_=>oF _
 | t::ab,h=>by
  have h1:=dO (dj t) (h t (.head _)).lv;have h2:=mY (ab:=ab) λu hu=>h u (.tail _ hu);show (an t++ans ab).length<=8 * (ab.length+1);rw [eQ];exact n2 h2 h1
inductive LsA (hp:List MO)(i:Nat):List Num->List MV->Prop
 | nil:LsA hp i [] []
 | cons {k r ab a qs us}:a≠i->hp[a]?=J (.list ((ans ab).map .str))->LsA hp i qs us->LsA hp i ((k,r,ab)::qs) (.tup [r.mv,.ref a]::us)
section
theorem LsA.up (u:∀j o,j≠i->hp[j]?=J o->hp'[j]?=J o)(h:LsA hp i qs us):LsA hp' i qs us:=by
 induction h with
 | nil=>exact .nil
 | cons h1 h2 _ ih=>exact .cons h1 (u _ _ h1 h2) ih
theorem LsA.app (h:LsA hp i qs us)(k:LsA hp i qs' us'):LsA hp i (qs++qs') (us++us'):=by
 induction h with
 | nil=>exact k
 | cons h1 h2 _ ih=>exact .cons h1 h2 ih
theorem LsA.len (h:LsA hp i qs us):us.length=qs.length:=by
 induction h with
 | nil=>rfl
 | cons _ _ _ ih=>exact congrArg (·+1) ih
theorem LsA.get (h:LsA hp i qs us):∀{j:Nat}{q:Num},qs[j]?=J q->∃a,us[j]?=J (.tup [q.2.1.mv,.ref a])/\hp[a]?=J (.list ((ans q.2.2).map .str)):=by
 induction h with
 | nil=>intro j q e;exact aJ e
 | @cons k r ab a qs us h1 h2 h3 ih=>
  intro j q e
  cases j with
  | zero=>obtain rfl:=By e;exact ⟨a,rfl,h2⟩
  | succ j=>exact ih e
end
variable (hK:aD PP K)
include hK
theorem qP:∀(t:Tm) {N:Nat}{Q:MV->List MO->Prop}{X:XT}{h:List MO},t.deep<N->t.lv<=1000->(∀r h',h<+:h'->h'[r]?=J (.list ((an t).map .str))->Q (.ref r) h')->K N 37 [t.mv] Q X h
 | .num k,N,Q,X,h,hN,hl,hq=>by
  obtain ⟨M,rfl,hM⟩:=room hN;refine hK _ _ _ _ _ _ bk rfl rfl ?_;exact hq _ _ (aa (aj _)) (ac _ _)
 | .nm s,N,Q,X,h,hN,hl,hq=>by
  obtain ⟨M,rfl,hM⟩:=room hN;refine hK _ _ _ _ _ _ bk rfl rfl ?_;exact hq _ _ (aa (aj _)) (ac _ _)
 | .op c a b,N,Q,X,h,hN,hl,hq=>by
  have hN:max a.deep b.deep+1<N:=hN;have hl:a.lv+b.lv<=1000:=hl;obtain ⟨M,rfl,hM⟩:=room hN;have ea:=dj a;have eb:=dj b;refine hK _ _ _ _ _ _ bk rfl rfl ?_;refine bx (show ([c]==z4)=Z from oN (by decide)) ?_;refine bx (show ([c]==rZ)=Z from oN (by decide)) ?_;refine qP a (n2 hN (KF a.deep b.deep)) (n1 hl) λr1 h1 p1 e1=>?_;refine qP b (n2 hN (KI a.deep b.deep)) (n1 hl) λr2 h2 p2 e2=>?_;refine ae (af p2 e1) (ae e2 ?_);refine ⟨bG (n3 eb ea hl),?_⟩;exact hq _ _ (aa (Nq p1 p2)) (bW _ _ _)
theorem xX {r:Rw}(hN:0<N)(hq:Q (.ref h.length) (h++[.list (r.subs.map λb=>.tup (mvs b))])):K N 72 [r.mv] Q X h:=by
 obtain ⟨M,rfl,hM⟩:=room hN;refine hK _ _ _ _ _ _ jy rfl rfl ?_
 cases r with
 | set s t=>exact hq
 | tell t=>exact ⟨⟨rfl,rfl,by decide,KN rfl⟩,hq⟩
 | skip=>exact ⟨⟨rfl,rfl,by decide,KN rfl⟩,hq⟩
 | ite t a b=>exact ⟨⟨rfl,rfl,by decide,KN rfl⟩,hq⟩
 | wh t a=>exact ⟨⟨rfl,rfl,by decide,KN rfl⟩,hq⟩
theorem wg {r:Rw}(hN:0<N)(hq:Q r.ft.mv h):K N 106 [r.mv] Q X h:=by
 obtain ⟨M,rfl,hM⟩:=room hN;refine hK _ _ _ _ _ _ iw rfl rfl ?_
 cases r<;>exact hq
end
section
noncomputable def Kp1 (i:Nat)(h h':List MO):Prop:=∀j o,j≠i->h[j]?=J o->h'[j]?=J o
theorem Kp1.refl (h:List MO):Kp1 i h h:=λ_ _ _ e=>e
theorem Kp1.trans (x:Kp1 i a b)(y:Kp1 i b c):Kp1 i a c:=λj o h e=>y j o h (x j o h e)
theorem Kp1.pre (p:a<+:b):Kp1 i a b:=λ_ _ _ e=>af p e
theorem Kp1.set:Kp1 i a (a.set i o):=λj _ h e=>ap (LP h) e
theorem AZ {r:Rw}(h:b∈r.subs):r.tm=r.ft:=by
 cases r with
 | ite t x y=>rfl
 | wh t x=>rfl
 | _=>exact aO h
noncomputable def LI (K:KT)(rs:List Rw):Prop:=∀{N:Nat}{k:Int}{ab:List Tm}{ar i:Nat}{vs:List MV}{Q:MV->List MO->Prop}{X:XT}{h:List MO}{u:MV}{g:Gd},dz .val [u] h=J (mvs rs,g)->(∀hp,Kp1 i h hp->aS g hp)->b0 rs->(∀t∈ab,t.good)->ab.length+ak rs<=7->vs.length+ao rs<=10000->ak rs+6<N->h[ar]?=J (.list ((ans ab).map .str))->ar≠i->h[i]?=J (.list vs)->
 (∀h' us,Kp1 i h h'->h'[i]?=J (.list (vs++us))->LsA h' i (nums k ab rs) us->Q (.ref i) h')->K N 107 [u,.ref ar,.ref i] Q X h
variable (hK:aD PP K)
include hK
theorem DS (rs:List Rw)(ih:∀r∈rs,∀b∈r.subs,LI K b):LI K rs:=by
 intro N k ab ar i vs Q X h u g hit hgd hg hab hl hz hN har hne hi hq;obtain ⟨M,rfl,hM⟩:=room hN;have la:=mY hab;refine hK _ _ _ _ _ _ jz rfl rfl ?_;refine aI hit ?_;refine vf (λj w3 w4 hp us=>⟨[J u,J (.ref ar),J (.ref i),w3,w4],hp⟩) (λj w3 w4 hp us=>A3 (Kp1 i h hp) (hp[i]?=J (.list (vs++us))) (LsA hp i (nums k ab (rs.take j)) us)) bY bY h [] rfl ⟨.refl _,by rw [Kr];exact hi,.nil⟩ (λ_ _ _ _ _ hI=>hgd _ hI.h1) (λj x w3 w4 hp us P hx hI hn _=>?_) (λw3 w4 hp us hI=>?_)
 ·refine hI.el λk1 e1 a1=>?_;obtain ⟨r,hr,rfl⟩:=mQ hx;have hm:=rW hr;have gr:=eZ hg r hm;have sz:ao (rs.take (j+1))<=ao rs:=oj rs _;rw [aq hr,gw,show ao [r]=r.size from Ps _,vj] at sz;have l1:us.length=ao (rs.take j):=by rw [a1.len,bE]
  refine az (aH e1) (aV (aU e1) ?_);refine ⟨KG (show _<10000 by rw [eQ];exact n3 (Km l1) sz hz) (aR (by decide)),?_⟩;have e2:(hp.set i (.list (vs++us++[MV.tup [r.mv,.ref ar]])))[i]?=J (.list (vs++us++[MV.tup [r.mv,.ref ar]])):=get_set e1;have k2:Kp1 i hp (hp.set i (.list (vs++us++[MV.tup [r.mv,.ref ar]]))):=.set;refine xX hK (r:=r) (n1 hN) ?_;refine aI (aG (ac _ _)) ?_;have p3:hp.set i (.list (vs++us++[MV.tup [r.mv,.ref ar]]))<+:(hp.set i (.list (vs++us++[MV.tup [r.mv,.ref ar]])))++[MO.list (r.subs.map λb=>.tup (mvs b))]:=aa (aj _);have nei:i≠(hp.set i (.list (vs++us++[MV.tup [r.mv,.ref ar]]))).length:=KA (iN.mp e2).1;have a2:LsA (hp.set i (.list (vs++us++[MV.tup [r.mv,.ref ar]]))) i (nums k ab (rs.take j)++[(k+ao (rs.take j),r,ab)]) (us++[MV.tup [r.mv,.ref ar]]):=(a1.up k2).app (.cons hne (k2 _ _ hne (k1 _ _ hne har)) .nil);refine gV (λj2 w4 hp2 us2=>⟨[J u,J (.ref ar),J (.ref i),J r.mv,w4],hp2⟩) (λj2 w4 hp2 us2=>A4 (Kp1 i hp hp2) (hp2[i]?=J (.list (vs++(us++[MV.tup [r.mv,.ref ar]]++us2)))) (LsA hp2 i (nums k ab (rs.take j)++[(k+ao (rs.take j),r,ab)]++dU (k+ao (rs.take j)+1) (ab++[r.tm]) (r.subs.take j2)) (us++[MV.tup [r.mv,.ref ar]]++us2)) (hp2[(hp.set i (.list (vs++us++[MV.tup [r.mv,.ref ar]]))).length]?=J (.list (r.subs.map λb=>.tup (mvs b)))))
   _ _ [] rfl ⟨k2.trans (.pre p3),by rw [Kr,<-Ks];exact af p3 e2,by rw [Kr];show LsA _ i (_++[]) _;rw [Kr];exact a2.up λ_ _ _ e=>af p3 e,ac _ _⟩ (λ_ _ _ _ hI=>hI.h4) (λj2 y w4 hp2 us2 P2 hy hI hn2 _=>?_) (λw4 hp2 us2 hI=>?_)
  ·refine hI.el λq1 q2 q3 q4=>?_;obtain ⟨b,hb,rfl⟩:=EQ.mp (ID ..▸hy);have hbm:=rW hb;have gt:r.ft.good:=mW gr;have nb1:=gu b hbm;have nr:=dw (oF (ak rs)) r hm;have ss:=mn r.subs (j2+1);rw [aq hb,fu,show br [b]=ao b from Ps _] at ss;have l2:us2.length=br (r.subs.take j2):=by
    have h1:=q3.len;have h2:∀(bs:List (List Rw)) (k:Int) (ab:List Tm),(dU k ab bs).length=br bs:=λbs=>by
     induction bs with
     | nil=>intro k ab;rfl
     | cons b bs ih=>intro k ab;show (nums k ab b++dU (k+ao b) ab bs).length=ao b+br bs;rw [eQ,bE,ih]
    rw [eQ,eQ,eQ,eQ,h2,bE,Kx,Kx] at h1;lia
   have har2:=q1 _ _ hne (k1 _ _ hne har);refine wg hK (r:=r) (n1 hN) ?_;refine qP hK r.ft (by have:=gt.2;exact n2 this hN) (dO gt.lv (nb rfl)) λr5 h5 p5 e5=>?_;have p5:hp2<+:h5:=p5;refine ae (af p5 har2) (ae e5 ?_);have ln:=dO (dj r.ft) gt.lv;refine ⟨bG (dO (KH (dO la (KP 8 (dO (K5 _ _) hl))) ln) (nb rfl)),?_⟩;have e6:(h5++[MO.list ((ans ab).map .str++(an r.ft).map .str)])[h5.length]?=J (.list ((ans (ab++[r.tm])).map .str)):=by rw [AZ hbm,DR];exact bW _ _ _
   have p6:hp2<+:h5++[MO.list ((ans ab).map .str++(an r.ft).map .str)]:=aa p5;have hlt:i<h5.length:=KG (iN.mp q2).1 p5.length_le;refine ih r hm b hbm (k:=k+ao (rs.take j)+1+br (r.subs.take j2)) (ab:=ab++[r.tm]) rfl (λ_ _=>trivial) (sm gr b hbm) (λt ht=>(nO.mp ht).elim (hab t) λe=>by rw [iD.mp e,AZ hbm];exact gt) (by rw [eQ,Kx];exact n3 nr nb1 hl) ?_ (n3 nr nb1 hN) e6 (Lg hlt) (af p6 q2) λh7 us7 k7 e7 a7=>?_
   ·rw [eQ,eQ,eQ,Kx,l1,l2];exact n3 hz sz ss
   ·refine hn2 _ h7 (us2++us7) ⟨(q1.trans (.pre p6)).trans k7,?_,?_,k7 _ _ (LP nei) (af p6 q4)⟩
    ·rw [e7];simp only [Ks]
    ·rw [aq hb,lC,<-Ks,<-Ks];refine (q3.up λj o hj e=>k7 j o hj (af p6 e)).app ?_;show LsA h7 i (nums _ _ b++[]) us7;rw [Kr];exact a7
  ·refine hI.el λq1 q2 q3 q4=>?_;rw [iF,KD] at q3;refine hn _ _ hp2 (us++[MV.tup [r.mv,.ref ar]]++us2) ⟨k1.trans q1,q2,?_⟩;rw [aq hr,oi,show nums (k+ao (rs.take j)) ab [r]=r.num (k+ao (rs.take j)) ab from Kr _,z9];rw [Ks] at q3;exact q3
 ·refine hI.el λk1 e1 a1=>?_;rw [cj,KD] at a1;exact hq _ _ k1 e1 a1
theorem A8 (rs:List Rw):LI K rs:=dc (P:=λrs=>LI K rs) (λrs ih=>DS hK rs ih) rs
end
theorem EH {m:MS}(h:i≠j):(m.set i v).get j=m.get j:=by
 unfold MS.get MS.set;rw [Na h]
noncomputable def fil (sec l:List Txt):List Txt:=l.filter λx=>sec.contains x
theorem wi:x∈fil sec l↔x∈l/\x∈sec:=by
 unfold fil;rw [Od,KL]
theorem DT:(fil sec l).isEmpty=!l.any sec.contains:=by
 rw [Oa,Ms,Lh,OC];constructor
 ·intro h q;refine e12 (Ls.mp q) λn h1 h2=>?_;have:n∈fil sec l:=wi.mpr ⟨h1,KL.mp h2⟩;rw [h] at this;exact aO this
 ·intro h;refine List.eq_nil_iff_forall_not_mem.mpr λn hn=>h ?_;obtain ⟨h1,h2⟩:=wi.mp hn;exact Ls.mpr ⟨n,h1,KL.mpr h2⟩
section
theorem A9 {l sec:List Txt}{vs:List (Option MV)}{hp:List MO}(hsrc:∀P':PQ,(∀hp' r,hp<+:hp'->hp'[r]?=J (.list (l.map .str))->P' (.ref r) ⟨vs,hp'⟩)->wpE K n src P' X ⟨vs,hp⟩)(ol:∀x∈l,okS x)(hs:hp[s]?=J (.list (sec.map .str)))(os:∀x∈sec,okS x)(hv:v<vs.length)(hw:∀hp',(MS.mk vs hp').get w=J (.ref s))(hne:v≠w)
  (hq:∀hp',hp<+:hp'->P (.ref hp'.length) ⟨vs,hp'++[.list ((fil sec l).map .str)]⟩):wpE K n (.comp (.var v) [v] Z .val [src] [.cmp .inn (.var v) (.var w)]) P X ⟨vs,hp⟩:=by
 refine hsrc _ λhp r pre hl=>?_;have hs:=af pre hs;have hq:=hq hp pre;have hw:=hw hp;refine aI (aG hl) ?_;refine kz (λz=>⟨vs.set v z,hp⟩) (λj=>(fil sec (l.take j)).map .str) (vs[v]'hv) (by rw [NW]) rfl (λ_=>hl) (λj x z P hx n1 n2=>?_) (λz=>?_)
 ·obtain ⟨y,hy,rfl⟩:=EQ.mp (ID ..▸hx);have e:(MS.mk (vs.set v z) hp).set v (.str y)=⟨vs.set v (J (.str y)),hp⟩:=by unfold MS.set;rw [Pq]
  have g1:(MS.mk (vs.set v (J (.str y))) hp).get v=J (.str y):=AB (m:=⟨vs,hp⟩) hv;have g2:(MS.mk (vs.set v (J (.str y))) hp).get w=J (.ref s):=(EH (m:=⟨vs,hp⟩) hne).trans hw;show wpE K n (.var v) _ noX ((MS.mk (vs.set v z) hp).set v (.str y));rw [e];refine eR g1 ?_;refine eR g2 ?_;refine av hs ?_;refine bV (ol y (rW hy)) os ?_;refine dP (λq=>?_) λq=>?_
  ·show wpE K n (.var v) (λx m=>P (J x) m) noX ⟨vs.set v (J (.str y)),hp⟩;refine eR g1 (n1 _ _ ?_);show ((l.take (j+1)).filter _).map MV.str=((l.take j).filter _).map MV.str++_;rw [uj hy q,KB];rfl
  ·refine n2 _ ?_;show ((l.take (j+1)).filter _).map MV.str=((l.take j).filter _).map MV.str;rw [uk hy q]
 ·rw [iF,KD];exact hq
theorem Ki (h:wpE K n e (λx m=>wpE K n (.list []) (λy m=>lN .ne x y (λt m=>match t with
  | true=>aA K n a (λf m=>match f with
   | .next=>aA K n r Q X m
   | f=>Q f m) X m
  | false=>aA K n b (λf m=>match f with
   | .next=>aA K n r Q X m
   | f=>Q f m) X m) m) X m) X m):aA K n (.ite (.cmp .ne e (.list [])) a b::r) Q X m:=h
theorem wj (hK:aD PP K)(ha:∀P':PQ,P' t.mv m->wpE K n a P' X m)(hu:∀hp',(MS.mk m.vars hp').get u=J (.ref r))(hr:m.heap[r]?=J (.list ((ans ab).map .str)))(gt:t.good)(ga:∀t∈ab,t.good)(ll:ab.length<=7)(hn:3<n)
  (hq:∀hp' i,m.heap<+:hp'->hp'[i]?=J (.list ((an t++ans ab).map .str))->P (.ref i) ⟨m.vars,hp'⟩):wpE K n (.bin .add (.call 37 [a]) (.var u)) P X m:=by
 refine ha _ ?_;refine qP hK t (by have:=gt.2;exact n2 this hn) (dO gt.lv (nb rfl)) λr5 h5 p5 e5=>?_;have p5:m.heap<+:h5:=p5;refine eR (hu h5) ?_;refine ae e5 (ae (af p5 hr) ?_);have ln:=dO (dj t) gt.lv;have la:(ans ab).length<=8 * ab.length:=mY ga;refine ⟨bG (dO (KH ln (dO la (KP 8 ll))) (nb rfl)),?_⟩;exact hq _ _ (aa p5) (bW _ _ _)
end
section
theorem kQ:n∈ans ab↔n∈ats ab:=by
 rw [gY];unfold ans;exact Mh
theorem wl:n∈fB (.set x t) ab↔n∈an t++ans ab:=by
 rw [kO (λe=>by cases e),nO,kQ];exact or_comm
theorem DU:(k,n,x)∈qfl (k,.set x t,ab)↔n∈an t++ans ab:=by
 rw [<-wl (x:=x)];show (k,n,x)∈(fB (.set x t) ab).map (λs=>(k,s,x))↔_;rw [KW];exact ⟨λ⟨s,h,e⟩=>by cases e;exact h,λh=>⟨n,h,rfl⟩⟩
structure mr (h:List MO)(rp ra rb ri:Nat)(A B:List Txt)(qs:List Num)(us:List MV):Prop where
 p:h[rp]?=J (.list [.ref ra,.ref rb])
 a:h[ra]?=J (.list (A.map .str))
 b:h[rb]?=J (.list (B.map .str))
 r:h[ri]?=J (.list us)
 ls:LsA h ri qs us
theorem mr.up (L:mr h rp ra rb ri A B qs us)(p:h<+:h'):mr h' rp ra rb ri A B qs us:=
 ⟨af p L.p,af p L.a,af p L.b,af p L.r,L.ls.up λ_ _ _ e=>af p e⟩
structure Sec (A B T:List Txt)(fl:List Flw)(sec:List Txt):Prop where
 nd:sec.Nodup
 sub:∀x∈sec,x∈T
 base:∀x∈B,x∈sec
 snd:∀x∈sec,Rch A B fl x
noncomputable def Clo (A:List Txt)(fl:List Flw)(sec:List Txt):Prop:=∀f∈fl,f.2.1∈sec->f.2.2∉A->f.2.2∈sec
theorem Sec.all (s:Sec A B T fl sec)(c:Clo A fl sec)(x:Txt):x∈sec↔Rch A B fl x:=by
 refine ⟨s.snd x,λr=>?_⟩
 induction r with
 | base h=>exact s.base _ h
 | step h _ hA _ ih=>exact c _ h ih hA
theorem Sec.add (s:Sec A B T fl sec)(hx:x∉sec)(hT:x∈T)(hA:x∉A)(hf:(k,n,x)∈fl)(hn:n∈sec):Sec A B T fl (sec++[x]):=
 ⟨K1.mpr ⟨s.nd,Mm.mpr ⟨LD,MT⟩,λa ha b hb e=>hx (by rw [<-iD.mp hb,<-e];exact ha)⟩,
  λy hy=>(nO.mp hy).elim (s.sub y) λh=>by rw [iD.mp h];exact hT,λy hy=>tO _ (s.base y hy),
  λy hy=>(nO.mp hy).elim (s.snd y) λh=>by rw [iD.mp h];exact .step hf (s.snd n hn) hA λhB=>hx (s.base x hB)⟩
theorem LsA.at_ {hp:List MO}{i:Nat}{qs:List Num}{us:List MV}(h:LsA hp i qs us){j:Nat}{x:MV}(e:us[j]?=J x):∃q a,qs[j]?=J q/\x=.tup [q.2.1.mv,.ref a]/\hp[a]?=J (.list ((ans q.2.2).map .str)):=by
 have hj:=(iN.mp e).1;rw [h.len] at hj;refine e12 (h.get (bn hj)) λa h1 h2=>?_;exact ⟨_,a,bn hj,same e h1,h2⟩
theorem Ba {hp:List MO}{l:List Txt}(hi:hp[i]?=J (.list (l.map .str)))(hj:hp[j]?=J (.list []))(h:Q l.isEmpty):EqP hp (.ref i) (.ref j) Q:=by
 refine .nil i j (l.map .str) rfl rfl hi hj ?_;rw [show (l.map MV.str).isEmpty=l.isEmpty from by cases l<;>rfl];exact h
theorem DV {α:Type}{x:α}{a b:List α}:x∉a++b↔x∉a/\x∉b:=by rw [nO,not_or]
theorem Bb {l:List Txt}(h:l.contains x=Z):x∉l:=λq=>by rw [KL.mpr q] at h;exact tf h
variable (hK:aD PP K)
include hK
section
variable (L:mr h rp ra rb ri A B (nums 1 [] rows) us) (F:LF A B rows)
include F
theorem Bc {r:Rw}{sec:List Txt}{hp:List MO}(L:mr hp rp ra rb ri A B (nums 1 [] rows) us)(hq:(k,r,ab)∈nums 1 [] rows)(ha:hp[a]?=J (.list ((ans ab).map .str)))(hs:hp[s]?=J (.list (sec.map .str)))(S:Sec A B (aK (ay A B rows)) (cw (nums 1 [] rows)) sec)(hN:4<N)
  (q0:∀hp' w6,hp<+:hp'->(∀x t,r=.set x t->x∉A->(∃n∈an t++ans ab,n∈sec)->x∈sec)->P .next ⟨[J (.ref rp),J (.ref ri),J (.ref s),J (.bool g),J r.mv,J (.ref a),w6],hp'⟩)
  (q1:∀hp' w6 x t n,hp<+:hp'->r=.set x t->x∉A->x∉sec->n∈an t++ans ab->n∈sec->P .next ⟨[J (.ref rp),J (.ref ri),J (.ref s),J (.bool aT),J r.mv,J (.ref a),w6],hp'.set s (.list ((sec++[x]).map .str))⟩) :
  asg [4,5] aT (.tup [r.mv,.ref a]) (λm=>aA K N [.ite (.and [.cmp .eq (.idx (.var 4) (.cst (.int 0))) (.cst (.str [115,101,116])),.cmp .nin (.idx (.var 4) (.cst (.int 1))) (.bin .add (.idx (.var 0) (.cst (.int 0))) (.var 2))]) [.ite (.cmp .ne (.comp (.var 6) [6] Z .val [.bin .add (.call 37 [.idx (.var 4) (.cst (.int 2))]) (.var 5)] [.cmp .inn (.var 6) (.var 2)]) (.list [])) [.expr (.mth .append (.var 2) [.idx (.var 4) (.cst (.int 1))]),.asg [3] Z (.cst (.bool aT))] []] []] P X m) ⟨[J (.ref rp),J (.ref ri),J (.ref s),J (.bool g),w4,w5,w6],hp⟩:=by
 have o:=F.nums _ hq;have few:=jO sec _ S.nd S.sub;have fT:=F.few;have len:=F.len;have oks:∀x∈sec,okS x:=λx hx=>F.ok x (S.sub x hx);have no:(∀x t,r≠.set x t)->P .next ⟨[J (.ref rp),J (.ref ri),J (.ref s),J (.bool g),J r.mv,J (.ref a),w6],hp⟩:=λh=>q0 hp w6 (aj _) λx t e=>absurd e (h x t)
 refine ⟨rfl,?_⟩
 cases r with
 | tell t=>exact no λ_ _ e=>by cases e
 | skip=>exact no λ_ _ e=>by cases e
 | ite t a b=>exact no λ_ _ e=>by cases e
 | wh t a=>exact no λ_ _ e=>by cases e
 | set x t=>
  have gt:t.good:=o.good.2;have xT:x∈aK (ay A B rows):=qN hq x t rfl;have gA:∀y∈A++sec,okS y:=λy hy=>(nO.mp hy).elim (λh=>(F.gn y (tO _ h)).1.ok) (oks y);refine ae L.p ?_;refine ae L.a (ae hs ?_);refine ⟨bG (n3 len fT few),?_⟩;refine av (xs:=(A++sec).map .str) (by rw [KB];exact ac _ _) ?_;refine bV (F.ok x xT) gA ?_
  cases q:(A++sec).contains x with
  | true=>exact q0 _ w6 (aa (aj _)) λy u e hA _=>by cases e;exact (nO.mp (KL.mp q)).resolve_left hA
  | false=>
   obtain ⟨hA,hS⟩:=DV.mp (Bb q);have p1:hp<+:hp++[MO.list (A.map .str++sec.map .str)]:=aa (aj _);have on:∀n∈an t++ans ab,okS n:=λn hn=>(nO.mp hn).elim (λh=>F.ok n (o.fn n h)) λh=>F.ok n (o.am n (kQ.mp h));show aA K N [.ite (.cmp .ne (.comp (.var 6) [6] Z .val [.bin .add (.call 37 [.idx (.var 4) (.cst (.int 2))]) (.var 5)] [.cmp .inn (.var 6) (.var 2)]) (.list [])) [.expr (.mth .append (.var 2) [.idx (.var 4) (.cst (.int 1))]),.asg [3] Z (.cst (.bool aT))] []] _ X ⟨[J (.ref rp),J (.ref ri),J (.ref s),J (.bool g),J (Rw.mv (.set x t)),J (.ref a),w6],hp++[MO.list (A.map .str++sec.map .str)]⟩;refine Ki ?_;refine A9 (l:=an t++ans ab) (λP' hP'=>?_) on (af p1 hs) oks (KN rfl) (λ_=>rfl) (by decide) λh5 p5=>?_
   ·exact wj hK (t:=t) (ab:=ab) (λP' h=>h) (λ_=>rfl) (af p1 ha) gt o.tg o.len (NM hN) hP'
   have p5:hp<+:h5:=p1.trans p5;refine Ba (ai (ac _ _)) (ac _ _) ?_;rw [DT]
   cases q2:(an t++ans ab).any sec.contains with
   | false=>
    refine q0 _ _ (aa (aa p5)) λy u e _ hx=>?_
    cases e
    refine e12 hx λn h1 h2=>?_;rw [Ls.mpr ⟨n,h1,KL.mpr h2⟩] at q2;exact tf q2
   | true=>
    refine e12 (Ls.mp q2) λn h1 h2=>?_;have e6:=ai (o':=MO.list []) (ai (o':=MO.list ((fil sec (an t++ans ab)).map .str)) (af p5 hs));refine az (aH e6) (aV (aU e6) ?_);refine ⟨by rw [iF];exact Kn few (KG fT (aR (nb rfl))),?_⟩;have:=q1 _ w6 x t n (aa (o:=MO.list []) (aa (o:=MO.list ((fil sec (an t++ans ab)).map .str)) p5)) rfl hA hS h1 (KL.mp h2);rw [KB] at this;exact this
include L
theorem Bd {N:Nat}{Q:MV->List MO->Prop}{X:XT}(hN:5<N)(hq:∀h' r (sec:List Txt),h<+:h'->h'[r]?=J (.list (sec.map .str))->(∀x,x∈sec↔Rch A B (cw (nums 1 [] rows)) x)->(∀x∈sec,x∈aK (ay A B rows))->Q (.ref r) h'):K N 108 [.ref rp,.ref ri] Q X h:=by
 obtain ⟨M,rfl,hM⟩:=room hN;have fT:=F.few;have B0:Sec A B (aK (ay A B rows)) (cw (nums 1 [] rows)) B:=⟨(K1.mp F.nd).2.1,λx hx=>aE.mpr (tO _ (AT _ hx)),λx hx=>hx,λx hx=>.base hx⟩
 refine hK _ _ _ _ _ _ jA rfl rfl ?_;refine ae L.p ?_;refine av L.b ?_;refine ⟨202,qq (λw:List Txt × Bool × List MO × Option MV × Option MV × Option MV=>⟨[J (.ref rp),J (.ref ri),J (.ref h.length),J (.bool w.2.1),w.2.2.2.1,w.2.2.2.2.1,w.2.2.2.2.2],w.2.2.1⟩) (λk w=>A5 (h<+:w.2.2.1) (w.2.2.1[h.length]?=J (.list (w.1.map .str))) (Sec A B (aK (ay A B rows)) (cw (nums 1 [] rows)) w.1) (w.2.1=aT->202<=k+w.1.length) (w.2.1=Z->1<=k/\Clo A (cw (nums 1 [] rows)) w.1))
  (λw hI=>?_) (λk w W hI hW=>?_) 202 (B,aT,_,bY,bY,bY) rfl ⟨aa (aj _),ac _ _,B0,λ_=>K5 _ _,λh=>tf h⟩⟩
 ·obtain ⟨sec,g,hp,w4,w5,w6⟩:=w;obtain ⟨_,_,S,h1,h2⟩:=hI;have few:sec.length<=_:=jO sec _ S.nd S.sub
  cases g with
  | true=>have:202<=0+sec.length:=h1 rfl;exact nf (n3 this few fT)
  | false=>exact nf (h2 rfl).1
 ·obtain ⟨sec,g,hp,w4,w5,w6⟩:=w;obtain ⟨p1,e1,S,h1,h2⟩:=hI;dsimp only at p1 e1 S h1 h2;have few:=jO sec _ S.nd S.sub
  cases g with
  | false=>exact hq hp _ sec p1 e1 (S.all (h2 rfl).2) S.sub
  | true=>
   have h1:=h1 rfl;have L1:=L.up p1;refine aI (aG L1.r) ?_;refine kn (λj sec' g w4 w5 w6 hp=>⟨[J (.ref rp),J (.ref ri),J (.ref h.length),J (.bool g),w4,w5,w6],hp⟩)
    (λj sec' g w4 w5 w6 hp=>A5 (h<+:hp) (hp[h.length]?=J (.list (sec'.map .str))) (Sec A B (aK (ay A B rows)) (cw (nums 1 [] rows)) sec') (g=aT->sec.length<sec'.length) (g=Z->sec'=sec/\Clo A (cw ((nums 1 [] rows).take j)) sec')) sec Z w4 w5 w6 hp rfl ⟨p1,e1,S,λh=>ff h,λ_=>⟨rfl,λf hf=>by rw [LC] at hf;exact aO hf⟩⟩ (λ_ _ _ _ _ _ _ hI=>(L.up hI.h1).r) (λj x sec' g w4 w5 w6 hp P hx hI hn _=>?_) (λsec' g w4 w5 w6 hp hI=>?_)
   ·obtain ⟨p2,e2,S2,g1,g2⟩:=hI;have L2:=L.up p2;obtain ⟨⟨k',r,ab⟩,a,hj,rfl,ea⟩:=L2.ls.at_ hx;have hm:=rW hj;refine Bc hK F L2 hm ea e2 S2 (n1 hM) (λhp' w6 p3 h3=>?_) λhp' w6 x t n p3 h3 h4 h5 h6 h7=>?_
    ·refine hn sec' g _ _ _ hp' ⟨p2.trans p3,af p3 e2,S2,g1,λh=>⟨(g2 h).1,λf hf hs hA=>?_⟩⟩;rw [aq hj,oL] at hf;refine Lm (nO.mp hf) (λhf=>?_) λhf=>?_
     ·exact (g2 h).2 f hf hs hA
     ·have hf:f∈qfl (k',r,ab):=by rw [show cw [(k',r,ab)]=qfl (k',r,ab) from Kr _] at hf;exact hf
      cases r with
      | set x t=>
       obtain ⟨s,hs',rfl⟩:=KW.mp (show f∈(fB (.set x t) ab).map λs=>(k',s,x) from hf);exact h3 x t rfl hA ⟨s,wl.mp hs',hs⟩
      | _=>exact aO hf
    ·subst h3;have hf:(k',n,x)∈cw (nums 1 [] rows):=Mh.mpr ⟨_,hm,DU.mpr h6⟩;refine hn (sec'++[x]) aT _ _ _ _ ⟨aF (p2.trans p3) (oF _),get_set (af p3 e2),S2.add h5 (qN hm x t rfl) h4 hf h7,λ_=>?_,λh=>tf h⟩;rw [eQ,Kx]
     cases g with
     | true=>exact M6 (g1 rfl)
     | false=>rw [(g2 rfl).1];exact Lp _
   ·refine hI.el λp2 e2 S2 g1 g2=>?_;rw [L1.ls.len,KD] at g2;refine hW (sec',g,hp,_,_,_) ⟨p2,e2,S2,λh=>?_,λh=>⟨?_,(g2 h).2⟩⟩
    ·have:=g1 h;exact n2 this h1
    ·exact n3 h1 few fT
end
end
section
noncomputable def dvr:Tm->Bool->List Txt
 | .num _,_=>[]
 | .nm s,b=>match b with
  | true=>[s]
  | false=>[]
 | .op c a b,r=>dvr a r++dvr b (r||c==47)
theorem Be:∀{t:Tm}{n:Txt},n∈dvr t aT↔n∈an t
 | .num _,n=>Pz
 | .nm s,n=>Pz
 | .op c a b,n=>by
  show n∈dvr a aT++dvr b aT↔n∈an a++an b;rw [nO,nO,Be,Be]
theorem sH:∀{t:Tm}{n:Txt},n∈dvr t Z↔n∈rn t
 | .num _,n=>Pz
 | .nm s,n=>Pz
 | .op c a b,n=>by
  show n∈dvr a Z++dvr b (c==47)↔n∈rn a++rn b++(match c==47 with | true=>an b | false=>[])
  cases c==47 with
  | true=>
   show _↔n∈rn a++rn b++an b;rw [nO,nO,nO,sH,Be];exact ⟨λh=>h.elim (λh=>.inl (.inl h)) .inr,λh=>h.elim (λh=>h.elim .inl λh=>.inr (wa h)) .inr⟩
  | false=>
   show _↔n∈rn a++rn b++[];rw [Kr,nO,nO,sH,sH]
theorem kR:∀(t:Tm) (b:Bool),(dvr t b).length<=t.lv
 | .num _,_=>Ko _
 | .nm s,b=>by cases b<;>exact KN rfl
 | .op c a b,r=>by
  have h1:=kR a r;have h2:=kR b (r||c==47);show (dvr a r++dvr b (r||c==47)).length<=a.lv+b.lv;rw [eQ];exact KH h1 h2
theorem wm {sec l:List Txt}:fil sec l=[]↔∀n∈l,n∉sec:=by
 unfold fil;rw [List.filter_eq_nil_iff];exact ⟨λh n hn hs=>h n hn (KL.mpr hs),λh n hn hs=>h n hn (KL.mp hs)⟩
noncomputable def lls (A sec:List Txt)(r:Rw)(ab:List Tm):List (List Txt):=(match r with
 | .set x _=>(match A.contains x with
  | true=>[fil sec (an r.ft++ans ab)]
  | false=>[])
 | .tell _=>[fil sec (an r.ft++ans ab)]
 | .wh _ _=>[fil sec (an r.ft++ans ab)]
 | _=>[])++match dvs r.ft with
 | true=>[fil sec (dvr r.ft Z++ans ab)]
 | false=>[]
noncomputable def Qt (A sec:List Txt)(r:Rw)(ab:List Tm):Prop:=∀l∈lks A r ab,∀n∈l.2,n∉sec
theorem wn {α β:Type}{P:α->Prop}{R:β->Prop}{a:α}{b:β}(h:P a↔R b):(∀x∈[a],P x)↔∀y∈[b],R y:=
 ⟨λk y hy=>by rw [iD.mp hy];exact h.mp (k a (.head _)),λk x hx=>by rw [iD.mp hx];exact h.mpr (k b (.head _))⟩
theorem DW {α β:Type}{P:α->Prop}{R:β->Prop}:(∀x∈([]:List α),P x)↔∀y∈([]:List β),R y:=⟨λ_ _ h=>aO h,λ_ _ h=>aO h⟩
theorem Jm {α β:Type}{P:α->Prop}{R:β->Prop}{a a':List α}{b b':List β}(h:(∀x∈a,P x)↔∀y∈b,R y)(k:(∀x∈a',P x)↔∀y∈b',R y):(∀x∈a++a',P x)↔∀y∈b++b',R y:=by
 rw [List.forall_mem_append,List.forall_mem_append,h,k]
theorem wo {A sec:List Txt}{r:Rw}{ab:List Tm}:(∀l∈lls A sec r ab,l=[])↔Qt A sec r ab:=by
 have e1:r≠.skip->∀w:Txt,fil sec (an r.ft++ans ab)=[]↔∀n∈(w,fB r ab).2,n∉sec:=λhr w=>by
  rw [wm];refine forall_congr' λn=>?_;rw [kO hr,nO,kQ,or_comm]
 have e2:(∀l∈(match dvs r.ft with | true=>[fil sec (dvr r.ft Z++ans ab)] | false=>[]:List (List Txt)),l=[])↔∀l∈lk4 r ab,∀n∈l.2,n∉sec:=by
  unfold lk4
  cases dvs r.ft with
  | true=>
   refine wn (P:=(·=[])) (R:=λl:Lk=>∀n∈l.2,n∉sec) ?_;rw [wm];refine forall_congr' λn=>?_;rw [nO,nO,aE,sH,kQ]
  | false=>exact DW
 unfold Qt lks;refine Jm ?_ e2
 cases r with
 | skip=>exact DW
 | ite t a b=>exact DW
 | tell t=>exact wn (P:=(·=[])) (R:=λl:Lk=>∀n∈l.2,n∉sec) (e1 (λe=>by cases e) dJ)
 | wh t a=>exact wn (P:=(·=[])) (R:=λl:Lk=>∀n∈l.2,n∉sec) (e1 (λe=>by cases e) oJ)
 | set x t=>
  rw [show lk1 A (.set x t) ab++lk2 (.set x t) ab++lk3 (.set x t) ab=lk1 A (.set x t) ab from (Kr _).trans (Kr _)];show (∀l∈(match A.contains x with | true=>[fil sec (an t++ans ab)] | false=>[]:List (List Txt)),l=[])↔∀l∈(match A.contains x with | true=>[(cO,fB (.set x t) ab)] | false=>[]:List Lk),∀n∈l.2,n∉sec
  cases A.contains x with
  | true=>exact wn (P:=(·=[])) (R:=λl:Lk=>∀n∈l.2,n∉sec) (e1 (λe=>by cases e) cO)
  | false=>exact DW
inductive FdA (hp:List MO):List (List Txt)->List MV->Prop
 | nil:FdA hp [] []
 | cons {w x l i ls vs}:hp[i]?=J (.list (l.map .str))->FdA hp ls vs->FdA hp (l::ls) (.tup [.str w,.str x,.ref i]::vs)
theorem FdA.snoc {hp:List MO}{ls:List (List Txt)}{vs:List MV}(h:FdA hp ls vs){w x:Txt}{l:List Txt}{i:Nat}(e:hp[i]?=J (.list (l.map .str))):FdA hp (ls++[l]) (vs++[.tup [.str w,.str x,.ref i]]):=by
 induction h with
 | nil=>exact .cons e .nil
 | cons h _ ih=>exact .cons h ih
theorem FdA.get {hp:List MO}{ls:List (List Txt)}{vs:List MV}(h:FdA hp ls vs):∀{j:Nat}{v:MV},vs[j]?=J v->∃w x l i,ls[j]?=J l/\v=.tup [.str w,.str x,.ref i]/\hp[i]?=J (.list (l.map .str)):=by
 induction h with
 | nil=>intro j v e;exact aJ e
 | @cons w x l i ls vs h1 h2 ih=>
  intro j v e
  cases j with
  | zero=>exact ⟨w,x,l,i,rfl,(By e).symm,h1⟩
  | succ j=>exact ih e
theorem FdA.len {hp:List MO}{ls:List (List Txt)}{vs:List MV}(h:FdA hp ls vs):vs.length=ls.length:=by
 induction h with
 | nil=>rfl
 | cons _ _ ih=>exact congrArg (·+1) ih
inductive LLk (A sec:List Txt)(r:Rw)(ab:List Tm):List MV->Prop
 | no (h:Qt A sec r ab):LLk A sec r ab []
 | yes {ts rest} (l:ts.length<=9) (h:¬ Qt A sec r ab):LLk A sec r ab (.tup ts::rest)
theorem sI {A B sec:List Txt}{rows:List Rw}(hs:∀x,x∈sec↔Rch A B (cw (nums 1 [] rows)) x):(∀q∈nums 1 [] rows,Qt A sec q.2.1 q.2.2)↔uq A B rows:=
 ⟨λh q hq l hl n hn r=>h q hq l hl n hn ((hs n).mpr r),λh q hq l hl n hn r=>h q hq l hl n hn ((hs n).mp r)⟩
variable (hK:aD PP K)
include hK
theorem ur:∀(t:Tm) {b:Bool}{N:Nat}{Q:MV->List MO->Prop}{X:XT}{h:List MO},t.deep<N->t.lv<=1000->(∀r h',h<+:h'->h'[r]?=J (.list ((dvr t b).map .str))->Q (.ref r) h')->K N 114 [t.mv,.bool b] Q X h
 | .num k,b,N,Q,X,h,hN,hl,hq=>kc hK cp hN rfl rfl λM _=>hq _ _ (aa (aj _)) (ac _ _)
 | .nm s,aT,N,Q,X,h,hN,hl,hq=>kc hK cp hN rfl rfl λM _=>hq _ _ (aa (aj _)) (ac _ _)
 | .nm s,Z,N,Q,X,h,hN,hl,hq=>kc hK cp hN rfl rfl λM _=>hq _ _ (aa (aj _)) (ac _ _)
 | .op c a b,d,N,Q,X,h,hN,hl,hq=>by
  have hl:a.lv+b.lv<=1000:=hl;refine kc hK cp hN rfl rfl λM hM=>?_;have hM:max a.deep b.deep+1<=M:=hM;refine bx (oN (by decide)) (bx (oN (by decide)) ?_);refine bx (oN (by decide)) ?_;refine ur a (n2 hM (KF a.deep b.deep)) (n1 hl) λr1 h1 p1 e1=>?_;have p1:h<+:h1:=p1;have go:∀x,(d||c==47)=x->K M 114 [b.mv,.bool x] (λv h'=>x7 .add (.ref r1) v (λv m=>Q v m.heap) ⟨[J (Tm.op c a b).mv,J (.bool d)],h'⟩) X h1:=λx hx=>by
   refine ur b (n2 hM (KI a.deep b.deep)) (n1 hl) λr2 h2 p2 e2=>?_;refine ae (af p2 e1) (ae e2 ⟨bG (n3 (kR b x) (kR a d) hl),?_⟩);rw [<-hx];exact hq _ _ (aa (p1.trans p2)) (bW _ _ _)
  cases d with
  | true=>exact go _ rfl
  | false=>exact go _ (Pi _).symm
theorem ut:∀(t:Tm) {N:Nat}{Q:MV->List MO->Prop}{X:XT}{h:List MO},t.deep<N->Q (.bool (dvs t)) h->K N 115 [t.mv] Q X h
 | .num k,N,Q,X,h,hN,hq=>kc hK bU hN rfl rfl λM _=>hq
 | .nm s,N,Q,X,h,hN,hq=>kc hK bU hN rfl rfl λM _=>hq
 | .op c a b,N,Q,X,h,hN,hq=>by
  refine kc hK bU hN rfl rfl λM hM=>?_;have hM:max a.deep b.deep+1<=M:=hM;have hq:Q (.bool (c==47||(dvs a||dvs b))) h:=hq;have e3:([c]==[47])=(c==47):=Pi _;refine dP (λq=>?_) λq=>?_
  ·rw [e3] at q;rw [q] at hq;exact hq
  ·rw [e3] at q;rw [q] at hq;refine ut a (n2 hM (KF a.deep b.deep)) ?_;refine dP (λq=>?_) λq=>?_
   ·rw [q] at hq;exact hq
   ·rw [q] at hq;exact ut b (n2 hM (KI a.deep b.deep)) hq
end
section
section
variable {rp a s N:Nat}{Q:MV->List MO->Prop}
 (hq:∀h' vs i,h<+:h'->h'[i]?=J (.list vs)->LLk A sec r ab vs->Q (.ref i) h')
include hq
theorem Bf (hpre:h<+:hp)(hf:hp[f]?=J (.list vs))(hv:FdA hp (lls A sec r ab) vs) :
  aA K N (ci.body.drop 7) (fin Q) (xin X) ⟨[J (.ref rp),J r.mv,J (.ref a),J (.ref s),J r.ft.mv,J (.ref f),v6,v7,v8,v9,v10],hp⟩:=by
 have go:aA K N (ci.body.drop 8) (fin Q) (xin X) ⟨[J (.ref rp),J r.mv,J (.ref a),J (.ref s),J r.ft.mv,J (.ref f),v6,v7,v8,v9,v10],hp⟩:=by
  refine aI (aG hf) ?_;refine Dc (λw:Option MV × List MO=>⟨[J (.ref rp),J r.mv,J (.ref a),J (.ref s),J r.ft.mv,J (.ref f),v6,v7,v8,v9,w.1],w.2⟩) (λj acc w=>hp<+:w.2/\((acc=[]/\∀l∈(lls A sec r ab).take j,l=[])\/(∃ts rest,acc=.tup ts::rest/\ts.length<=9)/\¬ Qt A sec r ab))
   (v10,hp) rfl ⟨aj _,.inl ⟨rfl,λl hl=>by rw [LC] at hl;exact aO hl⟩⟩ (λi acc w hI=>af hI.1 hf) (λj x acc w P hx hI n1 n2=>?_) (λacc w hI=>?_)
  ·obtain ⟨w',x',l,i,hl,rfl,e1⟩:=hv.get hx;refine Ba (ai (af hI.1 e1)) (ac _ _) ?_;refine dP (λq=>n1 _ (_,_) ⟨aa hI.1,.inr ?_⟩) λq=>n2 (_,_) ⟨aa hI.1,hI.2.imp_left λhI=>⟨hI.1,λy hy=>?_⟩⟩
   ·refine hI.2.elim (λhI=>⟨⟨_,_,by rw [hI.1];rfl,nb rfl⟩,λhQ=>?_⟩) λ⟨⟨ts,rest,e,l⟩,hI⟩=>⟨⟨ts,_,by rw [e];rfl,l⟩,hI⟩
    rw [wo.mpr hQ l (rW hl)] at q;exact ff q
   ·rw [aq hl] at hy;exact (nO.mp hy).elim (hI.2 y) λhy=>by rw [iD.mp hy];exact Ms.mp (Bool.not_eq_false' ..▸q)
  ·obtain ⟨p,hI⟩:=hI;rw [hv.len,KD] at hI;refine hq _ _ _ (aa (hpre.trans p)) (ac _ _) ?_
   rcases hI with ⟨rfl,h⟩ | ⟨⟨ts,rest,rfl,l⟩,h⟩
   ·exact .no (wo.mp h)
   ·exact .yes l h
 cases r with
 | skip=>exact hq _ [] _ (aa hpre) (ac _ _) (.no λl hl=>aO hl)
 | _=>exact go
variable (hK:aD PP K) (ha:h[a]?=J (.list ((ans ab).map .str))) (hs:h[s]?=J (.list (sec.map .str))) (os:∀x∈sec,okS x) (gt:r.ft.good) (ga:∀t∈ab,t.good) (ll:ab.length<=7) (on:∀n∈an r.ft++ans ab,okS n) (hN:4<N)
include hK ha hs os gt ga ll on hN
theorem Jn (hpre:h<+:hp)(hfl:h.length<=f)(hf:hp[f]?=J (.list vs))(hl:vs.length<=5)(hv:∀hp',(∀j o,j≠f->hp[j]?=J o->hp'[j]?=J o)->FdA hp' ls vs)(hw:lls A sec r ab=ls++match dvs r.ft with | true=>[fil sec (dvr r.ft Z++ans ab)] | false=>[]) :
  aA K N (ci.body.drop 6) (fin Q) (xin X) ⟨[J (.ref rp),J r.mv,J (.ref a),J (.ref s),J r.ft.mv,J (.ref f),v6,v7,v8,v9,v10],hp⟩:=by
 refine ut hK r.ft (n2 gt.2 hN) ?_;refine dP (λhd=>?_) λhd=>?_
 ·rw [hd] at hw;have ol:∀n∈dvr r.ft Z++ans ab,okS n:=λn hn=>on n ((nO.mp hn).elim (λh=>tO _ (wa (sH.mp h))) λh=>AT _ h);refine vz (A9 (l:=dvr r.ft Z++ans ab) (vs:=[_,_,_,_,_,_,_,_,_,_,_]) (λP' hP'=>?_) ol (af hpre hs) os (nb rfl) (λ_=>rfl) (by decide) λh5 p5=>?_)
  ·refine ur hK r.ft (n2 gt.2 hN) (dO gt.lv (nb rfl)) λi1 h1 p1 e1=>?_;have p1:hp<+:h1:=p1;refine ae e1 (ae (af (hpre.trans p1) ha) ⟨bG (dO (KH (dO (kR r.ft Z) gt.lv) (dO (mY ga) (KP 8 ll))) (nb rfl)),?_⟩);exact hP' _ _ (aa p1) (bW _ _ _)
  ·have e5:=ai (o':=MO.list ((fil sec (dvr r.ft Z++ans ab)).map .str)) (af p5 hf);refine az (aH e5) (aV (aU e5) ⟨Kn hl (by unfold line;decide),?_⟩);have lf:f<h5.length:=KG (iN.mp hf).1 p5.length_le;refine Bf hq (v7:=some (.ref h5.length)) (aF (aa (hpre.trans p5)) hfl) (get_set e5) ?_;rw [hw];exact (hv _ λj o hj e=>ap (LP hj) (ai (af p5 e))).snoc (ap (KA lf) (ac _ _))
 ·rw [hd] at hw;refine Bf hq hpre hf ?_;rw [hw.trans (Kr _)];exact hv hp λ_ _ _ e=>e
theorem Bg {ra rb:Nat}(hA:∀hp,h<+:hp->hp[rp]?=J (.list [.ref ra,.ref rb])/\hp[ra]?=J (.list (A.map .str)))(oA:∀x∈A,okS x)(ox:∀x t,r=.set x t->okS x):K (N+1) 116 [.ref rp,r.mv,.ref a,.ref s] Q X h:=by
 refine hK _ _ _ _ _ _ ci rfl rfl ?_;refine wg hK (r:=r) (Kn (Ko _) hN) ?_;have p1:h<+:h++[MO.list []]:=aa (aj _);refine vz (A9 (l:=an r.ft++ans ab) (vs:=[_,_,_,_,_,J (.ref h.length),bY,bY,bY,bY,bY]) (λP' hP'=>wj hK (t:=r.ft) (ab:=ab) (λP' h=>h) (λ_=>rfl) (af p1 ha) gt ga ll (NM hN) hP') on (af p1 hs) os (nb rfl) (λ_=>rfl) (by decide) λh5 p5=>?_);have ef:h5[h.length]?=J (.list []):=af p5 (ac _ _);have lf:h.length<h5.length:=(iN.mp ef).1;have e5:=ai (o':=MO.list ((fil sec (an r.ft++ans ab)).map .str)) ef;have p7:h<+:h5++[MO.list ((fil sec (an r.ft++ans ab)).map .str)]:=aa (p1.trans p5);have es:=ac h5 (MO.list ((fil sec (an r.ft++ans ab)).map .str));have none_:∀{v7 v8 v9 v10},lls A sec r ab=[]++(match dvs r.ft with | true=>[fil sec (dvr r.ft Z++ans ab)] | false=>[])->aA K N (ci.body.drop 6) (fin Q) (xin X) ⟨[J (.ref rp),J r.mv,J (.ref a),J (.ref s),J r.ft.mv,J (.ref h.length),J (.ref h5.length),v7,v8,v9,v10],h5++[MO.list ((fil sec (an r.ft++ans ab)).map .str)]⟩:=λe=>Jn hq hK ha hs os gt ga ll on hN p7 (oF _) e5 (Ko _) (λ_ _=>.nil) e;have one_:∀{v7 v8 v9 v10} (w x:Txt),lls A sec r ab=[fil sec (an r.ft++ans ab)]++(match dvs r.ft with | true=>[fil sec (dvr r.ft Z++ans ab)] | false=>[])->onT (jX .append (.ref h.length) (h5++[MO.list ((fil sec (an r.ft++ans ab)).map .str)])) (dt .append (.ref h.length) [.tup [.str w,.str x,.ref h5.length]] (uS λfl m=>match fl with | .next=>aA K N (ci.body.drop 6) (fin Q) (xin X) m | _=>False) ⟨[J (.ref rp),J r.mv,J (.ref a),J (.ref s),J r.ft.mv,J (.ref h.length),J (.ref h5.length),v7,v8,v9,v10],h5++[MO.list ((fil sec (an r.ft++ans ab)).map .str)]⟩):=λw x e=>by
  refine az (aH e5) (aV (aU e5) ⟨by unfold line;decide,?_⟩);exact Jn hq hK ha hs os gt ga ll on hN (aF p7 (oF _)) (oF _) (get_set e5) (nb rfl) (λhp' k'=>.cons (k' _ _ (Lg lf) (ap (KA lf) es)) .nil) e
 cases r with
 | skip=>exact none_ rfl
 | ite t x y=>exact none_ rfl
 | tell t=>exact one_ dJ [] rfl
 | wh t x=>exact one_ oJ [] rfl
 | set x t=>
  obtain ⟨a1,a2⟩:=hA _ p7;refine ae a1 (av a2 ?_);refine bV (ox x t rfl) oA ?_;have e:lls A sec (.set x t) ab=(match A.contains x with | true=>[fil sec (an t++ans ab)] | false=>[])++_:=rfl;refine dP (λq=>?_) λq=>?_
  ·rw [q] at e;exact one_ cO x e
  ·rw [q] at e;exact none_ e
end
variable (hK:aD PP K)
include hK
theorem sJ {h:List MO}{rp ra rb ri s N:Nat}{A B sec:List Txt}{rows:List Rw}{us:List MV}{Q:MV->List MO->Prop}{X:XT}(L:mr h rp ra rb ri A B (nums 1 [] rows) us)(F:LF A B rows)(hs:h[s]?=J (.list (sec.map .str)))(hT:∀x∈sec,x∈aK (ay A B rows))(hN:6<N)
  (q0:∀h',h<+:h'->(∀q∈nums 1 [] rows,Qt A sec q.2.1 q.2.2)->Q .none h') (q1:∀h' ts,¬ (∀q∈nums 1 [] rows,Qt A sec q.2.1 q.2.2)->Q (.tup ts) h'):K N 117 [.ref rp,.ref ri,.ref s] Q X h:=by
 refine kc hK kl hN rfl rfl λM hM=>?_;obtain ⟨M,rfl⟩:∃M',M=M'+1:=⟨M-1,sb (dO (nb rfl) hM)⟩
 refine aI (jg L.r) ?_;refine qO (λw:Option MV × Option MV × Option MV × List MO=>⟨[J (.ref rp),J (.ref ri),J (.ref s),w.1,w.2.1,w.2.2.1],w.2.2.2⟩) (λj w=>h<+:w.2.2.2/\∀q∈(nums 1 [] rows).take j,Qt A sec q.2.1 q.2.2)
  (λv m=>Q v m.heap) (bY,bY,bY,h) rfl ⟨aj _,λq hq=>by rw [LC] at hq;exact aO hq⟩ (λ_ _ hI=>af hI.1 L.r) (λj x w0 P hx hI hn hr=>?_) (λw0 hI=>?_) (λv m h=>h)
 ·obtain ⟨y,hy,rfl⟩:=mO hx;have L1:=L.up hI.1;obtain ⟨⟨k,r,ab⟩,a,hj,rfl,ea⟩:=L1.ls.at_ hy;have hm:=rW hj;have o:=F.nums _ hm;refine ⟨rfl,?_⟩;refine Bg (A:=A) (ra:=ra) (rb:=rb) (λh2 vs i p2 e2 l2=>?_) hK ea (af hI.1 hs) (λx hx=>F.ok x (hT x hx)) (mW o.good) o.tg o.len (λn hn=>(nO.mp hn).elim (λh=>F.ok n (o.fn n h)) λh=>F.ok n (o.am n (kQ.mp h))) (dO (nb rfl) (NR hM)) (λhp' p=>⟨(L1.up p).p,(L1.up p).a⟩) (λx hx=>(F.gn x (tO _ hx)).1.ok) (λx t e=>F.ok x (qN hm x t e));refine .nil _ _ vs rfl rfl (ai e2) (ac _ _) ?_
  cases l2 with
  | no h0=>
   refine hn (_,_,_,_) ⟨aa (hI.1.trans p2),λq hq=>?_⟩;rw [aq hj] at hq;exact (nO.mp hq).elim (hI.2 q) λhq=>by rw [iD.mp hq];exact h0
  | @yes ts rest lt h0=>
   refine ae (ai e2) (aw (k:=0) (j:=0) (fk rfl (Mq _)) rfl ?_);exact ⟨aR (dO (L6 lt 1) (nb rfl)),hr _ _ (q1 _ _ λD=>h0 (D _ hm))⟩
 ·have:=hI.2;rw [n9,L.ls.len,KD] at this;exact q0 _ hI.1 this
end
section
noncomputable abbrev PI:=List (Txt × Int)
noncomputable def opn (sec:List Txt)(qs:PI):PI:=qs.filter λp=>!sec.contains p.1
theorem HH {hp:List MO}{qs:PI}(hi:hp[i]?=J (.list (qs.map prM)))(hj:hp[j]?=J (.list (qs.map prM)))(ho:∀p∈qs,okS p.1)(hq:Q aT):EqP hp (.ref i) (.ref j) Q:=
 vw (.list (qs.map prD)) (.list hi (qJ qs)) (.list hj (qJ qs)) (dO (KJ (pS qs)) (nb rfl)) (vx ho) hq
theorem DX {hp:List MO}{is:List Int}(hi:hp[i]?=J (.list (is.map .int)))(hj:hp[j]?=J (.list (is.map .int)))(hq:Q aT):EqP hp (.ref i) (.ref j) Q:=
 vw (.list (is.map .int)) (.list hi (oG is)) (.list hj (oG is)) (by show D.deeps _+1<=1000;rw [oH];decide) (sD is) hq
theorem EI (hsrc:∀P':PQ,P' (.ref r) ⟨vs,hp⟩->wpE K n src P' X ⟨vs,hp⟩)(hr:hp[r]?=J (.list (qs.map prM)))(ol:∀p∈qs,okS p.1)(hs:hp[s]?=J (.list (sec.map .str)))(os:∀x∈sec,okS x)(hv:v<vs.length)(hw:(MS.mk vs hp).get w=J (.ref s))(hne:v≠w)
  (hq:P (.ref hp.length) ⟨vs,hp++[.list ((opn sec qs).map prM)]⟩):wpE K n (.comp (.var v) [v] Z .val [src] [.cmp .nin (.idx (.var v) (.cst (.int 0))) (.var w)]) P X ⟨vs,hp⟩:=by
 refine hsrc _ ?_;refine aI (aG hr) ?_;refine kz (λz=>⟨vs.set v z,hp⟩) (λj=>(opn sec (qs.take j)).map prM) (vs[v]'hv) (by rw [NW]) rfl (λ_=>hr) (λj x z P hx n1 n2=>?_) (λz=>?_)
 ·refine rV (G:=λx=>asg [v] Z x (λm=>lO K n [.cmp .nin (.idx (.var v) (.cst (.int 0))) (.var w)] (BE (wpE K n (.var v)) P) noX m) ⟨vs.set v z,hp⟩) hx λp hp'=>?_;have e:(MS.mk (vs.set v z) hp).set v (prM p)=⟨vs.set v (J (prM p)),hp⟩:=by unfold MS.set;rw [Pq]
  have g1:(MS.mk (vs.set v (J (prM p))) hp).get v=J (prM p):=AB (m:=⟨vs,hp⟩) hv;have g2:(MS.mk (vs.set v (J (prM p))) hp).get w=J (.ref s):=(EH (m:=⟨vs,hp⟩) hne).trans hw;show wpE K n (.var v) _ noX ((MS.mk (vs.set v z) hp).set v (prM p));rw [e];refine eR g1 ?_;refine eR (K:=K) (n:=n) (X:=noX) g2 ?_;refine av hs ?_;refine bV (ol p (rW hp')) os ?_;refine dP (λq=>?_) λq=>?_
  ·refine eR (K:=K) (n:=n) (X:=noX) g1 (n1 _ _ ?_);show ((qs.take (j+1)).filter _).map prM=((qs.take j).filter _).map prM++_;rw [uj hp' q,KB];rfl
  ·refine n2 _ ?_;show ((qs.take (j+1)).filter _).map prM=((qs.take j).filter _).map prM;rw [uk hp' q]
 ·rw [iF,KD];exact hq
variable (hK:aD PP K)
include hK
theorem Bh {sec:List Txt}{is:List Int}{q1 q2:PI}{h:List MO}(h1:h[r1]?=J (.list (q1.map prM)))(h2:h[r2]?=J (.list (q2.map prM)))(h3:h[y1]?=J (.list (is.map .int)))(h4:h[y2]?=J (.list (is.map .int)))(hs:h[s]?=J (.list (sec.map .str)))
  (o1:∀p∈q1,okS p.1) (o2:∀p∈q2,okS p.1) (os:∀x∈sec,okS x) (hS:opn sec q1=opn sec q2) (hN:0<N) (hq:∀h',Q (.bool aT) h'):K N 131 [.tup [.str w,.int n,.ref r1,.ref y1],.tup [.str w,.int n,.ref r2,.ref y2],.ref s] Q X h:=by
 refine kc hK iz hN rfl rfl λM _=>?_;refine bx (ng (beq_self_eq_true w)) ?_;refine bx (ng (beq_self_eq_true n)) ?_;refine DX h3 h4 ?_;refine EI (vs:=[_,_,_,bY,bY,bY]) (λP' h=>h) h1 o1 hs os (nb rfl) rfl (by decide) ?_;refine EI (vs:=[_,_,_,_,bY,bY]) (λP' h=>h) (ai h2) o2 (ai hs) os (nb rfl) rfl (by decide) ?_;refine HH (ai (ac _ _)) (hS▸ac _ _) (λp hp=>o1 p (Od.mp hp).1) ?_;exact hq _
end
section
theorem ey {ss:List Txt}(ten:ss.length=10){k:Int}{f:MV->Prop}(h0:0<=k)(h1:k<10)(hf:∀s∈ss,f (.str s)):eJ (ss.map MV.str) k f:=by
 have hl:k.toNat<ss.length:=by rw [ten];exact (Og h0).mpr h1
 exact aw (ba h0 (by rw [iF,ten];exact h1)) (by rw [ID,bn hl];rfl) (hf _ (La hl))
theorem Kj {a b c:MV}{x:Int}{f:MV->Prop}(ha:f a)(hb:f b)(hc:f c):eJ [a,b,c] (x % 3) f:=by
 obtain ⟨v,h1,h2⟩:=mh.get (P:=λ_ v=>f v) (n:=0) (.cons ha (.cons hb (.cons hc .nil))) (x % 3).toNat (emN rfl);exact aw (ba (em0 rfl) (by show _<(3:Int);exact em2 rfl)) h1 h2
theorem Kk {a b:MV}{k:Int}{f:MV->Prop}(h0:0<=k)(h1:k<2)(ha:f a)(hb:f b):eJ [a,b] k f:=by
 obtain ⟨v,h2,h3⟩:=mh.get (P:=λ_ v=>f v) (n:=0) (.cons ha (.cons hb .nil)) k.toNat (show k.toNat<2 from (Og h0).mpr h1);exact aw (ba h0 h1) h2 h3
structure Own (p:Txt->Prop)(r:Rw):Prop where
 gp:r.gp p
 nest:r.nest<=2
 len:r.lines.length<=7
theorem qQ {ss:List Txt}{k:Int}(h0:0<=k)(h1:k<1000000):Tm.ok (·∈ss) (.num k):=⟨h0,h1⟩
theorem mZ {ss:List Txt}{s:Txt}(hs:s∈ss):(Tm.op 43 (.nm s) (.num 1)).gp (·∈ss):=⟨⟨.inl rfl,hs,qQ (by decide) (by decide)⟩,KJ (Ko _)⟩
theorem wq {ss:List Txt}{s:Txt}{k:Int}(h0:0<=k)(h1:k<1000000)(hs:s∈ss):(Tm.op 60 (.nm s) (.num k)).gp (·∈ss):=⟨⟨.inr (.inr (.inr (.inl rfl))),hs,qQ h0 h1⟩,KJ (Ko _)⟩
structure Sm (p:Txt->Prop)(q:Rw):Prop where
 gp:q.gp p
 nest:q.nest<=1
 len:q.lines.length<=3
theorem Bj {p:Txt->Prop}{q:Rw}{a:List Rw}(h:Sm p q)(ha:a=[q]\/a=[]):gps p a/\ak a<=1/\(lns a).length<=3:=by
 rcases ha with rfl | rfl
 ·exact ⟨⟨h.gp,trivial⟩,mx0 h.nest,by rw [d7];exact h.len⟩
 ·exact ⟨trivial,Ko _,Ko _⟩
theorem HI {p:Txt->Prop}{t:Tm}{q:Rw}{a b:List Rw}(ht:t.gp p)(h:Sm p q)(ha:a=[q]\/a=[])(hb:b=[q]\/b=[])(ho:a=[]\/b=[]):Own p (.ite t a b):=by
 obtain ⟨a1,a2,a3⟩:=Bj h ha;obtain ⟨b1,b2,b3⟩:=Bj h hb;refine ⟨⟨ht,a1,b1⟩,KJ (mx a2 b2),?_⟩;show ((_:Txt)::(lns a++cu::(lns b++[b8]))).length<=7;rw [KQ,eQ,KQ,eQ,Kx]
 rcases ho with rfl | rfl
 ·show 0+_+1<=7;exact n1 b3
 ·show _+(0+_+1)+1<=7;exact n1 a3
variable {K:KT}(hK:aD PP K)
include hK
section
variable {r:Nat}{ss:List Txt}{way c:Int}{dark low:Txt}{N:Nat}{Q:MV->List MO->Prop}{X:XT}{h:List MO}{t:Tm}{hp:List MO}
noncomputable abbrev Jo:List MSt:=[.ret (.tup [.cst (.str [105,102]),.var 5,.idx (.list [.tup [.var 7],.tup []]) (.bin .mod (.bin .fdiv (.var 3) (.cst (.int 150))) (.cst (.int 2))),.idx (.list [.tup [.var 7],.tup []]) (.bin .sub (.cst (.int 1)) (.bin .mod (.bin .fdiv (.var 3) (.cst (.int 150))) (.cst (.int 2))))])]
omit hK in
theorem wu {q:Rw}{v6:MV}(hq:∀h' q,h<+:h'->Own (·∈ss) q->Q q.mv h')(hpre:h<+:hp)(ht:t.gp (·∈ss))(hs:Sm (·∈ss) q):aA K N Jo (fin Q) (xin X) ⟨[J (.ref r),J (.int way),J (.str dark),J (.int c),J (.str low),J t.mv,J v6,J q.mv],hp⟩:=by
 have h2:0<=c / 150 % 2/\c / 150 % 2<2:=em rfl;have one:∀(a b:List Rw) (hp':List MO),hp<+:hp'->(a=[q]\/a=[])->(b=[q]\/b=[])->(a=[]\/b=[])->Q (.tup [.str wIf,t.mv,.tup (mvs a),.tup (mvs b)]) hp':=λa b hp' p' ha hb ho=>hq hp' (.ite t a b) (hpre.trans p') (HI ht hs ha hb ho);have hd:c / 150 % 2=0\/c / 150 % 2=1:=by lia
 refine ae (ac _ _) ?_
 rcases hd with hd | hd
 ·refine aw (k:=c / 150 % 2) (j:=0) (by rw [hd];rfl) rfl ?_;refine ae (ac _ _) ?_;refine aw (k:=1-c / 150 % 2) (j:=1) (by rw [hd];rfl) rfl ?_;exact one [q] [] _ (aa (aa (aj _))) (.inl rfl) (.inr rfl) (.inr rfl)
 ·refine aw (k:=c / 150 % 2) (j:=1) (by rw [hd];rfl) rfl ?_;refine ae (ac _ _) ?_;refine aw (k:=1-c / 150 % 2) (j:=0) (by rw [hd];rfl) rfl ?_;exact one [] [q] _ (aa (aa (aj _))) (.inr rfl) (.inl rfl) (.inl rfl)
omit hK in
theorem EJ {n i:Nat}{e:ME}{Q:Fl->MS->Prop}{X:XM}{m:MS}(h:wpE K n e (λv m=>Q .next (m.set i v)) X m):aA K n [.asg [i] Z e] Q X m:=h
omit hK in
theorem DY {v1 v2:Option MV}{v5 v6 v7:Option MV}{P:PQ}{X:XM}(hr:hp[r]?=J (.list (ss.map .str)))(ten:ss.length=10)(hq:∀s∈ss,P (Rw.set s (.op 47 (.nm low) (.num (c / 75 % 2)))).mv ⟨[J (.ref r),v1,v2,J (.int c),J (.str low),v5,v6,v7],hp⟩) :
  wpE K N (.tup [.cst (.str [115,101,116]),.idx (.var 0) (.bin .add (.cst (.int 5)) (.bin .mod (.bin .fdiv (.var 3) (.cst (.int 15))) (.cst (.int 5)))),.tup [.cst (.str [47]),.tup [.cst (.str [110,97,109,101]),.var 4],.tup [.cst (.str [110,117,109,98,101,114]),.bin .mod (.bin .fdiv (.var 3) (.cst (.int 75))) (.cst (.int 2))]]]) P X ⟨[J (.ref r),v1,v2,J (.int c),J (.str low),v5,v6,v7],hp⟩:=by
 have h2:0<=c / 15 % 5/\c / 15 % 5<5:=em rfl;refine ae hr ?_;exact ey (k:=5+c / 15 % 5) ten (z1 h2.1) (z1 h2.2) hq
theorem uu {q:Rw}(hr:h[r]?=J (.list (ss.map .str)))(ten:ss.length=10)(hlow:low∈ss)(hq:∀h' q,h<+:h'->Own (·∈ss) q->Q q.mv h')(hpre:h<+:hp)(ht:t.gp (·∈ss))(hs:Sm (·∈ss) q):aA K N (cK.body.drop 8) (fin Q) (xin X) ⟨[J (.ref r),J (.int way),J (.str dark),J (.int c),J (.str low),J t.mv,J (Rw.set low (.op 43 (.nm low) (.num 1))).mv,J q.mv],hp⟩:=by
 have seven:∀(q:Rw),Sm (·∈ss) q->aA K N (cK.body.drop 9) (fin Q) (xin X) ⟨[J (.ref r),J (.int way),J (.str dark),J (.int c),J (.str low),J t.mv,J (Rw.set low (.op 43 (.nm low) (.num 1))).mv,J q.mv],hp⟩:=λq hs=>by
  conv=>whnf
  cases way==7 with
  | false=>exact wu hq hpre ht hs
  | true=>
   refine EJ (DY (af hpre hr) ten λs hs=>?_);exact wu (q:=.set s (.op 47 (.nm low) (.num (c / 75 % 2)))) hq hpre ht ⟨⟨hs,⟨.inr (.inr (.inr (.inr (.inr rfl)))),hlow,em rfl⟩,KJ (Ko _)⟩,Ko _,KJ (Ko _)⟩
 conv=>whnf
 cases way==6 with
 | false=>exact seven q hs
 | true=>exact seven (.wh (.op 60 (.nm low) (.num 3)) [.set low (.op 43 (.nm low) (.num 1))]) ⟨⟨wq (by decide) (by decide) hlow,⟨hlow,mZ hlow⟩,trivial⟩,oF _,oF _⟩
omit hK in
theorem HJ {v1 v2 v4 v6 v7:Option MV}{v5:MV}{P:PQ}{X:XM}(hr:hp[r]?=J (.list (ss.map .str)))(ten:ss.length=10)(hq:∀s∈ss,P (.tup [.str cO,.str s,v5]) ⟨[J (.ref r),v1,v2,J (.int c),v4,J v5,v6,v7],hp⟩) :
  wpE K N (.tup [.cst (.str [115,101,116]),.idx (.var 0) (.bin .mod (.bin .fdiv (.var 3) (.cst (.int 15))) (.cst (.int 5))),.var 5]) P X ⟨[J (.ref r),v1,v2,J (.int c),v4,J v5,v6,v7],hp⟩:=by
 refine ae hr ?_;exact ey (k:=c / 15 % 5) ten (em0 rfl) (em2 rfl) hq
omit hK in
theorem DZ {v1 v2 v4 v6 v7:Option MV}{v5:MV}{P:PQ}{X:XM}(hr:hp[r]?=J (.list (ss.map .str)))(ten:ss.length=10)(hq:∀s∈ss,P (.tup [.str cO,.str s,.tup [.str [47],.tup [.str z4,.int 7],v5]]) ⟨[J (.ref r),v1,v2,J (.int c),v4,J v5,v6,v7],hp⟩) :
  wpE K N (.tup [.cst (.str [115,101,116]),.idx (.var 0) (.bin .add (.cst (.int 5)) (.bin .mod (.bin .fdiv (.var 3) (.cst (.int 15))) (.cst (.int 5)))),.tup [.cst (.str [47]),.tup [.cst (.str [110,117,109,98,101,114]),.cst (.int 7)],.var 5]]) P X ⟨[J (.ref r),v1,v2,J (.int c),v4,J v5,v6,v7],hp⟩:=by
 have h2:0<=c / 15 % 5/\c / 15 % 5<5:=em rfl;refine ae hr ?_;exact ey (k:=5+c / 15 % 5) ten (z1 h2.1) (z1 h2.2) hq
omit hK in
theorem D0 {v2 v5 v6 v7:Option MV}{P:PQ}{X:XM}(hr:hp[r]?=J (.list (ss.map .str)))(ten:ss.length=10)(hq:∀q hp',hp<+:hp'->((∃s∈ss,q=Rw.set s (.op 43 (.nm low) (.num 1)))\/q=.tell (.nm low))->P q.mv ⟨[J (.ref r),J (.int way),v2,J (.int c),J (.str low),v5,v6,v7],hp'⟩) :
  wpE K N (.idx (.list [.tup [.cst (.str [115,101,116]),.idx (.var 0) (.bin .mod (.bin .fdiv (.var 3) (.cst (.int 15))) (.cst (.int 5))),.tup [.cst (.str [43]),.tup [.cst (.str [110,97,109,101]),.var 4],.tup [.cst (.str [110,117,109,98,101,114]),.cst (.int 1)]]],.tup [.cst (.str [116,101,108,108]),.tup [.cst (.str [110,97,109,101]),.var 4]]]) (.bin .mod (.var 1) (.cst (.int 2)))) P X ⟨[J (.ref r),J (.int way),v2,J (.int c),J (.str low),v5,v6,v7],hp⟩:=by
 refine ae hr ?_;refine ey (k:=c / 15 % 5) ten (em0 rfl) (em2 rfl) λs hs=>?_;refine ae (ac _ _) ?_;refine Kk (k:=way % 2) (em0 rfl) (em2 rfl) ?_ ?_
 ·exact hq (.set s (.op 43 (.nm low) (.num 1))) _ (aa (aj _)) (.inl ⟨s,hs,rfl⟩)
 ·exact hq (.tell (.nm low)) _ (aa (aj _)) (.inr rfl)
omit hK in
theorem EK {n:Nat}{e:ME}{Q:Fl->MS->Prop}{X:XM}{m:MS}(h:wpE K n e (λv m=>Q (.ret v) m) X m):aA K n [.ret e] Q X m:=h
theorem lK (hr:h[r]?=J (.list (ss.map .str)))(ten:ss.length=10)(hd:dark∈ss)(hlow:low∈ss)(hq:∀h' q,h<+:h'->Own (·∈ss) q->Q q.mv h')(hpre:h<+:hp)(ht:t.ok (·∈ss))(hdp:t.deep<=1) :
  aA K N (cK.body.drop 2) (fin Q) (xin X) ⟨[J (.ref r),J (.int way),J (.str dark),J (.int c),J (.str low),J t.mv,bY,bY],hp⟩:=by
 have hr':=af hpre hr;have tg:t.gp (·∈ss):=⟨ht,dO hdp (by decide)⟩
 conv=>whnf
 cases way==0 with
 | true=>exact EK (HJ hr' ten λs hs=>hq hp (.set s t) hpre ⟨⟨hs,tg⟩,Ko _,KJ (Ko _)⟩)
 | false=>
 conv=>whnf
 cases way==1 with
 | true=>exact hq hp (.tell t) hpre ⟨tg,Ko _,KJ (Ko _)⟩
 | false=>
 conv=>whnf
 cases way==2 with
 | true=>exact hq hp (.wh (.op 60 (.nm dark) (.num 3)) [.set dark (.op 43 (.nm dark) (.num 1))]) hpre ⟨⟨wq (by decide) (by decide) hd,⟨hd,mZ hd⟩,trivial⟩,Ma 1,KJ (KJ (KJ (Ko _)))⟩
 | false=>
 conv=>whnf
 cases way==3 with
 | true=>exact EK (DZ hr' ten λs hs=>hq hp (.set s (.op 47 (.num 7) t)) hpre ⟨⟨hs,⟨.inr (.inr (.inr (.inr (.inr rfl)))),qQ (by decide) (by decide),ht⟩,KJ (dO (m0x hdp) (by decide))⟩,Ko _,KJ (Ko _)⟩)
 | false=>
  refine vz (D0 hr' ten λq hp' p' hs=>?_);refine uu hK hr ten hlow hq (hpre.trans p') tg ?_
  rcases hs with ⟨s,hs,rfl⟩ | rfl
  ·exact ⟨⟨hs,mZ hlow⟩,Ko _,KJ (Ko _)⟩
  ·exact ⟨⟨hlow,Ko _⟩,Ko _,KJ (Ko _)⟩
theorem xY (hr:h[r]?=J (.list (ss.map .str)))(ten:ss.length=10)(hd:dark∈ss)(hN:0<N)(hq:∀h' q,h<+:h'->Own (·∈ss) q->Q q.mv h'):K N 123 [.ref r,.int way,.str dark,.int c] Q X h:=by
 obtain ⟨M,rfl,hM⟩:=room hN;refine hK _ _ _ _ _ _ cK rfl rfl ?_;refine ae hr ?_;refine ey (k:=c % 5) ten (em0 rfl) (em2 rfl) λlow hlow=>?_;refine ae (ac _ _) ?_;have p1:∀o,h<+:h++[o]:=λo=>aa (aj _);refine Kj (x:=c / 5) ?_ ?_ ?_
 ·exact lK hK (t:=.nm dark) hr ten hd hlow hq (p1 _) hd (Ko _)
 ·exact lK hK (t:=.op 43 (.nm low) (.nm dark)) hr ten hd hlow hq (p1 _) ⟨.inl rfl,hlow,hd⟩ (oF _)
 ·exact lK hK (t:=.op 60 (.nm dark) (.num 2)) hr ten hd hlow hq (p1 _) ⟨.inr (.inr (.inr (.inl rfl))),hd,qQ (by decide) (by decide)⟩ (oF _)
end
end
section
theorem m0:∀{a b:List Rw},gps p (a++b)->gps p a/\gps p b
 | [],_,h=>⟨trivial,h⟩
 | _::_,_,h=>⟨⟨h.1,(m0 h.2).1⟩,(m0 h.2).2⟩
theorem jk:∀{a b:List Rw}{k:Nat},ak (a++b)<=k->ak a<=k/\ak b<=k
 | [],_,_,h=>⟨Ko _,h⟩
 | r::a,b,k,h=>by
  obtain ⟨h1,h2⟩:=NX.mp (show max r.nest (ak (a++b))<=k from h);exact ⟨mx h1 (jk h2).1,(jk h2).2⟩
theorem sK:∀(rs:List Rw) (k:Nat),(mvs rs).take k=mvs (rs.take k)
 | _,0=>rfl
 | [],_+1=>rfl
 | r::rs,k+1=>congrArg (L7 r.mv) (sK rs k)
theorem sL:∀(rs:List Rw) (k:Nat),(mvs rs).drop k=mvs (rs.drop k)
 | _,0=>rfl
 | [],_+1=>rfl
 | r::rs,k+1=>sL rs k
structure Blk (p:Txt->Prop)(L:Nat)(rows:List Rw):Prop where
 gp:gps p rows
 nest:ak rows<=7
 len:(lns rows).length<=L
theorem Blk.put (h:Blk p L bs)(k:Blk p 13 rs)(a:Nat):Blk p (L+13) (bs.take a++rs++bs.drop a):=by
 have g:=h.gp;have n:=h.nest;have l:=h.len;rw [<-K0 a bs] at g n l;rw [cv,eQ] at l;refine ⟨ji (ji (m0 g).1 k.gp) (m0 g).2,eY (eY (jk n).1 k.nest) (jk n).2,?_⟩;have:=k.len;rw [cv,cv,eQ,eQ];exact n2 this l
variable (hK:aD PP K)
include hK
section
variable {ss:List Txt}
omit hK in
theorem Bl (hb:hp[b]?=J (.list (mvs bs)))(h4:hp[i4]?=J (.list (mvs rs)))(ha:0<=a)(hz:bs.length+rs.length<=10000)(hpre:h<+:hp)(hB:Blk (·∈ss) L bs)(hR:Blk (·∈ss) 13 (rs++[q]))
  (hq:∀h' i rows,h<+:h'->h'[i]?=J (.list (mvs rows))->Blk (·∈ss) (L+13) rows->Q (.ref i) h') :
  aA K N [.ret (.bin .add (.bin .add (.bin .add (.sl (.var 1) bY (J (.var 6))) (.var 4)) (.list [.var 5])) (.sl (.var 1) (J (.var 6)) bY))] (fin Q) (xin X) ⟨[v0,J (.ref b),v2,v3,J (.ref i4),J q.mv,J (.int a)],hp⟩:=by
 have l1:(bs.take a.toNat).length<=bs.length:=by rw [KS];exact Md ..
 have l2:(bs.drop a.toNat).length<=bs.length:=by rw [Lf];exact Nb ..
 refine ae hb ?_;refine ae (ac _ _) (ae (ai h4) ?_);rw [du ha,sK];refine ⟨aR (by rw [cj,cj];exact n2 l1 hz),?_⟩;refine ae (ai (ac _ _)) (ae (ac _ _) ?_);refine ⟨aR (by rw [eQ,cj,cj,Kx];exact n2 l1 hz),?_⟩;refine ae (af (aa (aa (aa (aa (aj _))))) hb) ?_;refine ae (ai (ac _ _)) (ae (ac _ _) ?_);rw [bN ha,sL];refine ⟨aR (by rw [eQ,eQ,cj,cj,cj,Kx];exact n2 (KH l1 l2) (KH hz hz)),?_⟩;refine hq _ _ (bs.take a.toNat++(rs++[q])++bs.drop a.toNat) (aa (aa (aa (aa (aa (aa hpre)))))) ?_ (hB.put hR _);rw [fQ,fQ,fQ,<-Ks];exact ac _ _
omit hK in
theorem Jp (hb:hp[b]?=J (.list (mvs bs)))(h4:hp[i4]?=J (.list (mvs rs)))(hz:bs.length+rs.length<=10000)(hpre:h<+:hp)(hB:Blk (·∈ss) L bs)(hR:Blk (·∈ss) 13 (rs++[q]))
  (hq:∀h' i rows,h<+:h'->h'[i]?=J (.list (mvs rows))->Blk (·∈ss) (L+13) rows->Q (.ref i) h') :
  aA K N (bm.body.drop 5) (fin Q) (xin X) ⟨[v0,J (.ref b),J (.int c),v3,J (.ref i4),J q.mv,bY],hp⟩:=by
 refine av hb ?_;have hp1:(0:Int)<((mvs bs).length:Nat)+1:=by lia
 refine az (decide_eq_true hp1) ?_;have h0:0<=c / 1500 % (((mvs bs).length:Nat)+1:Int):=LM _ (MY hp1)
 conv=>whnf
 cases decide (0<c / 500 % 3) with
 | true=>exact Bl (a:=0) hb h4 (by decide) hz hpre hB hR hq
 | false=>exact Bl hb h4 h0 hz hpre hB hR hq
theorem wv (hr:hp[r]?=J (.list (ss.map .str)))(ten:ss.length=10)(hd:dark∈ss)(hb:hp[b]?=J (.list (mvs bs)))(h4:hp[i4]?=J (.list (mvs rs)))(hz:bs.length+rs.length<=10000)(hN:1<N)(hpre:h<+:hp)(hB:Blk (·∈ss) L bs)(hR:Blk (·∈ss) 1 rs)
  (hq:∀h' i rows,h<+:h'->h'[i]?=J (.list (mvs rows))->Blk (·∈ss) (L+13) rows->Q (.ref i) h') :
  aA K N (bm.body.drop 3) (fin Q) (xin X) ⟨[J (.ref r),J (.ref b),J (.int c),J (.str dark),J (.ref i4),bY,bY],hp⟩:=by
 obtain ⟨M,rfl,hM⟩:=room hN;refine cS hK ?_;refine xY hK hr ten hd (Mq _) λh1 q p1 o=>?_;have p1:hp<+:h1:=p1;have key:∀q:Rw,q.gp (·∈ss)->q.nest<=3->q.lines.length<=12->aA K (M+1) (bm.body.drop 5) (fin Q) (xin X) ⟨[J (.ref r),J (.ref b),J (.int c),J (.str dark),J (.ref i4),J q.mv,bY],h1⟩:=λq h5 h6 h7=>
  Jp (af p1 hb) (af p1 h4) hz (hpre.trans p1) hB ⟨ji hR.gp ⟨h5,trivial⟩,eY hR.nest (mx0 (dO h6 (by decide))),by rw [cv,d7,eQ];have:=hR.len;exact n2 this h7⟩ hq
 have plain:=key q o.gp (dO o.nest (by decide)) (dO o.len (by decide));have wrap:∀n0∈ss,aA K (M+1) (bm.body.drop 5) (fin Q) (xin X) ⟨[J (.ref r),J (.ref b),J (.int c),J (.str dark),J (.ref i4),J (Rw.ite (.op 61 (.nm n0) (.nm n0)) [q] [.skip]).mv,bY],h1⟩:=λn0 h0=>by
  refine key _ ⟨⟨⟨.inr (.inr (.inr (.inr (.inl rfl)))),h0,h0⟩,KJ (Ko _)⟩,⟨o.gp,trivial⟩,trivial,trivial⟩ (KJ (mx (mx0 o.nest) (Ko _))) ?_;have:=o.len;show ((_:Txt)::(lns [q]++cu::(lns [.skip]++[b8]))).length<=12;rw [KQ,eQ,d7];show _+3+1<=12;exact n1 this
 have wrapS:aA K (M+1) [.asg [5] Z (.tup [.cst (.str [105,102]),.tup [.cst (.str [61]),.tup [.cst (.str [110,97,109,101]),.idx (.var 0) (.cst (.int 0))],.tup [.cst (.str [110,97,109,101]),.idx (.var 0) (.cst (.int 0))]],.tup [.var 5],.tup [.tup [.cst (.str [115,107,105,112])]]])] (λf m=>match f with
   | .next=>aA K (M+1) (bm.body.drop 5) (fin Q) (xin X) m
   | f=>fin Q f m) (xin X) ⟨[J (.ref r),J (.ref b),J (.int c),J (.str dark),J (.ref i4),J q.mv,bY],h1⟩:=by
  have hr1:=af p1 hr;have h0:0<ss.length:=n1 (Km ten.symm);have e0:(ss.map MV.str)[0]?=J (.str ss[0]):=by rw [ID,bn h0];rfl
  have px:g9 0 (ss.map MV.str).length=J 0:=ba (by decide) (by rw [iF];exact kX h0);refine EJ ?_;refine ae hr1 (aw px e0 ?_);refine ae hr1 (aw px e0 ?_);exact wrap ss[0] (La h0)
 conv=>whnf
 cases (c / 500 % 3==1) with
 | true=>exact wrapS
 | false=>
  conv=>whnf
  cases (c / 500 % 6==2) with
  | true=>exact wrapS
  | false=>exact plain
theorem HK (hr:h[r]?=J (.list (ss.map .str)))(ten:ss.length=10)(hb:h[b]?=J (.list (mvs bs)))(hz:bs.length<=9000)(hN:2<N)(hB:Blk (·∈ss) L bs)
  (hq:∀h' i rows,h<+:h'->h'[i]?=J (.list (mvs rows))->Blk (·∈ss) (L+13) rows->Q (.ref i) h'):K N 124 [.ref r,.ref b,.int c] Q X h:=by
 obtain ⟨M,rfl,hM⟩:=room hN;have p1:h<+:h++[MO.list []]:=aa (aj _);have e1:(h++[MO.list []])[h.length]?=J (.list []):=ac _ _;have h24:0<=c / 24 % 5/\c / 24 % 5<5:=em rfl;have h120:0<=c / 120 % 5/\c / 120 % 5<5:=em rfl;refine hK _ _ _ _ _ _ bm rfl rfl ?_;refine ae hr ?_;refine ey (k:=5+c / 24 % 5) ten (z1 h24.1) (z1 h24.2) λdark hd=>?_
 conv=>whnf
 cases (c % 3==1) with
 | false=>exact wv hK (rs:=[]) (af p1 hr) ten hd (af p1 hb) e1 (by show _+0<=_;exact dO hz (nb rfl)) hM p1 hB ⟨trivial,Ko _,Ko _⟩ hq
 | true=>
  refine az (aH e1) ?_;refine ae (af p1 hr) ?_;refine ey (k:=5+c / 120 % 5) ten (z1 h120.1) (z1 h120.2) λs hs=>?_;refine aV (aU e1) ?_;refine ⟨KG (Nat.zero_lt_succ 0) (aR (by decide)),?_⟩;have p2:h<+:(h++[MO.list []]).set h.length (.list (mvs [.set s (.op 43 (.nm dark) (.num 1))])):=aF p1 (oF _);refine ae (af p2 hr) ?_;refine ey (k:=5+c / 120 % 5) ten (z1 h120.1) (z1 h120.2) λs2 hs2=>?_;exact wv hK (rs:=[.set s (.op 43 (.nm dark) (.num 1))]) (af p2 hr) ten hs2 (af p2 hb) (get_set e1) (by show _+1<=_;exact n1 hz) hM p2 hB ⟨⟨⟨hs,mZ hd⟩,trivial⟩,Ko _,oF _⟩ hq
end
theorem D4 {ss:List Txt}{h:List MO}(hr:h[r]?=J (.list (ss.map .str)))(ten:ss.length=10)(gn:∀s∈ss,Gn s)(hN:11<N)
  (hq:∀h' i rows,h<+:h'->h'[i]?=J (.list (mvs rows))->Blk (·∈ss) 137 rows->Q (.ref i) h'):K N 125 [.scr is,.int 14,.int 38,.ref r] Q X h:=by
 obtain ⟨M,rfl,hM⟩:=room hN;obtain ⟨M,rfl,hM⟩:=room hM;refine hK _ _ _ _ _ _ km rfl rfl ?_;refine fX hK (by decide) ?_;have ei:aQ (is.map MV.int) (J 14) (J 38)=(aQ is (J 14) (J 38)).map MV.int/\(aQ is (J 14) (J 38)).length<=24:=by
  unfold aQ;dsimp only;rw [iF,ku (by decide),ku (by decide)];refine ⟨by rw [N4,N5],?_⟩;rw [Lf,KS];have e1:(14:Int).toNat=14:=rfl;have e2:(38:Int).toNat=38:=rfl;rw [e1,e2]
  rcases Nat.le_total 14 is.length with q | q
  ·rw [Mv q];exact N6 (dO (L8 ..) (L8 ..)) 14
  ·rw [NZ q];exact dO (Km (Nat.sub_eq_zero_of_le (Md ..))) (nb rfl)
 obtain ⟨ei,el⟩:=ei
 conv=>whnf
 rw [ei];refine Dy hK (cells:=aQ is (J 14) (J 38)) (ac _ _) (ai hr) ten gn (dO el (nb rfl)) (dO (nb rfl) hM) λh2 i rows p2 e2 g2 n2 l2=>?_;have p2:h<+:h2:=(aa (aj _)).trans p2;have B:Blk (·∈ss) 124 rows:=⟨g2,n2,Internal.n2 l2 (KP 5 el)⟩
 have B':Blk (·∈ss) 137 rows:=⟨g2,n2,dO B.len (by decide)⟩
 have lr:=ky rows;have more:∀{Q':Fl->MS->Prop},(∀h' i,h<+:h'->(∃rows,h'[i]?=J (.list (mvs rows))/\Blk (·∈ss) 137 rows)->∀vars,Q' (.ret (.ref i)) ⟨vars,h'⟩)->aA K (M+1) [.asg [6] Z (.bin .add (.bin .add (.bin .fdiv (.var 4) (.cst (.int 4))) (.bin .mul (.cst (.int 1009)) (.bin .mod (.call 5 [.var 0,.cst (.int 0)]) (.bin .pow (.cst (.int 10)) (.cst (.int 6)))))) (.bin .mul (.cst (.int 31)) (.bin .mod (.call 5 [.var 0,.cst (.int 1)]) (.bin .pow (.cst (.int 10)) (.cst (.int 6)))))),.ret (.call 124 [.var 3,.var 5,.call 6 [.call 6 [.var 6]]])] Q' (xin X) ⟨[J (.scr is),J (.int 14),J (.int 38),J (.ref r),J (.int (cell is 2)),J (.ref i),bY],h2⟩:=λ{Q'} hq'=>by
  refine fX hK (by decide) ?_;refine ⟨.inl (by unfold fC;decide),?_⟩;refine fX hK (by decide) ?_;refine ⟨.inl (by unfold fC;decide),?_⟩;refine cS hK ?_;refine cS hK ?_;refine HK hK (af p2 hr) ten e2 (by have:=B.len;lia) (dO (nb rfl) hM) B λh3 i3 rows3 p3 e3 B3=>?_;exact hq' h3 i3 (Nq p2 p3) ⟨rows3,e3,B3⟩ _
 have last:∀h' i,h<+:h'->(∃rows,h'[i]?=J (.list (mvs rows))/\Blk (·∈ss) 137 rows)->Q (.ref i) h':=λh' i p ⟨rows,e,b⟩=>hq h' i rows p e b
 conv=>whnf
 cases (cell is 2 % 4==1) with
 | true=>exact more λh' i p e _=>last h' i p e
 | false=>
  conv=>whnf
  cases (cell is 2 % 4==2) with
  | true=>exact more λh' i p e _=>last h' i p e
  | false=>exact last h2 i p2 ⟨rows,e2,B'⟩
end
section
noncomputable def D5:Option MV->Int
 | some (.int v)=>v
 | _=>0
noncomputable def kT (T:List Txt)(es:ES):PI:=T.map λn=>(n,D5 (aN es n))
theorem D6 (T:List Txt)(es:ES):(kT T es).map (·.1)=T:=by
 unfold kT;rw [OW];exact Py _
theorem sM:∀{T:List Txt},(∀s∈T,∃v,aN es s=J (.int v)/\In6 v)->fR T es=(kT T es).map prM
 | [],_=>rfl
 | s::T,h=>by
  obtain ⟨v,e,_⟩:=h s (.head _);show MV.tup [.str s,(aN es s).getD (.int 0)]::fR T es=prM (s,D5 (aN es s))::(kT T es).map prM;rw [e,sM λx hx=>h x (.tail _ hx)];rfl
theorem Bm (hs:∀x,x∈sec↔S x)(h:Lw S es es'):∀(T:List Txt),opn sec (kT T es)=opn sec (kT T es')
 | []=>rfl
 | s::T=>by
  have ih:=Bm hs h T;show ((s,D5 (aN es s))::kT T es).filter _=((s,D5 (aN es' s))::kT T es').filter _;by_cases q:S s
  ·have k:¬ (!sec.contains s)=aT:=by rw [KL.mpr ((hs s).mpr q)];decide
   exact (NI (p:=λp:Txt × Int=>!sec.contains p.1) (a:=(s,_)) k).trans (ih.trans (NI (p:=λp:Txt × Int=>!sec.contains p.1) (a:=(s,_)) k).symm)
  ·rw [h s q,List.filter_cons,List.filter_cons];show (if _ then _::opn sec (kT T es) else opn sec (kT T es))=(if _ then _::opn sec (kT T es') else opn sec (kT T es'));rw [ih]
theorem jT:∀{T:List Txt}{n:Txt},n∉T->aN (b9 es T) n=bY
 | [],_,_=>rfl
 | s::T,n,h=>by
  show (match s==n with | true=>J _ | false=>aN (b9 es T) n)=bY;rw [show (s==n)=Z from beq_eq_false_iff_ne.mpr λe=>h (e▸.head _)];exact jT λq=>h (.tail _ q)
theorem EL (h:n∉es.map (·.1)):aN es n=bY:=by
 cases e:aN es n with
 | none=>rfl
 | some v=>exact absurd (KW.mpr ⟨_,pP e,rfl⟩) h
theorem Bn (V1:fz e1 (A++B))(V2:fz e2 (A++B))(hA:∀x∈A,aN e2 x=aN e1 x):Lw (Rch A B fl) (b9 e1 T) (b9 e2 T):=λn hn=>by
 by_cases hT:n∈T
 ·have key:aN e1 n=aN e2 n:=by
   by_cases h1:n∈A
   ·exact (hA n h1).symm
   ·have h2:n∉B:=λq=>hn (.base q);have h3:n∉A++B:=λq=>(nO.mp q).elim h1 h2;rw [EL (V1.keys▸h3),EL (V2.keys▸h3)]
  unfold b9;rw [qI (f:=λn=>(aN e1 n).getD (.int 0)) hT,qI (f:=λn=>(aN e2 n).getD (.int 0)) hT,key]
 ·rw [jT hT,jT hT]
variable (hK:aD PP K)
include hK
theorem ww (hp:bw h i A B rows)(F:LF A B rows)(hd:h[d]?=J (.dict es))(V:fz es (A++B))(ht:t<=450)(he:Ev 1 rows ⟨b9 es (aK (ay A B rows)),t,[]⟩ s' o)(hN:60<N)
  (hq:∀h' r y,h<+:h'->h'[r]?=J (.list ((kT (aK (ay A B rows)) s'.es).map prM))->h'[y]?=J (.list (s'.said.map .int))->Q (.tup [.str (DG o),.int (DH o),.ref r,.ref y]) h'):K N 87 [.inst 0 i,.ref d,.int t] Q X h:=by
 have hG:bo (b9 es (aK (ay A B rows))) (·∈aK (ay A B rows)):=V.good;have hok:eX (·∈aK (ay A B rows)) rows:=gX rows 1 [] F.g λx hx=>aE.mpr (AT _ hx);have g:=((dN (·∈aK (ay A B rows)) 400).2 he hok F.sz hG).good;refine Jk hK hp (dO F.len (nb rfl)) hd V ht F.g F.sz rfl F.few F.ne he hN λh' r y p _ _ _ e1 e2=>hq h' r y p ?_ e2;rw [<-sM g];exact e1
theorem Bo {A B sec:List Txt}{h:List MO}(hp:bw h i A B rows)(F:LF A B rows)(h1:h[d1]?=J (.dict e1))(h2:h[d2]?=J (.dict e2))(hs:h[s]?=J (.list (sec.map .str)))(hS:∀x,x∈sec↔Rch A B (cw (nums 1 [] rows)) x)(hT:∀x∈sec,x∈aK (ay A B rows))(V1:fz e1 (A++B))(V2:fz e2 (A++B))(hA:∀x∈A,aN e2 x=aN e1 x)(hD:uq A B rows) :
  aA K 600 (bJ.body.drop 17) (fin λv _=>v=.bool aT) (λ_ _=>False) ⟨[J (.scr is),v1,v2,v3,v4,v5,v6,J (.inst 0 i),v8,J (.ref s),v10,J (.ref d1),J (.ref d2),v13,bY],h⟩:=by
 refine fX hK (by decide) ?_;have h26:0<=cell is 13 % 26/\cell is 13 % 26<26:=em rfl;show aA K 600 (bJ.body.drop 18) (fin λv _=>v=.bool aT) (λ_ _=>False) ⟨[J (.scr is),v1,v2,v3,v4,v5,v6,J (.inst 0 i),v8,J (.ref s),v10,J (.ref d1),J (.ref d2),v13,J (.int (cell is 13 % 26))],h⟩;generalize cell is 13 % 26=tt at h26;obtain ⟨t,rfl⟩:=K3 h26.1;obtain ⟨s',o,ev1,_⟩:=uh rows 1 ⟨b9 e1 (aK (ay A B rows)),t,[]⟩;have hok:eX (·∈aK (ay A B rows)) rows:=gX rows 1 [] F.g λx hx=>aE.mpr (AT _ hx);obtain ⟨z',ev2,al⟩:=AK (s:=⟨b9 e1 (aK (ay A B rows)),t,[]⟩) (z:=⟨b9 e2 (aK (ay A B rows)),t,[]⟩) hD hok V1.good V2.good ⟨rfl,rfl,Bn V1 V2 hA⟩ ev1;have ht:t<=450:=dO (Ly.mp (Mx h26.2)) (nb rfl);have ko:∀es,∀p∈kT (aK (ay A B rows)) es,okS p.1:=λes p hp=>F.ok _ (D6 (aK (ay A B rows)) es▸KW.mpr ⟨p,hp,rfl⟩);refine ww hK hp F h1 V1 ht ev1 (by decide) λh3 r3 y3 p3 a3 b3=>?_;have p3:h<+:h3:=p3;refine ww hK (hp.up p3) F (af p3 h2) V2 ht ev2 (by decide) λh4 r4 y4 p4 a4 b4=>?_;have p4:h3<+:h4:=p4;rw [al.said] at b4;exact Bh hK (af p4 a3) a4 (af p4 b3) b4 (af (p3.trans p4) hs) (ko _) (ko _) (λx hx=>F.ok x (hT x hx)) (Bm hS al.es _) (by decide) λ_=>rfl
end
section
theorem sN:∀{es:ES}{x:Txt}{v:MV}{e:Txt × MV},e∈bH es x v->e.2=v\/e∈es
 | [],x,v,e,h=>.inl (by rw [iD.mp (show e∈[(x,v)] from h)])
 | (a,w)::es,x,v,e,h=>by
  have h:e∈(match a==x with | true=>(a,v)::es | false=>(a,w)::bH es x v:ES):=h
  cases q:a==x with
  | true=>
   rw [q] at h
   rcases IF.mp h with rfl | h
   ·exact .inl rfl
   ·exact .inr (.tail _ h)
  | false=>
   rw [q] at h
   rcases IF.mp h with rfl | h
   ·exact .inr (.head _)
   ·exact (sN h).elim .inl λh=>.inr (.tail _ h)
theorem fz.at_ (V:fz es ns)(hx:x∈ns):∃k,aN es x=J (.int k)/\In6 k:=by
 obtain ⟨v,h1,h2⟩:=oE (es:=es) (k:=x) (by rw [V.keys];exact hx);obtain ⟨k,h3,h4⟩:=V.vals _ h2;obtain rfl:v=.int k:=h3;exact ⟨k,h1,h4⟩
theorem fz.put (V:fz es ns)(hx:x∈ns)(hv:In6 v):fz (bH es x (.int v)) ns:=by
 obtain ⟨k,e,_⟩:=V.at_ hx;refine ⟨(fY e).trans V.keys,λq hq=>?_⟩
 rcases sN hq with h | h
 ·exact ⟨v,h,hv⟩
 ·exact V.vals q h
theorem fz.len (V:fz es ns):es.length=ns.length:=by rw [<-V.keys,iF]
structure Pre (A B sec:List Txt)(rows:List Rw)(h:List MO)(i rp ra rb rs d1:Nat)(e1:ES):Prop where
 pg:bw h i A B rows
 p:h[rp]?=J (.list [.ref ra,.ref rb])
 a:h[ra]?=J (.list (A.map .str))
 b:h[rb]?=J (.list (B.map .str))
 d:h[d1]?=J (.dict e1)
 v:fz e1 (A++B)
 s:h[rs]?=J (.list (sec.map .str))
 iff:∀x,x∈sec↔Rch A B (cw (nums 1 [] rows)) x
 sub:∀x∈sec,x∈aK (ay A B rows)
mutual
theorem HL:∀(r:Rw),r.good->∀l∈r.lines,okS l
 | .set s t,g,l,h=>by rw [iD.mp h];exact (Wds.set g.1 g.2.1).line (pN s t)
 | .tell t,g,l,h=>by rw [iD.mp h];exact (Wds.kw (wd:=dJ) (by decide) g.1).line (dq dJ t)
 | .skip,g,l,h=>by rw [iD.mp h];exact eI _ (by decide)
 | .ite t a b,g,l,h=>by
  rcases IF.mp (show l∈(wIf++[32]++t.txt)::(lns a++cu::(lns b++[b8])) from h) with h | h
  ·rw [h];exact (Wds.kw (wd:=wIf) (by decide) g.1.1).line (dq wIf t)
  ·rcases nO.mp h with h | h
   ·exact lL g.2.1 l h
   ·rcases IF.mp h with h | h
    ·rw [h];exact eI _ (by decide)
    ·rcases nO.mp h with h | h
     ·exact lL g.2.2 l h
     ·rw [iD.mp h];exact eI _ (by decide)
 | .wh t a,g,l,h=>by
  rcases IF.mp (show l∈(bv++[32]++t.txt)::(lns a++[b8]) from h) with h | h
  ·rw [h];exact (Wds.kw (wd:=bv) (by decide) g.1.1).line (dq bv t)
  ·rcases nO.mp h with h | h
   ·exact lL g.2 l h
   ·rw [iD.mp h];exact eI _ (by decide)
theorem lL:∀{rs:List Rw},b0 rs->∀l∈lns rs,okS l
 | [],_,l,h=>aO h
 | r::rs,g,l,h=>(nO.mp (show l∈r.lines++lns rs from h)).elim (HL r g.1 l) (lL g.2 l)
end
variable (hK:aD PP K)
include hK
section
variable (P0:Pre A B sec rows h i rp ra rb rs d1 e1) (F:LF A B rows) (hd:h.length<=d2) (hD:uq A B rows)
include P0 F hd hD
theorem HM (hpre:h<+:hp)(h2:hp[d2]?=J (.dict e2))(V2:fz e2 (A++B)) :
  aA K 600 (bJ.body.drop 16) (fin λv _=>v=.bool aT) (λ_ _=>False) ⟨[J (.scr is),v1,v2,J (.ref rp),v4,v5,v6,J (.inst 0 i),v8,J (.ref rs),v10,J (.ref d1),J (.ref d2),v13,bY],hp⟩:=by
 refine ae (af hpre P0.p) ?_;refine aI (aG (af hpre P0.a)) ?_;refine gV (λj w hp e2=>⟨[J (.scr is),v1,v2,J (.ref rp),v4,v5,v6,J (.inst 0 i),v8,J (.ref rs),v10,J (.ref d1),J (.ref d2),w,bY],hp⟩) (λj w hp e2=>A4 (h<+:hp) (hp[d2]?=J (.dict e2)) (fz e2 (A++B)) (∀x∈A.take j,aN e2 x=aN e1 x)) _ _ e2 rfl ⟨hpre,h2,V2,λx hx=>by rw [LC] at hx;exact aO hx⟩ (λ_ _ _ _ hI=>af hI.h1 P0.a) (λj y w hp e2 P hy hI hn _=>?_) (λw hp e2 hI=>?_)
 ·refine rV (G:=λy=>asg [13] Z y _ _) hy λx hx=>?_;have hm:x∈A++B:=tO _ (rW hx);obtain ⟨k,e,hk⟩:=P0.v.at_ hm;refine bT (af hI.h1 P0.d) (cy e ?_);refine bT hI.h2 ?_;refine ⟨by rw [hI.h3.len,eQ];exact Kn F.len (by unfold line;decide),?_⟩;refine hn _ _ (bH e2 x (.int k)) ⟨aF hI.h1 hd,get_set hI.h2,hI.h3.put hm hk,λy hy=>?_⟩;rw [lG];by_cases hyx:y=x
  ·rw [if_pos hyx,hyx,e]
  ·rw [if_neg hyx];rw [aq hx] at hy;exact (nO.mp hy).elim (hI.h4 y) λh=>absurd (iD.mp h) hyx
 ·have q4:=hI.h4;rw [iF,KD] at q4;exact Bo hK (P0.pg.up hI.h1) F (af hI.h1 P0.d) hI.h2 (af hI.h1 P0.s) P0.iff P0.sub P0.v hI.h3 q4 hD
theorem HN (hpre:h<+:hp)(h2:hp[d2]?=J (.dict e2))(V2:fz e2 (A++B)) :
  aA K 600 (bJ.body.drop 15) (fin λv _=>v=.bool aT) (λ_ _=>False) ⟨[J (.scr is),v1,v2,J (.ref rp),v4,v5,v6,J (.inst 0 i),v8,J (.ref rs),v10,J (.ref d1),J (.ref d2),v13,bY],hp⟩:=by
 refine ae (af hpre P0.p) ?_;refine aI (aG (af hpre P0.b)) ?_;refine gV (λj w hp e2=>⟨[J (.scr is),v1,v2,J (.ref rp),v4,v5,v6,J (.inst 0 i),v8,J (.ref rs),v10,J (.ref d1),J (.ref d2),w,bY],hp⟩) (λj w hp e2=>A3 (h<+:hp) (hp[d2]?=J (.dict e2)) (fz e2 (A++B))) _ _ e2 rfl ⟨hpre,h2,V2⟩ (λ_ _ _ _ hI=>af hI.h1 P0.b) (λj y w hp e2 P hy hI hn _=>?_) (λw hp e2 hI=>HM hK P0 F hd hD hI.h1 hI.h2 hI.h3);refine rV (G:=λy=>asg [13] Z y _ _) hy λx hx=>?_;have hm:x∈A++B:=AT _ (rW hx);obtain ⟨k,e,_⟩:=P0.v.at_ hm;obtain ⟨k2,e',_⟩:=hI.h3.at_ hm;refine fX hK (by decide) ?_;refine dP (λ_=>?_) λ_=>hn _ _ _ ⟨hI.h1,hI.h2,hI.h3⟩;refine bT hI.h2 (cy e' ?_);refine bT (ai (af hI.h1 P0.d)) (cy e ?_);refine ae (ac _ _) ?_;refine aw kt mP ?_;have hsel:∃v,sel (k==0) (MV.int 0) (.int (1+k2 % 3))=.int v/\In6 v:=by
  have h3:0<=k2 % 3/\k2 % 3<3:=em rfl
  cases k==0 with
  | true=>exact ⟨_,rfl,z1 h3.1,z1 h3.2⟩
  | false=>exact ⟨_,rfl,by decide,by decide⟩
 obtain ⟨v,ev,hv⟩:=hsel;rw [ev];refine bT (ai hI.h2) ?_;refine ⟨by rw [hI.h3.len,eQ];exact Kn F.len (by unfold line;decide),?_⟩;exact hn _ _ (bH e2 x (.int v)) ⟨aF (aa hI.h1) hd,get_set (ai hI.h2),hI.h3.put hm hv⟩
end
section
variable {A B sec:List Txt}(F:LF A B rows)
include F
theorem Jq (L:mr h rp ra rb ri A B (nums 1 [] rows) us)(pr:bw h ip A B rows)(hs:h[s]?=J (.list (sec.map .str)))(hS:∀x,x∈sec↔Rch A B (cw (nums 1 [] rows)) x)(hT:∀x∈sec,x∈aK (ay A B rows))(hD:uq A B rows) :
  aA K 600 (bJ.body.drop 13) (fin λv _=>v=.bool aT) (λ_ _=>False) ⟨[J (.scr is),v1,v2,J (.ref rp),J (.ref b),v5,v6,J (.inst 0 ip),v8,J (.ref s),J (.bool Z),bY,bY,bY,bY],h⟩:=by
 have la:A.length+B.length<=100000:=dO F.len (nb rfl);refine ae L.p ?_;refine ae L.p ?_;refine ae L.a (ae L.b ⟨bG la,?_⟩);refine vy hK (h:=h++[MO.list (A.map .str++B.map .str)]) (a:=3) (N:=600) (ns:=A++B) (by decide) (bW _ _ _) F.nd (by rw [eQ];exact dO F.len (nb rfl)) (by decide) λh3 e1 p3 d3 V1=>?_;have p3:h<+:h3:=(aa (aj _)).trans p3;have L3:=L.up p3;refine ae L3.p ?_;refine ae L3.p ?_;refine ae L3.a (ae L3.b ⟨bG la,?_⟩);have p4:h<+:h3++[MO.list (A.map .str++B.map .str)]:=aa p3;have L4:=L.up p4;refine vy hK (h:=h3++[MO.list (A.map .str++B.map .str)]) (a:=9) (N:=600) (ns:=A++B) (by decide) (bW _ _ _) F.nd (by rw [eQ];exact dO F.len (nb rfl)) (by decide) λh4 e2 p5 d4 V2=>?_;exact HN hK (sec:=sec) (rs:=s) ⟨pr.up p4,L4.p,L4.a,L4.b,ai d3,V1,af p4 hs,hS,hT⟩ F (oF _) hD p5 d4 V2
theorem Jr (L:mr h rp ra rb ri A B (nums 1 [] rows) us)(pr:bw h ip A B rows):aA K 600 (bJ.body.drop 9) (fin λv _=>v=.bool aT) (λ_ _=>False) ⟨[J (.scr is),v1,v2,J (.ref rp),J (.ref b),v5,v6,J (.inst 0 ip),J (.ref ri),bY,bY,bY,bY,bY,bY],h⟩:=by
 refine Bd hK L F (by decide) λh1 s sec p1 e1 hS hT=>?_;have p1:h<+:h1:=p1;refine AY hK (i:=ip) (pr.up p1) F (by decide) (λh2 p2 hD=>?_) λh2 ts p2 nD=>?_
 ·have p2:h1<+:h2:=p2;refine sJ hK (L.up (p1.trans p2)) F (af p2 e1) hT (by decide) (λh3 p3 e=>?_) λh3 ts nQ=>absurd ((sI hS).mpr hD) nQ;have p3:h2<+:h3:=p3;exact Jq hK F (L.up ((p1.trans p2).trans p3)) (pr.up ((p1.trans p2).trans p3)) (af (p2.trans p3) e1) hS hT hD
 ·have p2:h1<+:h2:=p2;exact sJ hK (L.up (p1.trans p2)) F (af p2 e1) hT (by decide) (λh3 p3 e=>absurd ((sI hS).mp e) nD) λh3 ts nQ=>rfl
theorem Js (hp:h[rp]?=J (.list [.ref ra,.ref rb]))(hA:h[ra]?=J (.list (A.map .str)))(hB:h[rb]?=J (.list (B.map .str)))(hb:h[b]?=J (.list (mvs rows)))(hz:(lns rows).length<=1000):aA K 600 (bJ.body.drop 7) (fin λv _=>v=.bool aT) (λ_ _=>False) ⟨[J (.scr is),v1,v2,J (.ref rp),J (.ref b),v5,J (.tup (mvs rows)),bY,bY,bY,bY,bY,bY,bY,bY],h⟩:=by
 refine ae hp ?_;refine ae hA ?_;refine ae hp ?_;refine ae hB ?_;refine G1 hK (h0:=h) (l:=false) (l':=false) (l'':=false) (A:=A) (B:=B) (rows:=rows) rfl rfl ⟨_,rfl,kA rows⟩ (λs hs=>F.gn s (tO _ hs)) (λs hs=>F.gn s (AT _ hs)) F.nd (dO F.len (nb rfl)) F.g F.ne (dO hz (nb rfl)) (by decide) λh2 p2 pr=>?_;have p2:h<+:h2:=p2;have hb:=af p2 hb;have p0:h2<+:h2++[MO.list []]++[MO.list []]:=aa (aa (aj _));have lb:b<h2.length:=(iN.mp hb).1;have l1:(h2++[MO.list []]).length=h2.length+1:=by rw [eQ];rfl
 refine A8 hK rows (k:=1) (ab:=[]) (ar:=h2.length) (i:=(h2++[MO.list []]).length) (vs:=[]) (u:=.ref b) (g:=some (b,.list (mvs rows))) (aG (af p0 hb)) (λhp' k'=>k' _ _ (KA (n2 (Km l1.symm) lb)) (af p0 hb)) F.g (λ_ q=>aO q) (by show 0+_<=_;rw [L5];exact F.ne) (by show 0+_<=_;exact n1 F.sz) (by have:=F.ne;exact n1 this) (ai (ac _ _)) (by rw [l1];exact KA (Lp _)) (ac _ _) λh1 us k1 e2 a1=>?_;have p1:h2<+:h1:=by
  refine List.prefix_iff_eq_take.mpr (Oz λj=>?_);rw [List.getElem?_take]
  rcases LO j h2.length with lt | ge
  ·rw [if_pos lt,bn lt];exact (k1 j _ (KA (n2 lt (Km l1.symm))) (af p0 (bn lt))).symm
  ·rw [if_neg (OR.mpr ge),Li ge]
 have p:=p2.trans p1;exact Jr hK F ⟨af p hp,af p hA,af p hB,e2,a1⟩ (pr.up p1)
theorem Jt (hp:h[rp]?=J (.list [.ref ra,.ref rb]))(hA:h[ra]?=J (.list (A.map .str)))(hB:h[rb]?=J (.list (B.map .str)))(hb:h[b]?=J (.list (mvs rows)))(hz:(lns rows).length<=1000):aA K 600 (bJ.body.drop 4) (fin λv _=>v=.bool aT) (λ_ _=>False) ⟨[J (.scr is),v1,v2,J (.ref rp),J (.ref b),bY,bY,bY,bY,bY,bY,bY,bY,bY,bY],h⟩:=by
 have z5:(lns rows).length<=100000:=dO hz (nb rfl);refine Hm hK rows (u:=.ref b) (λhp p=>⟨aG (af p hb),af p hb⟩) F.g z5 (n1 F.ne) λh1 j p1 _ e1=>?_;have p1:h<+:h1:=p1;refine av e1 ?_;refine Hk hK F.g (ac _ _) F.ne (by decide) z5 λh2 p2=>?_;have p2:h1<+:h2:=(aa (aj _)).trans p2;refine pM hK (He hK rows) F.g z5 (n1 (KP 2 F.ne)) λh3 p3 e3=>?_;have p3:h2<+:h3:=p3;refine vn e3 (af (p2.trans p3) e1) (lL F.g) (lL F.g) ?_;refine bx (ng (beq_self_eq_true _)) ?_;have p:=(p1.trans p2).trans p3;exact Js hK F (af p hp) (af p hA) (af p hB) (af p hb) hz
end
theorem HO (is:List Int):aA K 600 bJ.body (fin λv _=>v=.bool aT) (λ_ _=>False) (ec bJ [.scr is] []):=by
 refine fX hK (by decide) ?_;refine fX hK (by decide) ?_;refine Da hK λh1 r ss hpre hlen hr ten hs hnd hkw=>?_;have gn:∀s∈ss,Gn s:=λs h=>⟨hs s h,hkw s h⟩
 refine fX hK (by decide) ?_;refine cS hK ?_;refine Hw hK (h:=h1) (N:=600) hr (λs h=>(hs s h).ok) (by decide) λh2 i a b U V p2 e1 e2 e3 sU sV hno=>?_;have p2:h1<+:h2:=p2;refine fX hK (by decide) ?_;refine cS hK ?_;have lU:=sU.length_le;have lV:=sV.length_le;rw [AE] at lU lV;refine DJ hK (h:=h2) (N:=600) (af p2 hr) ten e1 e2 e3 lU lV (by decide) λh3 rp ra rb A B A' B' p3 f1 f2 f3 pA pB sA sB=>?_;have p3:h2<+:h3:=p3;refine D4 hK (h:=h3) (N:=600) (af (p2.trans p3) hr) ten gn (by decide) λh4 i4 rows p4 e4 Bk=>?_;have p4:h3<+:h4:=p4;have hz:=gD rows;have bl:=Bk.len;exact Jt hK (xS ten gn hnd sU sV hno pA pB sA sB Bk.gp Bk.nest (n2 bl hz)) (af p4 f1) (af p4 f2) (af p4 f3) e4 (dO bl (nb rfl))
end
end Internal
end
set_option tactic.hygienic true
set_option Elab.async false
set_option maxRecDepth 100000
set_option maxHeartbeats 8000000
open PySem PySem.W PyProof.Rows Internal
noncomputable def Internal.T12:mz:=⟨Internal.tab,Internal.mtab,[(0,"Program",["opens","secrets","rows"]),(1,"Running",["numbers","turns","said"])],[],λ_=>Z,Internal.gl⟩
theorem PySem.Challenge.cw_uf010009_12_holds : PySem.Challenge.rw_uf010009_12.Holds := by
 w_on
 refine holds_law Ju fun said=>?_
 refine holds_open (q:=Q12) (loose:=["MODULUS","THINGS"]) (Xt:=X12) (XP:=fun mg h=>XL Q12 HU mg h∧gN [] mg h) (Yf:=oZ "THINGS") (Ya:=qR x3) (YP:=lm "THINGS" x3 Challenge.pw_uf010009_12) (N:=10000) E7 (fun w s e=>I8 (by unfold line;decide) (by decide +kernel) e) (fun w h h' y k=>y.keeps k)
  (fun s e=>⟨xl_of s (Bool.and_eq_true_iff.mp e).1,rfl⟩) (fun mg h h' y k=>⟨XL.keeps mg h h' y.1 k,y.2.keeps k⟩) (by rfl) (by rfl) (by rfl) (fun s e=>recFacts_of (Bool.and_eq_true_iff.mp e).2) (by rfl) said (by decide +kernel) ⟨rfl,rfl,rfl,rfl,rfl,by decide +kernel⟩ ?hw ?hc
 case hw=>w_witness2
 intro w s₀ s₁ mg mb G Y fa o pm cd doc dV kV ho hd hcd hD hmg hg args vals as hpre hlay hrd hwl hlo
 have V:=(Ground.X G).1
 have XF:=(Ground.X G).2
 have T:=G.T
 have B:=G.B
 have TE:=G.TE
 clear hd hcd hD
 wrow_args hpre hlay hrd hwl hlo
 rename Well _ _ _ _=>hW
 rename IntsAre _ _=>hI
 rename Heap.IsList _ _ _=>hL
 rename (¬ _<_)=>hc
 have hct:rQ (plainsOf Q12 (looseW Q12 ["MODULUS","THINGS"])) T12=true:=by decide +kernel
 obtain ⟨cm,hcm⟩:=Ja (t:=T12) TE hct
 refine zV (t:=T12) (prog:=PySem.Challenge.pw_uf010009_12) T TE XF hcm (f:=132) (x:="law") (d:=bJ) ?zzimp ?zzchk ?zzmt hct ?zzblt ?zzhgl rfl hg rfl hmg rfl (GR hW hL hI ?zzhz) (fun K hK=>HO hK _) ?zzhQ
 case zzimp=>decide +kernel
 case zzchk=>decide +kernel
 case zzmt=>decide +kernel
 case zzblt=>decide +kernel
 case zzhz=>unfold line;lia
 case zzhgl=>
  intro g x v e
  replace e:Internal.gl g=some (x,v):=e
  unfold Internal.gl at e
  split at e
  ·cases e
   obtain ⟨u,h1,h2⟩:=V.2.val _ (List.mem_cons_self ..)
   refine ⟨u,h1,fun ρ h' _=>?_⟩
   cases h2
   exact .int _ _
  ·cases e;exact zY B (by decide +kernel) (by unfold line;decide)
  ·cases e;exact n6 T (by decide +kernel)
  ·cases e;exact zY B (by decide +kernel) (by unfold line;decide)
  ·cases e;exact zX T (by decide +kernel) (by unfold line;decide)
  ·cases e;exact zX T (by decide +kernel) (by unfold line;decide)
  ·cases e;exact n6 T (by decide +kernel)
  ·cases e;exact n6 T (by decide +kernel)
  ·cases e;exact n6 T (by decide +kernel)
  ·cases e;exact n6 T (by decide +kernel)
  ·cases e;exact C3 T Y
  ·cases e
 case zzhQ=>
  intro s' h1 h2 h3
  refine GoodW.toG ⟨.inl ⟨_,.bool true,[],rfl,?_,?_,?_,?_⟩,h1,h2,h3⟩
  ·exact fun _=>rfl
  ·exact .bool _
  ·exact xy _ _ _
  ·exact fun _=>⟨List.nodup_nil,fun _ h=>by cases h⟩
