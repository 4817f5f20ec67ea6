import PyProof.Rows.All
import PyProof.Rules
import PyProof.Raises
import PyProof.Rules2
import PyProof.AssignAttr
import PyProof.FactsSeq
import PyProof.FactsAll.list_3
import PyProof.FactsAll.dict_3
import PyProof.TupleIter
import PyProof.AutoSeq1
import PyProof.Rules3
import PyProof.SliceSyntax
import PyProof.ForAny
import PyProof.CallRoads
import PyProof.CallType
import PyProof.CallStr
import PyProof.Cells
import PyProof.ConsumeWalk
import PyProof.StrLoop
import PyProof.StrWalks
import PyProof.CollectIter
import PyProof.CompFree
import PyProof.Conv_int
import PyProof.Conv_int_bool
import PyProof.MeetsSeq
import PyProof.DictKinds
import PyProof.MeetsDict
import PyProof.MeetsDictList
import PyProof.DictRoads
import PyProof.DictTruth
import PyProof.DictStraight
import PyProof.DictCopy
import PyProof.DictIter
import PyProof.EnumStmt
import PyProof.EqAt
import PyProof.P3Eq
import PyProof.NeData
import PyProof.ExcClass3
import PyProof.RaisesMany
import PyProof.FactsAll.set_1
import PyProof.StrLawsIn
import PyProof.SliceStr2
import PyProof.StrOps
import PyProof.StrBlock
import PyProof.StrLawsChain
import PyProof.WalksMore
import PyProof.RangeFor
import PyProof.InstStore
import PyProof.InstLoad
import PyProof.InstStoreFacts
import PyProof.IsiHeapPairs
import PyProof.IsiNone
import PyProof.IsiPairs
import PyProof.IsiSeqPairs
import PyProof.IsiTupleAll
import PyProof.ListCopy
import PyProof.ListIndexNeg
import PyProof.WalkInts
import PyProof.RulesAs
import PyProof.NsDelKeeps
import PyProof.ObjNew
import PyProof.Rows.TupAssign
import PyProof.Rows.TupSub
import PyProof.Rows.TupIn
import PyProof.Rows.StrMeet
import PyProof.WalksPairs
import PyProof.StrCalls2
import PyProof.Rows.StrSplitAre
import PyProof.Rows.Many
import PyProof.Rows.Exc
import PyProof.Rows.StrBin
import PyProof.Rows.AttrNode
import PyProof.Rows.RuleU_int
import PyProof.Rows.RuleB_mul
import PyProof.Rows.RuleB_sub
import PyProof.Rows.RuleB_pow
import PyProof.Rows.FactsT1
import PyProof.WalksEnum
import PyProof.Rows.RuleB_floordiv
import PyProof.Rows.RuleB_mod
import PyProof.StrCalls3
import PyProof.Rows.Method
import PyProof.Rows.StrTemp
import PyProof.Rows.ListMul
import PyProof.Rows.RuleB_small
import PyProof.Rows.RuleC_int
import PyProof.TupleOps
import PyProof.SeqI3
import PyProof.Rows.TupMore
import PyProof.SliceMore
import PyProof.StrLawsTight
import PyProof.RulesDelMore
import PyProof.Rows.SeqMore
import PyProof.Rows.TupAdd
import PyProof.TupleOfSeq
import PyProof.Rows.ReprOcc
import PyProof.Rows.SortWalk
import PyProof.Rows.TmSorted
import PyProof.Rows.PlainObj
import PyProof.Rows.SortRunsK
import PyProof.Rows.SortShellK
import PyProof.Rows.SortStr
import PyProof.SetRoads
import PyProof.Rows.SetFrom
import Wide.Well
import Wide.Loose
import Open.Row
import Open.Line
import Open.Boot
import Open.Tree
import KE.IntTextText
import KE.KDictOf
import PySem.Challenge.RW_uf010009_09
set_option Elab.async false
set_option genSizeOf false
set_option genInjectivity false
set_option bootstrap.genMatcherCode false
set_option autoImplicit false
set_option linter.unusedVariables false
set_option tactic.hygienic false
set_option backward.match.sparseCases false
section
namespace Internal
noncomputable def DF:Bool:=false
noncomputable def AP:Bool:=true
noncomputable def qN:Bool:=false
noncomputable def Ac:Bool:=true
noncomputable def Ad:Bool:=false
noncomputable def Ae:Bool:=false
noncomputable def DG:Bool:=false
noncomputable def AQ:Bool:=true
noncomputable def Af:Bool:=true
noncomputable def AR:Bool:=false
noncomputable def AS:Bool:=false
noncomputable def AU:Bool:=false
noncomputable def AV:Bool:=true
noncomputable def gT:Bool:=false
noncomputable def DH:Bool:=false
noncomputable def xK:Bool:=false
noncomputable def iL:Bool:=false
noncomputable def Ag:Bool:=false
noncomputable def qO:Bool:=false
noncomputable def xL:Bool:=false
noncomputable def t5:Bool:=false
noncomputable def fH:Nat:=4000
end Internal
end
section
namespace Internal
open PySem
noncomputable abbrev str (s:List Nat):Str:=⟨s.toArray⟩
noncomputable def iM (e:DictEntry):Option (Int × Str × Int):=match e.key with
 | .str k _=>match e.val with
  | .int i _=>some (e.hash,k,i)
  | _=>none
 | _=>none
noncomputable def di:List DictEntry→Option (List (Int × Str × Int))
 | []=>some []
 | e::es=>match iM e with
  | some x=>match di es with
   | some xs=>some (x::xs)
   | none=>none
  | none=>none
noncomputable def lM (x:Str)(s:Shared):Option (List (Int × Str × Int)):=match s.heap.nsMap mainGlobals x with
 | some (.ref a)=>match s.heap.get? a with
  | some o=>match o.data with
   | .dict es _=>match (a != sysModules&&o.cls==.type "dict"&&o.dict.isNone&&o.slots.size==0&&s.heap.isNs mainGlobals) with
    | true=>di es.toList
    | false=>none
   | _=>none
  | none=>none
 | _=>none
noncomputable def nZ (es:List (List Nat × Int))(w:World):Option (List (Int × Str × Int)):=some (es.map fun p=>(hashStr w (str p.1),str p.1,p.2))
end Internal
end
section
set_option maxRecDepth 100000
namespace Internal
open PySem PySem.W
noncomputable def jD (tb:String→Option Builtin)(p:Program)(w:World)(n₀:Nat)(ann:Option Value):Nat→SharedT→Thread→Option SharedT
 | 0,_,_=>none
 | n+1,s,t=>match through t with
  | true=>some s
  | false=>match stepOk n₀ ann t with
   | false=>none
   | true=>match stepT (denote tb) p w s t with
    | some (s',t')=>jD tb p w n₀ ann n s' t'
    | none=>none
theorem rS {tb:String→Option Builtin}{p:Program}{w:World}{n₀:Nat}{ann:Option Value}{n:Nat}{s s':SharedT}{t:Thread}(h:jD tb p w n₀ ann n s t=some s'):topRun tb p w n₀ ann n s.abs t=some s'.abs:=by
 induction n generalizing s t with
 | zero=>cases h
 | succ n ih=>
  unfold jD at h
  unfold topRun
  cases he:through t with
  | true=>rw [he] at h;cases h;rfl
  | false=>
   rw [he] at h
   cases hk:stepOk n₀ ann t with
   | false=>rw [hk] at h;cases h
   | true=>
    rw [hk] at h
    cases hs:stepT (denote tb) p w s t with
    | none=>rw [hs] at h;cases h
    | some r=>obtain ⟨s₂,t₂⟩:=r;rw [hs] at h;rw [stepT_spec hs];exact ih h
noncomputable def t6:List Obj→Nat→BT→BT
 | [],_,t=>t
 | o::l,n,t=>t6 l (n+1) (t.ins n o)
noncomputable def DI (P:Params):BT:=t6 (boot_heap P).objs.toList 0 .nil
noncomputable def sT (P:Params)(os:OsState):SharedT:=⟨DI P,(boot_heap P).objs.size,(boot_heap P).life,Array.mk [],boot_drawn,boot_toks,os⟩
theorem AW (P:Params)(os:OsState):(sT P os).abs=⟨boot_heap P,Array.mk [],boot_drawn,boot_toks,os⟩:=by kernel_rfl
theorem xM (P:Params):(boot_heap P).isNs mainGlobals=true:=by kernel_rfl
noncomputable def pv (p:Program)(N:Nat)(w:World)(os:OsState):Option SharedT:=
 (jD treeTable p w (boot_heap w.params).objs.size ((boot_heap w.params).nsMap mainGlobals "__annotations__") N (sT w.params os) (topStub p)).bind fun s₁=>
  match staticsOk (importedModules p.main.body) (boot_heap w.params) s₁.abs.heap&&namesBound p s₁.abs.heap&&gensDone s₁.abs&&laidKept (boot_heap w.params) s₁.abs.heap with
   | true=>some s₁
   | false=>none
theorem xN {p:Program}{N:Nat}{w:World}{os:OsState}{s₁:SharedT}(h:pv p N w os=some s₁):topFrom treeTable p w N ⟨boot_heap w.params,Array.mk [],boot_drawn,boot_toks,os⟩=some s₁.abs:=by
 obtain ⟨s,h1,h2⟩:=Option.bind_eq_some_iff.mp h
 have h1:=rS h1
 rw [AW] at h1
 unfold topFrom
 show (match (boot_heap w.params).isNs mainGlobals&&true with
  | true=>(topRun treeTable p w (boot_heap w.params).objs.size ((boot_heap w.params).nsMap mainGlobals "__annotations__") N ⟨boot_heap w.params,Array.mk [],boot_drawn,boot_toks,os⟩ (topStub p)).bind _
  | false=>none)=_
 rw [xM,h1]
 show (match staticsOk (importedModules p.main.body) (boot_heap w.params) s.abs.heap&&namesBound p s.abs.heap&&gensDone s.abs&&laidKept (boot_heap w.params) s.abs.heap with
   | true=>some s.abs
   | false=>none)=_
 cases hb:(staticsOk (importedModules p.main.body) (boot_heap w.params) s.abs.heap&&namesBound p s.abs.heap&&gensDone s.abs&&laidKept (boot_heap w.params) s.abs.heap) with
 | true=>rw [hb] at h2;cases h2;rfl
 | false=>rw [hb] at h2;cases h2
theorem rT {p q:Program}{loose:List Str}{Xt:Shared→Bool}{N:Nat}{α:Type}{Yf:Shared→α}{Ya:World→α}(e:opening p=plainProg p.main.scope.names)(hN:Nat.ble 600 N=true)(f:∀s,fenceModules? p s=some s)
  (h:∀(w:World) (os:OsState),(pv p N w os).map (fun s=>(openSeen q loose (importedModules p.main.body) Xt true s.abs,Yf s.abs))=some (openGood q loose,Ya w)):LeftO p q loose Xt Yf Ya N:=fun w=>by
 obtain ⟨s₀,h0,hv⟩:=Option.map_eq_some_iff.mp (boot_open e hN f w)
 obtain ⟨hp,gens,drawn,toks,os⟩:=s₀
 obtain ⟨e1,hv⟩:=Prod.mk.inj hv
 obtain ⟨e2,hv⟩:=Prod.mk.inj hv
 obtain ⟨e3,e4⟩:=Prod.mk.inj hv
 dsimp only at e1 e2 e3 e4
 subst e1 e2 e3 e4
 obtain ⟨s₁,h1,h2⟩:=Option.map_eq_some_iff.mp (h w os)
 unfold openEnds
 rw [h0]
 show (topFrom treeTable p w N _).map _=_
 rw [xN h1]
 show some (openSeen q loose (importedModules p.main.body) Xt true s₁.abs,Yf s₁.abs)=some _
 rw [h2]
end Internal
end
section
set_option maxHeartbeats 0
set_option maxRecDepth 100000
set_option Elab.async false
namespace Internal
open PySem PySem.W PyProof.Rows
theorem Fz:Challenge.rw_uf010009_09.wellSaid=true:=by decide +kernel
noncomputable def Q09:Program:=PySem.W.view Challenge.pw_uf010009_09 [1,2,3,4,5,7,8,9,10,11,12,13,14,15,16,17,18,19,21,22,23,24,25,26,27,28,29,30,31,32,34,35,36,37,38,40,41,42,43,44,45,46,47,48,49,50,51,52,53,54,55,56,57,58,59]
noncomputable def DJ:List (Str × WData):=[("MODULUS",WData.int 1000000)]
noncomputable def t7:List (List Nat × Int):=[([115,101,116],3),([116,101,108,108],2),([115,107,105,112],1),([105,102],4),([119,104,105,108,101],3)]
noncomputable def X09:Shared→Bool:=fun s=>xlAt Q09 DJ s&&recOk (RowW.records Challenge.rw_uf010009_09.row.toRowW) s
noncomputable abbrev hsa (s:SharedT):=(seen ((recsOf Q09).map (·.name)) (ownsOf Q09) [] { s.abs with gens:=#[] },s.abs.heap.bltView,(s.abs.heap.keysOk (looseW Q09 ["MODULUS","THINGS"]) ((recsOf Q09).map (·.name)) ((litsOf Q09).map (·.1)) ((clssOf Q09 (looseW Q09 ["MODULUS","THINGS"])).map (·.name))&&s.abs.heap.accountedOkI (importedModules Challenge.pw_uf010009_09.main.body)&&s.abs.heap.isNs mainGlobals&&s.abs.heap.isNs builtinsNs&&tablesOk Q09 s.abs.heap&&X09 s.abs&&(if true then s.abs.gens.size==0 else !leftWithCleanup s.abs.gens)),lM "THINGS" s.abs)
noncomputable abbrev hsb (s:SharedT):=(tabsOk Q09 s.abs,pinSeenD Q09 (drecsOf Q09) s.abs,plainSeenE Q09 (looseW Q09 ["MODULUS","THINGS"]) s.abs,plainSeenD Q09 ["MODULUS","THINGS"] s.abs,wideSeen Q09 s.abs,clsSeenW Q09 ["MODULUS","THINGS"] s.abs)
noncomputable abbrev hga (w:World):=(expectedOf Q09,bltViewBooted,true,nZ t7 w)
noncomputable abbrev hgb:=(true,pinGoodD (drecsOf Q09),plainGoodE Q09 (looseW Q09 ["MODULUS","THINGS"]),plainGoodD Q09 ["MODULUS","THINGS"],wideGood Q09,clsGoodW Q09 ["MODULUS","THINGS"])
theorem AX:∀(w:World) (os:OsState),(pv Challenge.pw_uf010009_09 10000 (w.withFollow "special-get-raises" false) os).map hsa=some (hga (w.withFollow "special-get-raises" false)):=by
 intro w os;kernel_rfl
theorem AY:∀(w:World) (os:OsState),(pv Challenge.pw_uf010009_09 10000 (w.withFollow "special-get-raises" false) os).map hsb=some hgb:=by
 intro w os;kernel_rfl
theorem AZ:∀(w:World) (os:OsState),(pv Challenge.pw_uf010009_09 10000 (w.withFollow "special-get-raises" true) os).map hsa=some (hga (w.withFollow "special-get-raises" true)):=by
 intro w os;kernel_rfl
theorem A8:∀(w:World) (os:OsState),(pv Challenge.pw_uf010009_09 10000 (w.withFollow "special-get-raises" true) os).map hsb=some hgb:=by
 intro w os;kernel_rfl
theorem Ah {α β γ δ:Type _}{o:Option α}{f:α→β}{g:α→γ}{b:β}{c:γ}(h:o.map f=some b)(k:o.map g=some c)(F:β→γ→δ):o.map (fun s=>F (f s) (g s))=some (F b c):=by
 obtain ⟨s,rfl,rfl⟩:=Option.map_eq_some_iff.mp h
 cases k;rfl
theorem A9:opening Challenge.pw_uf010009_09=plainProg Challenge.pw_uf010009_09.main.scope.names:=by kernel_rfl
theorem xO (s:Shared):fenceModules? Challenge.pw_uf010009_09 s=some s:=by kernel_rfl
theorem Ba:LeftO Challenge.pw_uf010009_09 Q09 ["MODULUS","THINGS"] X09 (lM "THINGS") (nZ t7) 10000:=
 rT A9 rfl xO (byRow2 "special-get-raises" (P:=fun w=>∀os:OsState,(pv Challenge.pw_uf010009_09 10000 w os).map (fun s=>(openSeen Q09 ["MODULUS","THINGS"] (importedModules Challenge.pw_uf010009_09.main.body) X09 true s.abs,lM "THINGS" s.abs))=some (openGood Q09 ["MODULUS","THINGS"],nZ t7 w))
  (fun w os=>Ah (AX w os) (AY w os) fun x y=>((x.1,x.2.1,x.2.2.1,y),x.2.2.2)) fun w os=>Ah (AZ w os) (A8 w os) fun x y=>((x.1,x.2.1,x.2.2.1,y),x.2.2.2))
end Internal
end
section
namespace Internal
theorem same {α:Type _}{x:Option α}{a b:α}(h:x=some a)(k:x=some b):a=b:=Option.some.inj (h.symm.trans k)
theorem ba {α:Type _}{x:Option α}{a:α}{P:Prop}(h:x=none)(k:x=some a):P:=by cases h.symm.trans k
theorem az {α:Type _}{a:α}{P:Prop}(h:none=some a):P:=by cases h
theorem rU {α:Type _}{a:α}{P:Prop}(h:some a=none):P:=by cases h
theorem ff {P:Prop}(h:false=true):P:=Bool.noConfusion h
theorem tf {P:Prop}(h:true=false):P:=Bool.noConfusion h
theorem aN {α:Type _}{a:α}{P:Prop}(h:a∈([]:List α)):P:=(List.not_mem_nil h).elim
theorem e02 {p q:Prop}{G:Prop}(h:p∧q)(k:p→q→G):G:=by
 obtain ⟨h1,h2⟩:=h
 exact k h1 h2
theorem e03 {p q r:Prop}{G:Prop}(h:p∧q∧r)(k:p→q→r→G):G:=by
 obtain ⟨h1,h2,h3⟩:=h
 exact k h1 h2 h3
theorem e04 {p q r s:Prop}{G:Prop}(h:p∧q∧r∧s)(k:p→q→r→s→G):G:=by
 obtain ⟨h1,h2,h3,h4⟩:=h
 exact k h1 h2 h3 h4
theorem e05 {p q r s t:Prop}{G:Prop}(h:p∧q∧r∧s∧t)(k:p→q→r→s→t→G):G:=by
 obtain ⟨h1,h2,h3,h4,h5⟩:=h
 exact k h1 h2 h3 h4 h5
theorem e06 {p q r s t u:Prop}{G:Prop}(h:p∧q∧r∧s∧t∧u)(k:p→q→r→s→t→u→G):G:=by
 obtain ⟨h1,h2,h3,h4,h5,h6⟩:=h
 exact k h1 h2 h3 h4 h5 h6
theorem e11 {α:Type _}{p:α→Prop}{G:Prop}(h:∃a,p a)(k:∀a,p a→G):G:=by
 obtain ⟨a,h1⟩:=h
 exact k a h1
theorem e12 {α:Type _}{p q:α→Prop}{G:Prop}(h:∃a,p a∧q a)(k:∀a,p a→q a→G):G:=by
 obtain ⟨a,h1,h2⟩:=h
 exact k a h1 h2
theorem e13 {α:Type _}{p q r:α→Prop}{G:Prop}(h:∃a,p a∧q a∧r a)(k:∀a,p a→q a→r a→G):G:=by
 obtain ⟨a,h1,h2,h3⟩:=h
 exact k a h1 h2 h3
theorem e14 {α:Type _}{p q r s:α→Prop}{G:Prop}(h:∃a,p a∧q a∧r a∧s a)(k:∀a,p a→q a→r a→s a→G):G:=by
 obtain ⟨a,h1,h2,h3,h4⟩:=h
 exact k a h1 h2 h3 h4
theorem e15 {α:Type _}{p q r s t:α→Prop}{G:Prop}(h:∃a,p a∧q a∧r a∧s a∧t a)(k:∀a,p a→q a→r a→s a→t a→G):G:=by
 obtain ⟨a,h1,h2,h3,h4,h5⟩:=h
 exact k a h1 h2 h3 h4 h5
theorem e16 {α:Type _}{p q r s t u:α→Prop}{G:Prop}(h:∃a,p a∧q a∧r a∧s a∧t a∧u a)(k:∀a,p a→q a→r a→s a→t a→u a→G):G:=by
 obtain ⟨a,h1,h2,h3,h4,h5,h6⟩:=h
 exact k a h1 h2 h3 h4 h5 h6
theorem e21 {α:Type _}{β:Type _}{p:α→β→Prop}{G:Prop}(h:∃a b,p a b)(k:∀a b,p a b→G):G:=by
 obtain ⟨a,b,h1⟩:=h
 exact k a b h1
theorem e22 {α:Type _}{β:Type _}{p q:α→β→Prop}{G:Prop}(h:∃a b,p a b∧q a b)(k:∀a b,p a b→q a b→G):G:=by
 obtain ⟨a,b,h1,h2⟩:=h
 exact k a b h1 h2
theorem e23 {α:Type _}{β:Type _}{p q r:α→β→Prop}{G:Prop}(h:∃a b,p a b∧q a b∧r a b)(k:∀a b,p a b→q a b→r a b→G):G:=by
 obtain ⟨a,b,h1,h2,h3⟩:=h
 exact k a b h1 h2 h3
theorem e24 {α:Type _}{β:Type _}{p q r s:α→β→Prop}{G:Prop}(h:∃a b,p a b∧q a b∧r a b∧s a b)(k:∀a b,p a b→q a b→r a b→s a b→G):G:=by
 obtain ⟨a,b,h1,h2,h3,h4⟩:=h
 exact k a b h1 h2 h3 h4
theorem e25 {α:Type _}{β:Type _}{p q r s t:α→β→Prop}{G:Prop}(h:∃a b,p a b∧q a b∧r a b∧s a b∧t a b)(k:∀a b,p a b→q a b→r a b→s a b→t a b→G):G:=by
 obtain ⟨a,b,h1,h2,h3,h4,h5⟩:=h
 exact k a b h1 h2 h3 h4 h5
theorem e26 {α:Type _}{β:Type _}{p q r s t u:α→β→Prop}{G:Prop}(h:∃a b,p a b∧q a b∧r a b∧s a b∧t a b∧u a b)(k:∀a b,p a b→q a b→r a b→s a b→t a b→u a b→G):G:=by
 obtain ⟨a,b,h1,h2,h3,h4,h5,h6⟩:=h
 exact k a b h1 h2 h3 h4 h5 h6
theorem e31 {α:Type _}{β:Type _}{γ:Type _}{p:α→β→γ→Prop}{G:Prop}(h:∃a b c,p a b c)(k:∀a b c,p a b c→G):G:=by
 obtain ⟨a,b,c,h1⟩:=h
 exact k a b c h1
theorem e32 {α:Type _}{β:Type _}{γ:Type _}{p q:α→β→γ→Prop}{G:Prop}(h:∃a b c,p a b c∧q a b c)(k:∀a b c,p a b c→q a b c→G):G:=by
 obtain ⟨a,b,c,h1,h2⟩:=h
 exact k a b c h1 h2
theorem e33 {α:Type _}{β:Type _}{γ:Type _}{p q r:α→β→γ→Prop}{G:Prop}(h:∃a b c,p a b c∧q a b c∧r a b c)(k:∀a b c,p a b c→q a b c→r a b c→G):G:=by
 obtain ⟨a,b,c,h1,h2,h3⟩:=h
 exact k a b c h1 h2 h3
theorem e34 {α:Type _}{β:Type _}{γ:Type _}{p q r s:α→β→γ→Prop}{G:Prop}(h:∃a b c,p a b c∧q a b c∧r a b c∧s a b c)(k:∀a b c,p a b c→q a b c→r a b c→s a b c→G):G:=by
 obtain ⟨a,b,c,h1,h2,h3,h4⟩:=h
 exact k a b c h1 h2 h3 h4
theorem e35 {α:Type _}{β:Type _}{γ:Type _}{p q r s t:α→β→γ→Prop}{G:Prop}(h:∃a b c,p a b c∧q a b c∧r a b c∧s a b c∧t a b c)(k:∀a b c,p a b c→q a b c→r a b c→s a b c→t a b c→G):G:=by
 obtain ⟨a,b,c,h1,h2,h3,h4,h5⟩:=h
 exact k a b c h1 h2 h3 h4 h5
theorem e41 {α:Type _}{β:Type _}{γ:Type _}{δ:Type _}{p:α→β→γ→δ→Prop}{G:Prop}(h:∃a b c d,p a b c d)(k:∀a b c d,p a b c d→G):G:=by
 obtain ⟨a,b,c,d,h1⟩:=h
 exact k a b c d h1
theorem e42 {α:Type _}{β:Type _}{γ:Type _}{δ:Type _}{p q:α→β→γ→δ→Prop}{G:Prop}(h:∃a b c d,p a b c d∧q a b c d)(k:∀a b c d,p a b c d→q a b c d→G):G:=by
 obtain ⟨a,b,c,d,h1,h2⟩:=h
 exact k a b c d h1 h2
theorem e43 {α:Type _}{β:Type _}{γ:Type _}{δ:Type _}{p q r:α→β→γ→δ→Prop}{G:Prop}(h:∃a b c d,p a b c d∧q a b c d∧r a b c d)(k:∀a b c d,p a b c d→q a b c d→r a b c d→G):G:=by
 obtain ⟨a,b,c,d,h1,h2,h3⟩:=h
 exact k a b c d h1 h2 h3
theorem e44 {α:Type _}{β:Type _}{γ:Type _}{δ:Type _}{p q r s:α→β→γ→δ→Prop}{G:Prop}(h:∃a b c d,p a b c d∧q a b c d∧r a b c d∧s a b c d)(k:∀a b c d,p a b c d→q a b c d→r a b c d→s a b c d→G):G:=by
 obtain ⟨a,b,c,d,h1,h2,h3,h4⟩:=h
 exact k a b c d h1 h2 h3 h4
theorem e51 {α:Type _}{β:Type _}{γ:Type _}{δ:Type _}{ε:Type _}{p:α→β→γ→δ→ε→Prop}{G:Prop}(h:∃a b c d e,p a b c d e)(k:∀a b c d e,p a b c d e→G):G:=by
 obtain ⟨a,b,c,d,e,h1⟩:=h
 exact k a b c d e h1
theorem e52 {α:Type _}{β:Type _}{γ:Type _}{δ:Type _}{ε:Type _}{p q:α→β→γ→δ→ε→Prop}{G:Prop}(h:∃a b c d e,p a b c d e∧q a b c d e)(k:∀a b c d e,p a b c d e→q a b c d e→G):G:=by
 obtain ⟨a,b,c,d,e,h1,h2⟩:=h
 exact k a b c d e h1 h2
theorem e53 {α:Type _}{β:Type _}{γ:Type _}{δ:Type _}{ε:Type _}{p q r:α→β→γ→δ→ε→Prop}{G:Prop}(h:∃a b c d e,p a b c d e∧q a b c d e∧r a b c d e)(k:∀a b c d e,p a b c d e→q a b c d e→r a b c d e→G):G:=by
 obtain ⟨a,b,c,d,e,h1,h2,h3⟩:=h
 exact k a b c d e h1 h2 h3
theorem n1 {a b c d:Nat}(h:a≤b)(e:c+b≤d+a):c≤d:=Nat.le_of_add_le_add_right (Nat.le_trans e (Nat.add_le_add_left h d))
theorem n2 {a b a' b' c d:Nat}(h:a≤b)(h':a'≤b')(e:c+(b+b')≤d+(a+a')):c≤d:=n1 (Nat.add_le_add h h') e
theorem n3 {a b a' b' a2 b2 c d:Nat}(h:a≤b)(h':a'≤b')(h2:a2≤b2)(e:c+(b+(b'+b2))≤d+(a+(a'+a2))):c≤d:=n2 h (Nat.add_le_add h' h2) e
theorem z1 {a b c d:Int}(h:a≤b)(e:c+b≤d+a):c≤d:=Int.le_of_add_le_add_right (Int.le_trans e (Int.add_le_add_left h d))
theorem z2 {a b a' b' c d:Int}(h:a≤b)(h':a'≤b')(e:c+(b+b')≤d+(a+a')):c≤d:=z1 (Int.add_le_add h h') e
theorem z3 {a b a' b' a2 b2 c d:Int}(h:a≤b)(h':a'≤b')(h2:a2≤b2)(e:c+(b+(b'+b2))≤d+(a+(a'+a2))):c≤d:=z2 h (Int.add_le_add h' h2) e
theorem mx {a b c:Nat}(h:a≤c)(k:b≤c):max a b≤c:=Nat.max_le.mpr ⟨h,k⟩
theorem mx0 {a c:Nat}(h:a≤c):max a 0≤c:=mx h (Nat.zero_le _)
theorem m0x {a c:Nat}(h:a≤c):max 0 a≤c:=mx (Nat.zero_le _) h
theorem lk {a b c:Nat}(h:a≤b)(k:Nat.ble b c=true):a≤c:=Nat.le_trans h (Nat.le_of_ble_eq_true k)
theorem m3l {a b c N:Nat}(h:3 * max a b+c<N):3 * a+c<N:=Nat.lt_of_le_of_lt (Nat.add_le_add_right (Nat.mul_le_mul_left 3 (Nat.le_max_left a b)) c) h
theorem m3r {a b c N:Nat}(h:3 * max a b+c<N):3 * b+c<N:=Nat.lt_of_le_of_lt (Nat.add_le_add_right (Nat.mul_le_mul_left 3 (Nat.le_max_right a b)) c) h
theorem dn {d k:Int}{n:Nat}(h:d+n≤k):¬ k<d:=Int.not_lt.mpr (Int.le_trans (Int.le_add_of_nonneg_right (Int.natCast_nonneg _)) h)
theorem dl {d k:Int}{a b:Nat}(h:d+((max a b+1:Nat):Int)≤k):d+1+a≤k∧d+1+b≤k:=by lia
theorem Fk {n k i:Nat}(h:n-i=k+1):n-(i+1)=k:=by rw [Nat.sub_succ,h];rfl
theorem nb {a b:Nat}(h:Nat.ble a b=true):a≤b:=Nat.le_of_ble_eq_true h
theorem nf {P:Prop}(h:1≤0):P:=absurd h (Nat.not_succ_le_self 0)
theorem zf {P:Prop}(h:(1:Int)≤0):P:=absurd h (by decide)
theorem em0 {x k:Int}(h:decide (0<k)=true):0≤x % k:=Int.emod_nonneg _ (Int.ne_of_gt (of_decide_eq_true h))
theorem em2 {x k K:Int}(h:(decide (0<k)&&decide (k≤K))=true):x % k<K:=by
 obtain ⟨h1,h2⟩:=Bool.and_eq_true_iff.mp h
 exact Int.lt_of_lt_of_le (Int.emod_lt_of_pos _ (of_decide_eq_true h1)) (of_decide_eq_true h2)
theorem em {x k K:Int}(h:(decide (0<k)&&decide (k≤K))=true):0≤x % k∧x % k<K:=⟨em0 (Bool.and_eq_true_iff.mp h).1,em2 h⟩
theorem emN {x k:Int}{n:Nat}(h:(decide (0<k)&&decide (k≤(n:Int)))=true):(x % k).toNat<n:=(Int.toNat_lt (em0 (Bool.and_eq_true_iff.mp h).1)).mpr (em2 h)
theorem sb {n k:Nat}(h:k≤n):n=n-k+k:=(Nat.sub_add_cancel h).symm
theorem lw {n:Nat}(h:0<n):(0:Int)<n:=Int.natCast_pos.mpr h
theorem cne {n:Nat}(h:0<n):(n:Int)≠0:=Int.ne_of_gt (lw h)
theorem tn {k:Int}{n:Nat}(h0:0≤k)(h:k<n):k.toNat<n:=(Int.toNat_lt h0).mpr h
set_option genCtorIdx false in
inductive MV where
 | none | bool (b:Bool) | int (i:Int) | str (s:List Nat) | tup (xs:List MV) | ref (i:Nat) | inst (c i:Nat) | scr (is:List Int) | gt (ss:List (List Nat)) | cdict (es:List (List Nat × Int))
gen_injective_theorems% MV
set_option genCtorIdx false in
inductive MO where
 | list (xs:List MV) | dict (es:List (List Nat × MV)) | attrs (es:List (List Nat × MV)) | exc (c:Nat)
gen_injective_theorems% MO
set_option genCtorIdx false in
structure MS where
 vars:List (Option MV)
 heap:List MO
set_option genCtorIdx false in
inductive Fl where
 | next | brk | cont | ret (v:MV)
gen_injective_theorems% Fl
noncomputable abbrev XT:=Nat→List MO→Prop
noncomputable abbrev XM:=Nat→MS→Prop
noncomputable abbrev KT:=Nat→Nat→List MV→(MV→List MO→Prop)→XT→List MO→Prop
set_option genCtorIdx false in
inductive Op where
 | add | sub | mul | fdiv | mod | pow (u:Unit:=())
gen_injective_theorems% Op
set_option genCtorIdx false in
inductive Cmp where
 | eq | ne | lt | le | gt | ge | inn | nin (u:Unit:=())
gen_injective_theorems% Cmp
set_option genCtorIdx false in
inductive Bi where
 | len | int | str | list | tuple | dict | sortedSet | sorted | sum | min | max | all | listRev (u:Unit:=())
gen_injective_theorems% Bi
set_option genCtorIdx false in
inductive Me where
 | append | extend | insert | pop | popAt | dpop | clear | dclear | count | index | find | split | join | get (u:Unit:=())
gen_injective_theorems% Me
set_option genCtorIdx false in
inductive TS where
 | int | bool | str | list | tuple | dict | cls (c:Nat) | valueError
gen_injective_theorems% TS
set_option genCtorIdx false in
inductive IK where
 | val | range1 | range2 | enum | keys (u:Unit:=())
gen_injective_theorems% IK
set_option genCtorIdx false in
inductive ME where
 | cst (v:MV)
 | var (i:Nat)
 | glob (g:Nat) (v:MV)
 | bin (op:Op) (a b:ME)
 | neg (a:ME)
 | not (a:ME)
 | and (es:List ME)
 | or (es:List ME)
 | cmp (op:Cmp) (a b:ME)
 | cmp2 (op op':Cmp) (a b c:ME)
 | isN (pos:Bool) (a:ME)
 | call (f:Nat) (args:List ME)
 | blt (b:Bi) (args:List ME)
 | mth (k:Me) (o:ME) (args:List ME)
 | umth (c f:Nat) (x:List Nat) (o:ME) (args:List ME)
 | new (c f:Nat) (args:List ME)
 | attr (c:Nat) (o:ME) (x:List Nat)
 | idx (o i:ME)
 | sl (o:ME) (lo hi:Option ME)
 | list (es:List ME)
 | tup (es:List ME)
 | dict0
 | comp (elt:ME) (t:List Nat) (many:Bool) (k:IK) (src:List ME) (ifs:List ME)
 | isi (a:ME) (ts:List TS)
gen_injective_theorems% ME
set_option genCtorIdx false in
inductive MSt where
 | asg (t:List Nat) (many:Bool) (e:ME)
 | setAttr (c:Nat) (o:ME) (x:List Nat) (e:ME)
 | setIdx (o i e:ME)
 | expr (e:ME)
 | ite (c:ME) (a b:List MSt)
 | for_ (t:List Nat) (many:Bool) (k:IK) (src:List ME) (body:List MSt)
 | while_ (c:ME) (body:List MSt)
 | ret (e:ME)
 | cont
 | raise (c:Nat)
 | try_ (body:List MSt) (c:Nat) (v:Nat) (h:List MSt)
gen_injective_theorems% MSt
noncomputable def MS.set (m:MS)(i:Nat)(v:MV):MS:=⟨m.vars.set i (some v),m.heap⟩
noncomputable def MS.get (m:MS)(i:Nat):Option MV:=match m.vars[i]? with
 | some (some v)=>some v
 | _=>none
noncomputable def MS.unset (m:MS)(i:Nat):MS:=⟨m.vars.set i none,m.heap⟩
noncomputable def MS.push (m:MS)(o:MO):MS:=⟨m.vars,m.heap++[o]⟩
noncomputable def MS.put (m:MS)(i:Nat)(o:MO):MS:=⟨m.vars,m.heap.set i o⟩
noncomputable def dU (x:Int):Prop:=x.natAbs<2 ^ 63
noncomputable def line:Nat:=2 ^ 24
noncomputable abbrev PQ:=MV→MS→Prop
set_option genCtorIdx false in
inductive D where
 | none | bool (b:Bool) | int (i:Int) | str (s:List Nat) | list (xs:List D) | tup (xs:List D)
gen_injective_theorems% D
mutual
noncomputable def D.deq:D→D→Bool
 | .none,.none=>true
 | .bool a,.bool b=>a==b
 | .bool a,.int j=>(if a then 1 else 0)==j
 | .int i,.bool b=>i==(if b then 1 else 0)
 | .int i,.int j=>i==j
 | .str x,.str y=>x==y
 | .list xs,.list ys=>D.deqs xs ys
 | .tup xs,.tup ys=>D.deqs xs ys
 | _,_=>false
noncomputable def D.deqs:List D→List D→Bool
 | [],[]=>true
 | x::xs,y::ys=>D.deq x y&&D.deqs xs ys
 | _,_=>false
end
mutual
noncomputable def D.deep:D→Nat
 | .list xs | .tup xs=>D.deeps xs+1
 | _=>0
noncomputable def D.deeps:List D→Nat
 | []=>0
 | x::xs=>max (D.deep x) (D.deeps xs)
end
mutual
noncomputable def D.ok:D→Bool
 | .list xs | .tup xs=>D.oks xs
 | .str s=>s.all (fun c=>decide (c<55296))
 | _=>true
noncomputable def D.oks:List D→Bool
 | []=>true
 | x::xs=>D.ok x&&D.oks xs
end
mutual
inductive Rd (hp:List MO):MV→D→Prop
 | none:Rd hp .none .none
 | bool (b):Rd hp (.bool b) (.bool b)
 | int (i):Rd hp (.int i) (.int i)
 | str (s):Rd hp (.str s) (.str s)
 | tup {xs ds}:Rds hp xs ds→Rd hp (.tup xs) (.tup ds)
 | list {i xs ds}:hp[i]?=some (.list xs)→Rds hp xs ds→Rd hp (.ref i) (.list ds)
inductive Rds (hp:List MO):List MV→List D→Prop
 | nil:Rds hp [] []
 | cons {x xs d ds}:Rd hp x d→Rds hp xs ds→Rds hp (x::xs) (d::ds)
end
noncomputable def aeq:MV→MV→Option Bool
 | .none,.none=>some true
 | .bool a,.bool b=>some (a==b)
 | .int i,.int j=>some (i==j)
 | .str x,.str y=>some (x==y)
 | .none,.int _ | .none,.str _ | .none,.bool _ | .int _,.none | .int _,.str _ | .str _,.none | .str _,.int _ | .bool _,.none | .str _,.bool _ | .bool _,.str _=>some false
 | _,_=>none
inductive EqP (hp:List MO)(x y:MV)(Q:Bool→Prop):Prop
 | mk (d e:D) (hd:Rd hp x d) (he:Rd hp y e) (hk:d.deep≤1000) (h1:d.ok=true) (h2:e.ok=true) (hq:Q (d.deq e))
 | dicts (hu:DF=true) (i j:Nat) (es:List (List Nat × MV)) (hx:x=.ref i) (hy:y=.ref j) (hi:hp[i]?=some (.dict es)) (hj:hp[j]?=some (.dict es)) (hl:∀e∈es,∃k,e.2=.int k) (hn:(es.map (·.1)).Nodup) (hq:Q true)
 | nil (i j:Nat) (xs:List MV) (hx:x=.ref i) (hy:y=.ref j) (hi:hp[i]?=some (.list xs)) (hj:hp[j]?=some (.list [])) (hq:Q xs.isEmpty)
inductive InP (hp:List MO)(x:MV)(ys:List MV)(Q:Bool→Prop):Prop
 | mk (d:D) (es:List D) (hd:Rd hp x d) (he:Rds hp ys es) (hk:d.deep≤1000) (h1:d.ok=true) (h2:D.oks es=true) (hq:Q (es.any (fun e=>e.deq d)))
noncomputable def bn:List (List Nat × MV)→List Nat→Option MV
 | [],_=>none
 | (k,v)::r,x=>match k==x with
  | true=>some v
  | false=>bn r x
noncomputable def cG:List (List Nat × MV)→List Nat→MV→List (List Nat × MV)
 | [],x,v=>[(x,v)]
 | (k,w)::r,x,v=>match k==x with
  | true=>(k,v)::r
  | false=>(k,w)::cG r x v
noncomputable def DK:List (List Nat × MV)→List Nat→List (List Nat × MV)
 | [],_=>[]
 | (k,w)::r,x=>match k==x with
  | true=>r
  | false=>(k,w)::DK r x
noncomputable def onS (x:MV)(f:List Nat→Prop):Prop:=match x with
 | .str s=>f s
 | _=>False
theorem mQ {x:MV}{f:List Nat→Prop}(h:onS x f):∃s,x=.str s∧f s:=by
 cases x with
 | str s=>exact ⟨s,rfl,h⟩
 | _=>exact h.elim
noncomputable def onL (o:Option (Nat × List MV))(f:Nat→List MV→Prop):Prop:=match o with
 | some (a,b)=>f a b
 | none=>False
noncomputable def on1 (vs:List MV)(f:MV→Prop):Prop:=match vs with
 | [v]=>f v
 | _=>False
noncomputable def onO {α:Type}(o:Option α)(f:α→Prop):Prop:=match o with
 | some a=>f a
 | none=>False
theorem jE {o:Option (Nat × List MV)}{f:Nat→List MV→Prop}(h:onL o f):∃r xs,o=some (r,xs)∧f r xs:=by
 cases o with
 | none=>exact h.elim
 | some q=>cases q;exact ⟨_,_,rfl,h⟩
theorem jF {vs:List MV}{f:MV→Prop}(h:on1 vs f):∃v,vs=[v]∧f v:=by
 cases vs with
 | nil=>exact h.elim
 | cons v r=>
  cases r with
  | nil=>exact ⟨v,rfl,h⟩
  | cons=>exact h.elim
theorem b8 {α:Type}{o:Option α}{f:α→Prop}(h:onO o f):∃a,o=some a∧f a:=by
 cases o with
 | none=>exact h.elim
 | some a=>exact ⟨a,rfl,h⟩
noncomputable def onI (x:MV)(f:Int→Prop):Prop:=match x with
 | .int s=>f s
 | _=>False
noncomputable def on2 (vs:List MV)(f:MV→MV→Prop):Prop:=match vs with
 | [v,w]=>f v w
 | _=>False
noncomputable def onD (o:Option (Nat × List (List Nat × MV)))(f:Nat→List (List Nat × MV)→Prop):Prop:=match o with
 | some (a,b)=>f a b
 | none=>False
theorem Fo {o:Option (Nat × List (List Nat × MV))}{f:Nat→List (List Nat × MV)→Prop}(h:onD o f):∃r xs,o=some (r,xs)∧f r xs:=by
 cases o with
 | none=>exact h.elim
 | some q=>cases q;exact ⟨_,_,rfl,h⟩
theorem mR {x:MV}{f:Int→Prop}(h:onI x f):∃s,x=.int s∧f s:=by
 cases x with
 | int s=>exact ⟨s,rfl,h⟩
 | _=>exact h.elim
theorem Fp {vs:List MV}{f:MV→MV→Prop}(h:on2 vs f):∃v w,vs=[v,w]∧f v w:=by
 rcases vs with _ | ⟨v,_ | ⟨w,_ | ⟨u,r⟩⟩⟩
 ·exact h.elim
 ·exact h.elim
 ·exact ⟨v,w,rfl,h⟩
 ·exact h.elim
noncomputable def onN (y:List Nat)(f:Nat→Prop):Prop:=match y with
 | [a]=>f a
 | _=>False
theorem xP {y:List Nat}{f:Nat→Prop}(h:onN y f):∃a,y=[a]∧f a:=by
 cases y with
 | nil=>exact h.elim
 | cons a r=>
  cases r with
  | nil=>exact ⟨a,rfl,h⟩
  | cons=>exact h.elim
noncomputable def onT (b:Bool)(P:Prop):Prop:=match b with
 | true=>P
 | false=>False
theorem gV {b:Bool}{P:Prop}(h:onT b P):b=true∧P:=by
 cases b with
 | true=>exact ⟨rfl,h⟩
 | false=>exact h.elim
noncomputable def onR (x:MV)(f:Nat→Prop):Prop:=match x with
 | .ref r=>f r
 | _=>False
theorem dE {x:MV}{f:Nat→Prop}(h:onR x f):∃r,x=.ref r∧f r:=by
 cases x with
 | ref r=>exact ⟨r,rfl,h⟩
 | _=>exact h.elim
noncomputable def gW (o:Option MO)(f:List MV→Prop):Prop:=match o with
 | some (.list xs)=>f xs
 | _=>False
theorem bX {o:Option MO}{f:List MV→Prop}(h:gW o f):∃xs,o=some (.list xs)∧f xs:=by
 cases o with
 | none=>exact h.elim
 | some o=>
  cases o with
  | list xs=>exact ⟨xs,rfl,h⟩
  | _=>exact h.elim
noncomputable def t8 (o:Option MO)(f:List (List Nat × MV)→Prop):Prop:=match o with
 | some (.dict xs)=>f xs
 | _=>False
theorem n5 {o:Option MO}{f:List (List Nat × MV)→Prop}(h:t8 o f):∃xs,o=some (.dict xs)∧f xs:=by
 cases o with
 | none=>exact h.elim
 | some o=>
  cases o with
  | dict xs=>exact ⟨xs,rfl,h⟩
  | _=>exact h.elim
noncomputable def pC (o:Option MO)(f:List MV→Prop)(g:List (List Nat × MV)→Prop):Prop:=match o with
 | some (.list xs)=>f xs
 | some (.dict xs)=>g xs
 | _=>False
theorem gX {o:Option MO}{f:List MV→Prop}{g:List (List Nat × MV)→Prop}(h:pC o f g):(∃xs,o=some (.list xs)∧f xs)∨∃xs,o=some (.dict xs)∧g xs:=by
 cases o with
 | none=>exact h.elim
 | some o=>
  cases o with
  | list xs=>exact .inl ⟨xs,rfl,h⟩
  | dict xs=>exact .inr ⟨xs,rfl,h⟩
  | _=>exact h.elim
theorem ax {o:Option MO}{f:List MV→Prop}{g:List (List Nat × MV)→Prop}{xs:List MV}(e:o=some (.list xs))(h:f xs):pC o f g:=by rw [e];exact h
theorem lN {o:Option MO}{f:List MV→Prop}{g:List (List Nat × MV)→Prop}{xs:List (List Nat × MV)}(e:o=some (.dict xs))(h:g xs):pC o f g:=by rw [e];exact h
noncomputable def DL (vs:List MV)(f:MV→Prop)(g:MV→MV→Prop):Prop:=match vs with
 | [x]=>f x
 | [x,y]=>g x y
 | _=>False
theorem t9 {vs:List MV}{f:MV→Prop}{g:MV→MV→Prop}(h:DL vs f g):(∃x,vs=[x]∧f x)∨∃x y,vs=[x,y]∧g x y:=by
 rcases vs with _ | ⟨v,_ | ⟨w,_ | ⟨u,r⟩⟩⟩
 ·exact h.elim
 ·exact .inl ⟨v,rfl,h⟩
 ·exact .inr ⟨v,w,rfl,h⟩
 ·exact h.elim
noncomputable def Ai (o:Option MO)(x:MV)(Q:Bool→Prop)(hp:List MO):Prop:=pC o (fun ys=>InP hp x ys Q) fun es=>onS x fun s=>Q (bn es s).isSome
noncomputable def cds (es:List (List Nat × Int)):List (List Nat × MV):=es.map fun p=>(p.1,.int p.2)
noncomputable def Bb (x c:MV)(Q:Bool→Prop)(hp:List MO):Prop:=
 match c with
 | .tup ys=>InP hp x ys Q
 | .gt ss=>InP hp x (ss.map .str) Q
 | .ref i=>Ai hp[i]? x Q hp
 | .cdict es=>onS x fun s=>Q (bn (cds es) s).isSome
 | .str s=>onS x fun y=>onN y fun a=>Q (s.contains a)
 | _=>False
noncomputable def eqB (o:Option Bool)(hp:List MO)(x y:MV)(Q:Bool→Prop):Prop:=match o with
 | some b=>Q b
 | none=>EqP hp x y Q
theorem qP {o:Option Bool}{hp:List MO}{x y:MV}{Q:Bool→Prop}(h:eqB o hp x y Q):(∃b,o=some b∧Q b)∨EqP hp x y Q:=by
 cases o with
 | some b=>exact .inl ⟨b,rfl,h⟩
 | none=>exact .inr h
noncomputable def jd (op:Cmp)(x y:MV)(Q:Bool→MS→Prop)(m:MS):Prop:=
 match op with
 | .eq=>eqB (aeq x y) m.heap x y (fun b=>Q b m)
 | .ne=>eqB (aeq x y) m.heap x y (fun b=>Q (!b) m)
 | .lt=>onI x fun i=>onI y fun j=>Q (decide (i<j)) m
 | .le=>onI x fun i=>onI y fun j=>Q (decide (i≤j)) m
 | .gt=>onI x fun i=>onI y fun j=>Q (decide (j<i)) m
 | .ge=>onI x fun i=>onI y fun j=>Q (decide (j≤i)) m
 | .inn=>Bb x y (fun b=>Q b m) m.heap
 | .nin=>Bb x y (fun b=>Q (!b) m) m.heap
noncomputable def ua (a b:MV)(Q:PQ)(m:MS):Prop:=match a with
 | .int x=>match b with
  | .int y=>Q (.int (x+y)) m
  | _=>False
 | .str x=>match b with
  | .str y=>x.length+y.length≤line∧Q (.str (x++y)) m
  | _=>False
 | .tup x=>match b with
  | .tup y=>x.length+y.length≤line∧Q (.tup (x++y)) m
  | _=>False
 | .ref i=>match b with
  | .ref j=>gW m.heap[i]? fun x=>gW m.heap[j]? fun y=>x.length+y.length≤line∧Q (.ref m.heap.length) (m.push (.list (x++y)))
  | _=>False
 | _=>False
noncomputable def mS (op:Op)(x y:Int)(Q:PQ)(m:MS):Prop:=match op with
 | .add=>Q (.int (x+y)) m
 | .sub=>Q (.int (x-y)) m
 | .mul=>(dU x∨dU y)∧Q (.int (x * y)) m
 | .fdiv=>onT (decide (0<y∧y<2 ^ 30)) (Q (.int (x / y)) m)
 | .mod=>onT (decide (0<y)) (Q (.int (x % y)) m)
 | .pow=>onT (decide (x=10∧(y=6∨y=9))) (Q (.int (x ^ y.toNat)) m)
noncomputable def lO (op:Op)(a b:MV)(Q:PQ)(m:MS):Prop:=onI a fun x=>onI b fun y=>mS op x y Q m
noncomputable def DM (a:MV)(k:Int)(Q:PQ)(m:MS):Prop:=match a with
 | .str s=>qN=true∧((0≤k∧k≤1000)∧s.length≤1000)∧Q (.str (List.replicate k.toNat s).flatten) m
 | .ref i=>gW m.heap[i]? fun xs=>on1 xs fun v=>AP=true∧(0≤k∧k≤1000000)∧Q (.ref m.heap.length) (m.push (.list (List.replicate k.toNat v)))
 | _=>False
noncomputable def Aj (a b:MV)(Q:PQ)(m:MS):Prop:=match b with
 | .int y=>match a with
  | .int x=>mS .mul x y Q m
  | a=>DM a y Q m
 | _=>False
noncomputable def Ak (op:Op)(a b:MV)(Q:PQ)(m:MS):Prop:=match op with
 | .add=>ua a b Q m
 | .sub=>lO .sub a b Q m
 | .mul=>Aj a b Q m
 | .fdiv=>lO .fdiv a b Q m
 | .mod=>lO .mod a b Q m
 | .pow=>lO .pow a b Q m
noncomputable def gZ (k:Int)(n:Nat):Option Nat:=
 match decide (0≤k),decide (k<(n:Int)),decide (-(n:Int)≤k) with
 | true,true,_=>some k.toNat
 | false,_,true=>some (k+n).toNat
 | _,_,_=>none
noncomputable def pend (k:Int)(n:Nat):Nat:=
 match decide (0≤k) with
 | true=>min k.toNat n
 | false=>(k+n).toNat
noncomputable def aF {α:Type}(xs:List α)(lo hi:Option Int):List α:=
 let a:=match lo with
  | none=>0
  | some k=>pend k xs.length
 let b:=match hi with
  | none=>xs.length
  | some k=>pend k xs.length
 (xs.take b).drop a
noncomputable def dW {α:Type}(xs:List α)(k:Int)(f:α→Prop):Prop:=onO (gZ k xs.length) fun j=>onO xs[j]? f
theorem bu {α:Type}{xs:List α}{k:Int}{f:α→Prop}{j:Nat}{v:α}(h1:gZ k xs.length=some j)(h2:xs[j]?=some v)(h:f v):dW xs k f:=by
 unfold dW;rw [h1]
 show onO xs[j]? f
 rw [h2];exact h
noncomputable def Al (x i:MV)(Q:PQ)(m:MS):Prop:=
 match i with
 | .int k=>match x with
  | .tup xs=>dW xs k fun v=>Q v m
  | .str s=>dW s k fun c=>Q (.str [c]) m
  | .ref r=>gW m.heap[r]? fun xs=>dW xs k fun v=>Q v m
  | .scr xs=>dW xs k fun v=>Q (.int v) m
  | _=>False
 | .str s=>match x with
  | .ref r=>t8 m.heap[r]? fun es=>onO (bn es s) fun v=>Q v m
  | .cdict es=>onO (bn (cds es) s) fun v=>Q v m
  | _=>False
 | _=>False
noncomputable def pD:Option MV→Option (Option Int)
 | none=>some none
 | some (.int k)=>some (some k)
 | some _=>none
noncomputable def Am (x:MV)(lo hi:Option Int)(Q:PQ)(m:MS):Prop:=match x with
 | .str s=>Q (.str (aF s lo hi)) m
 | .tup xs=>onO lo fun k=>(Ac=true∧hi=none∧1≤k∧1≤xs.length)∧Q (.tup (xs.drop k.toNat)) m
 | .scr xs=>Q (.ref m.heap.length) (m.push (.list (aF (xs.map .int) lo hi)))
 | .ref r=>gW m.heap[r]? fun xs=>Q (.ref m.heap.length) (m.push (.list (aF xs lo hi)))
 | _=>False
noncomputable def DN (x:MV)(lo hi:Option MV)(Q:PQ)(m:MS):Prop:=onO (pD lo) fun lo=>onO (pD hi) fun hi=>Am x lo hi Q m
noncomputable def slt:List Nat→List Nat→Bool
 | [],[]=>false
 | [],_::_=>true
 | _::_,[]=>false
 | a::x,b::y=>match decide (a<b),a==b with
  | true,_=>true
  | false,true=>slt x y
  | false,false=>false
noncomputable def pE (s:List Nat):List (List Nat)→List (List Nat)
 | []=>[s]
 | t::r=>match slt s t,s==t with
  | true,_=>s::t::r
  | false,true=>t::r
  | false,false=>t::pE s r
noncomputable def aS:List (List Nat)→List (List Nat)
 | []=>[]
 | s::r=>pE s (aS r)
noncomputable def b2i:Bool→Int
 | true=>1
 | false=>0
theorem An {n:Nat}(h:n<64):n<fH:=Nat.lt_of_lt_of_le h (nb rfl)
inductive DP (xs:List MV)(Q:List (List Nat)→Prop):Prop
 | mk (ss:List (List Nat)) (he:xs=ss.map .str) (hl:(aS ss).length<fH) (hz:ss.length<4000) (hq:Q (aS ss))
inductive FA (xs:List MV)(Q:Int→Prop):Prop
 | mk (is:List Int) (he:xs=is.map .int) (hb:∀i∈is,0≤i∧i≤1000000) (hl:is.length≤1000000) (hq:Q is.sum)
noncomputable def dec (k:Int):List Nat:=(toString k).toList.map Char.toNat
noncomputable def Ao (x:MV)(Q:PQ)(m:MS):Prop:=match x with
 | .tup xs=>Q (.int xs.length) m
 | .str xs=>Q (.int xs.length) m
 | .scr xs=>Q (.int xs.length) m
 | .ref r=>pC m.heap[r]? (fun xs=>Q (.int xs.length) m) fun xs=>Q (.int xs.length) m
 | _=>False
noncomputable def n6 (x:MV)(Q:PQ)(m:MS):Prop:=match x with
 | .ref r=>pC m.heap[r]? (fun xs=>Q (.ref m.heap.length) (m.push (.list xs))) fun es=>Ae=true∧Q (.ref m.heap.length) (m.push (.list (es.map fun p=>.str p.1)))
 | .tup xs=>Q (.ref m.heap.length) (m.push (.list xs))
 | _=>False
inductive ub (xs:List MV)(Q:List (List Nat × MV)→Prop):Prop
 | mk (hu:DG=true) (es:List (List Nat × MV)) (he:xs=es.map fun p=>.tup [.str p.1,p.2]) (hn:(es.map (·.1)).Nodup) (hl:es.length<1000000) (hq:Q es)
inductive pF (xs:List MV)(Q:List Bool→Prop):Prop
 | mk (bs:List Bool) (he:xs=bs.map .bool) (hl:bs.length<1000000) (hq:Q bs)
inductive FB (xs:List MV)(Q:Int→Prop):Prop
 | mk (hu:xL=true) (is:List Int) (he:xs=is.map .int) (hz:is≠[]) (hl:is.length<1000000) (k:Int) (h1:k∈is) (h2:∀i∈is,k≤i) (hq:Q k)
noncomputable def eh (b:Bi)(x:MV)(Q:PQ)(m:MS):Prop:=match b with
 | .len=>Ao x Q m
 | .int=>match x with
  | .bool b=>Q (.int (b2i b)) m
  | .str s=>Ag=true∧∃k:Int,s=dec k∧(0≤k∧k<1000000)∧Q (.int k) m
  | _=>False
 | .str=>match x with
  | .str s=>Q (.str s) m
  | .int k=>(-1≤k∧k<1000000)∧Q (.str (dec k)) m
  | _=>False
 | .list=>n6 x Q m
 | .tuple=>onR x fun r=>gW m.heap[r]? fun xs=>Q (.tup xs) m
 | .dict=>onR x fun r=>pC m.heap[r]? (fun xs=>ub xs fun es=>Q (.ref m.heap.length) (m.push (.dict es))) fun es=>Q (.ref m.heap.length) (m.push (.dict es))
 | .sum=>onR x fun r=>gW m.heap[r]? fun xs=>FA xs fun k=>Q (.int k) m
 | .all=>onR x fun r=>gW m.heap[r]? fun xs=>pF xs fun bs=>Q (.bool (bs.all id)) m
 | .listRev=>onR x fun r=>gW m.heap[r]? fun xs=>Q (.ref m.heap.length) (m.push (.list xs.reverse))
 | .sorted=>onR x fun r=>t8 m.heap[r]? fun es=>(es.map (·.1)).Nodup∧es.length<fH∧Q (.ref m.heap.length) (m.push (.list ((aS (es.map (·.1))).map .str)))
 | .min=>onR x fun r=>gW m.heap[r]? fun xs=>FB xs fun k=>Q (.int k) m
 | .sortedSet=>onR x fun r=>gW m.heap[r]? fun xs=>DP xs (fun ss=>Q (.ref m.heap.length) (m.push (.list (ss.map .str))))
 | _=>False
noncomputable def pG (b:Bi)(x y:Int)(Q:PQ)(m:MS):Prop:=match b with
 | .min=>Q (.int (min x y)) m
 | .max=>Q (.int (max x y)) m
 | _=>False
noncomputable def Bc (b:Bi)(x y:MV)(Q:PQ)(m:MS):Prop:=onI x fun i=>onI y fun j=>pG b i j Q m
noncomputable def lP (b:Bi)(vs:List MV)(Q:PQ)(m:MS):Prop:=DL vs (fun x=>eh b x Q m) fun x y=>Bc b x y Q m
noncomputable def rV (r:Nat)(o:Option MO):Option (Nat × List MV):=match o with
 | some (.list xs)=>some (r,xs)
 | _=>none
noncomputable def lst (o:MV)(hp:List MO):Option (Nat × List MV):=match o with
 | .ref r=>rV r hp[r]?
 | _=>none
theorem xQ {x:MV}{hp:List MO}{r:Nat}{xs:List MV}(h:lst x hp=some (r,xs)):x=.ref r∧hp[r]?=some (.list xs):=by
 cases x with
 | ref i=>
  replace h:rV i hp[i]?=some (r,xs):=h
  cases e:hp[i]? with
  | none=>rw [e] at h;exact az h
  | some o=>
   rw [e] at h
   cases o with
   | list ys=>cases h;exact ⟨rfl,e⟩
   | _=>exact az h
 | _=>exact az h
noncomputable def xR (c:Nat):List (List Nat)→List Nat
 | []=>[]
 | [w]=>w
 | w::r=>w++c::xR c r
noncomputable def DQ (r:Nat)(o:Option MO):Option (Nat × List (List Nat × MV)):=match o with
 | some (.dict xs)=>some (r,xs)
 | _=>none
noncomputable def dct (o:MV)(hp:List MO):Option (Nat × List (List Nat × MV)):=match o with
 | .ref r=>DQ r hp[r]?
 | _=>none
theorem xS {x:MV}{hp:List MO}{r:Nat}{xs:List (List Nat × MV)}(h:dct x hp=some (r,xs)):x=.ref r∧hp[r]?=some (.dict xs):=by
 cases x with
 | ref i=>
  replace h:DQ i hp[i]?=some (r,xs):=h
  cases e:hp[i]? with
  | none=>rw [e] at h;exact az h
  | some o=>
   rw [e] at h
   cases o with
   | dict ys=>cases h;exact ⟨rfl,e⟩
   | _=>exact az h
 | _=>exact az h
noncomputable def qQ:MV→Prop
 | .bool true=>True
 | _=>False
noncomputable def cV (k:Me)(o:MV)(vs:List MV)(Q:PQ)(m:MS):Prop:=match k with
 | .append=>onL (lst o m.heap) fun r xs=>on1 vs fun v=>xs.length<line∧Q .none (m.put r (.list (xs++[v])))
 | .extend=>onL (lst o m.heap) fun r xs=>on1 vs fun v=>onL (lst v m.heap) fun _ ys=>xs.length+ys.length≤line∧Q .none (m.put r (.list (xs++ys)))
 | .pop=>AV=true∧onL (lst o m.heap) fun r xs=>vs=[]∧onO xs[xs.length-1]? fun v=>Q v (m.put r (.list xs.dropLast))
 | .popAt=>onL (lst o m.heap) fun r xs=>on1 vs fun v=>onI v fun k=>(0≤k∧k<xs.length)∧onO xs[k.toNat]? fun v=>Q v (m.put r (.list (xs.eraseIdx k.toNat)))
 | .insert=>onL (lst o m.heap) fun r xs=>on2 vs fun v w=>onI v fun k=>((0≤k∧k≤xs.length)∧xs.length<line)∧Q .none (m.put r (.list (xs.take k.toNat++w::xs.drop k.toNat)))
 | .clear=>onL (lst o m.heap) fun r _=>vs=[]∧Q .none (m.put r (.list []))
 | .count=>iL=true∧onL (lst o m.heap) fun _ xs=>on1 vs fun v=>qQ v∧pF xs fun bs=>Q (.int (bs.count true)) m
 | .index=>onL (lst o m.heap) fun _ xs=>on1 vs fun v=>qQ v∧pF xs fun bs=>true∈bs∧Q (.int (bs.idxOf true)) m
 | .dpop=>iL=true∧onD (dct o m.heap) fun r es=>on1 vs fun v=>onS v fun s=>onO (bn es s) fun w=>Q w (m.put r (.dict (DK es s)))
 | .dclear=>iL=true∧onD (dct o m.heap) fun r _=>vs=[]∧Q .none (m.put r (.dict []))
 | .get=>t5=true∧onD (dct o m.heap) fun _ es=>on2 vs fun v d=>onS v fun s=>Q ((bn es s).getD d) m
 | .join=>gT=true∧onS o fun s=>on1 vs fun v=>onL (lst v m.heap) fun _ xs=>∃c ws,(s=[c]∧xs=ws.map .str)∧(xR c ws).length≤1000000∧Q (.str (xR c ws)) m
 | .find=>on1 vs fun v=>onS v fun _=>∀k:Int,-1≤k→Q (.int k) m
 | .split=>gT=true∧onS o fun s=>on1 vs fun v=>onS v fun y=>∃c,y=[c]∧s.length<1000000∧∀ws:List (List Nat),ws≠[]→(∀w∈ws,c∉w)→xR c ws=s→Q (.ref m.heap.length) (m.push (.list (ws.map .str)))
set_option genCtorIdx false in
inductive MK where
 | list | dict | str (u:Unit:=())
gen_injective_theorems% MK
noncomputable def meK:Me→MK
 | .dpop=>.dict
 | .dclear=>.dict
 | .get=>.dict
 | .join=>.str
 | .find=>.str
 | .split=>.str
 | _=>.list
noncomputable def uc:MV→Bool
 | .str _=>true
 | _=>false
theorem pH {x:MV}(h:uc x=true):∃y,x=.str y:=by
 cases x with
 | str y=>exact ⟨y,rfl⟩
 | _=>exact ff h
noncomputable def lQ (k:Me)(x:MV)(hp:List MO):Bool:=match meK k with
 | .list=>(lst x hp).isSome
 | .dict=>(dct x hp).isSome
 | .str=>uc x
set_option genCtorIdx false in
inductive Kd where
 | none | bool | int | str | tuple | list | dict | exc (c:Nat)
gen_injective_theorems% Kd
noncomputable def nob:TS→Option Bool
 | .cls _=>Option.none
 | .valueError=>Option.none
 | _=>some false
noncomputable def rZ (k:Kd)(t:TS):Option Bool:=match k with
 | .none=>nob t
 | .bool=>match t with
  | .bool=>some true
  | .int=>some true
  | t=>nob t
 | .int=>match t with
  | .int=>some true
  | t=>nob t
 | .str=>match t with
  | .str=>some true
  | t=>nob t
 | .tuple=>match t with
  | .tuple=>some true
  | t=>nob t
 | .list=>match t with
  | .list=>some true
  | t=>nob t
 | .dict=>match t with
  | .dict=>some true
  | t=>nob t
 | .exc c=>match t with
  | .cls d=>some (c==d||d==0)
  | .valueError=>some true
  | _=>Option.none
noncomputable def kdO:Option MO→Option Kd
 | some (.list _)=>some .list
 | some (.dict _)=>some .dict
 | some (.exc c)=>some (.exc c)
 | _=>none
noncomputable def ud (hp:List MO):MV→Option Kd
 | .none=>some .none
 | .bool _=>some .bool
 | .int _=>some .int
 | .str _=>some .str
 | .tup _=>some .tuple
 | .ref r=>kdO hp[r]?
 | _=>none
noncomputable def kdT (o:Option Kd)(t:TS):Option Bool:=match o with
 | some k=>rZ k t
 | none=>none
theorem jG {o:Option Kd}{t:TS}{b:Bool}(h:kdT o t=some b):∃k,o=some k∧rZ k t=some b:=by
 cases o with
 | none=>exact az h
 | some k=>exact ⟨k,rfl,h⟩
noncomputable def tyO (o:Option MO)(t:TS):Option Bool:=kdT (kdO o) t
noncomputable def jz (hp:List MO)(x:MV)(t:TS):Option Bool:=kdT (ud hp x) t
noncomputable abbrev Gd:=Option (Nat × MO)
noncomputable abbrev Its:=Option (List MV × Gd)
noncomputable def Ap (hp:List MO)(x:MV):Its:=match x with
 | .ref r=>match hp[r]? with
  | some (.list xs)=>some (xs,some (r,.list xs))
  | _=>none
 | .tup xs=>some (xs,none)
 | .str s=>match s.all (fun c=>decide (c<128)) with
  | true=>some (s.map (fun c=>.str [c]),none)
  | false=>none
 | _=>none
noncomputable def Bd (x:MV):Its:=match x with
 | .int n=>match decide (-16777216≤n∧n≤16777216) with
  | true=>some ((List.range n.toNat).map (fun (i:Nat)=>.int i),none)
  | false=>none
 | _=>none
noncomputable def FC (x y:MV):Its:=match x with
 | .int a=>match y with
  | .int b=>match decide ((0≤a∧a≤16777216)∧0≤b∧b≤16777216) with
   | true=>some ((List.range (b-a).toNat).map (fun (i:Nat)=>.int (a+i)),none)
   | false=>none
  | _=>none
 | _=>none
noncomputable def pI (hp:List MO)(x:MV):Its:=match x with
 | .ref r=>match hp[r]? with
  | some (.list xs)=>some (xs.zipIdx.map (fun p=>.tup [.int p.2,p.1]),some (r,.list xs))
  | _=>none
 | _=>none
noncomputable def Be (hp:List MO)(x:MV):Its:=match qO with
 | true=>match x with
  | .ref r=>match hp[r]? with
   | some (.dict es)=>some (es.map (fun p=>.str p.1),some (r,.dict es))
   | _=>none
  | _=>none
 | false=>none
noncomputable def DR (x y:MV):Its:=match DH with
 | true=>FC x y
 | false=>none
noncomputable def cR (k:IK)(vs:List MV)(hp:List MO):Its:=
 match vs with
 | [x]=>match k with
  | .val=>Ap hp x
  | .range1=>Bd x
  | .enum=>pI hp x
  | .keys=>Be hp x
  | .range2=>none
 | [x,y]=>match k with
  | .range2=>DR x y
  | _=>none
 | _=>none
noncomputable def ue (o:Its)(f:List MV→Gd→Prop):Prop:=match o with
 | some (a,b)=>f a b
 | none=>False
theorem n7 {o:Its}{f:List MV→Gd→Prop}(h:ue o f):∃items g,o=some (items,g)∧f items g:=by
 cases o with
 | none=>exact h.elim
 | some q=>cases q;exact ⟨_,_,rfl,h⟩
theorem aJ {o:Its}{f:List MV→Gd→Prop}{items:List MV}{g:Gd}(e:o=some (items,g))(h:f items g):ue o f:=by rw [e];exact h
theorem aC {b:Bool}{P:Prop}(e:b=true)(h:P):onT b P:=by rw [e];exact h
theorem bg {o:Option (Nat × List MV)}{f:Nat→List MV→Prop}{r:Nat}{xs:List MV}(e:o=some (r,xs))(h:f r xs):onL o f:=by rw [e];exact h
theorem FD {o:Option (Nat × List (List Nat × MV))}{f:Nat→List (List Nat × MV)→Prop}{r:Nat}{xs:List (List Nat × MV)}(e:o=some (r,xs))(h:f r xs):onD o f:=by rw [e];exact h
theorem ai {o:Option MO}{f:List MV→Prop}{xs:List MV}(e:o=some (.list xs))(h:f xs):gW o f:=by rw [e];exact h
theorem mT {o:Option MO}{f:List (List Nat × MV)→Prop}{xs:List (List Nat × MV)}(e:o=some (.dict xs))(h:f xs):t8 o f:=by rw [e];exact h
theorem fb {α:Type}{o:Option α}{f:α→Prop}{a:α}(e:o=some a)(h:f a):onO o f:=by rw [e];exact h
noncomputable def aO (g:Gd)(hp:List MO):Prop:=match g with
 | none=>True
 | some (r,o)=>hp[r]?=some o
noncomputable def mU (t:List Nat)(xs:List MV)(m:MS):MS:=match t,xs with
 | i::t,x::xs=>mU t xs (m.set i x)
 | _,_=>m
noncomputable def asg (t:List Nat)(many:Bool)(v:MV)(Q:MS→Prop)(m:MS):Prop:=
 match many,t,v with
 | false,[i],v=>Q (m.set i v)
 | true,t,.tup xs=>t.length=xs.length∧Q (mU t xs m)
 | _,_,_=>False
noncomputable def uf (g:Gd)(step:MV→(Fl→MS→Prop)→MS→Prop)(Q:Fl→MS→Prop):List MV→MS→Prop
 | [],m=>aO g m.heap∧Q .next m
 | v::vs,m=>aO g m.heap∧step v (fun f m=>match f with
  | .next=>uf g step Q vs m
  | .cont=>uf g step Q vs m
  | .brk=>Q .next m
  | .ret r=>Q (.ret r) m) m
@[irreducible] noncomputable def eX (g:Gd) (step:MV→(Fl→MS→Prop)→MS→Prop) (Q:Fl→MS→Prop):List MV→MS→Prop:=uf g step Q
noncomputable def pJ (g:Gd)(step:MV→(Option MV→MS→Prop)→MS→Prop)(Q:List MV→MS→Prop):List MV→List MV→MS→Prop
 | [],acc,m=>aO g m.heap∧Q acc m
 | v::vs,acc,m=>aO g m.heap∧step v (fun r m=>match r with
  | some x=>pJ g step Q vs (acc++[x]) m
  | none=>pJ g step Q vs acc m) m
@[irreducible] noncomputable def cq (g:Gd) (step:MV→(Option MV→MS→Prop)→MS→Prop) (Q:List MV→MS→Prop):List MV→List MV→MS→Prop:=pJ g step Q
noncomputable def mV (c:(Bool→MS→Prop)→MS→Prop)(b:(Fl→MS→Prop)→MS→Prop)(Q:Fl→MS→Prop):Nat→MS→Prop
 | 0,_=>False
 | k+1,m=>c (fun t m=>match t with
  | true=>b (fun f m=>match f with
   | .next=>mV c b Q k m
   | .cont=>mV c b Q k m
   | .brk=>Q .next m
   | .ret r=>Q (.ret r) m) m
  | false=>Q .next m) m
@[irreducible] noncomputable def dj (c:(Bool→MS→Prop)→MS→Prop) (b:(Fl→MS→Prop)→MS→Prop) (Q:Fl→MS→Prop):Nat→MS→Prop:=mV c b Q
theorem n8 {g:Gd}{step:MV→(Fl→MS→Prop)→MS→Prop}{Q:Fl→MS→Prop}{m:MS}:eX g step Q [] m=(aO g m.heap∧Q .next m):=by unfold eX;rfl
theorem lR {g:Gd}{step:MV→(Fl→MS→Prop)→MS→Prop}{Q:Fl→MS→Prop}{v:MV}{vs:List MV}{m:MS}:eX g step Q (v::vs) m=(aO g m.heap∧step v (fun f m=>match f with
  | .next=>eX g step Q vs m
  | .cont=>eX g step Q vs m
  | .brk=>Q .next m
  | .ret r=>Q (.ret r) m) m):=by unfold eX;rfl
theorem iO {g:Gd}{step:MV→(Option MV→MS→Prop)→MS→Prop}{Q:List MV→MS→Prop}{acc:List MV}{m:MS}:cq g step Q [] acc m=(aO g m.heap∧Q acc m):=by unfold cq;rfl
theorem ej {g:Gd}{step:MV→(Option MV→MS→Prop)→MS→Prop}{Q:List MV→MS→Prop}{v:MV}{vs acc:List MV}{m:MS}:cq g step Q (v::vs) acc m=(aO g m.heap∧step v (fun r m=>match r with
  | some x=>cq g step Q vs (acc++[x]) m
  | none=>cq g step Q vs acc m) m):=by unfold cq;rfl
theorem n9 {c:(Bool→MS→Prop)→MS→Prop}{b:(Fl→MS→Prop)→MS→Prop}{Q:Fl→MS→Prop}{m:MS}:dj c b Q 0 m=False:=by unfold dj;rfl
theorem je {c:(Bool→MS→Prop)→MS→Prop}{b:(Fl→MS→Prop)→MS→Prop}{Q:Fl→MS→Prop}{k:Nat}{m:MS}:dj c b Q (k+1) m=c (fun t m=>match t with
  | true=>b (fun f m=>match f with
   | .next=>dj c b Q k m
   | .cont=>dj c b Q k m
   | .brk=>Q .next m
   | .ret r=>Q (.ret r) m) m
  | false=>Q .next m) m:=by unfold dj;rfl
noncomputable def noX:XM:=fun _ _=>False
noncomputable def xU (o:Option MO)(f:List (List Nat × MV)→Prop):Prop:=match o with
 | some (.attrs es)=>f es
 | _=>False
theorem oa {o:Option MO}{f:List (List Nat × MV)→Prop}(h:xU o f):∃es,o=some (.attrs es)∧f es:=by
 cases o with
 | none=>exact h.elim
 | some o=>
  cases o with
  | attrs es=>exact ⟨es,rfl,h⟩
  | _=>exact h.elim
noncomputable def Bf (c:Nat)(v:MV)(f:Nat→Prop):Prop:=match v with
 | .inst d i=>onT (d==c) (f i)
 | _=>False
theorem oc {c:Nat}{v:MV}{f:Nat→Prop}(h:Bf c v f):∃i,v=.inst c i∧f i:=by
 cases v with
 | inst d i=>
  replace h:onT (d==c) (f i):=h
  cases e:d==c with
  | true=>rw [e] at h;exact ⟨i,by rw [eq_of_beq e],h⟩
  | false=>rw [e] at h;exact h.elim
 | _=>exact h.elim
theorem cr {o:Option MO}{f:List (List Nat × MV)→Prop}{es:List (List Nat × MV)}(e:o=some (.attrs es))(h:f es):xU o f:=by rw [e];exact h
noncomputable def ug (c:Nat)(x:List Nat)(v:MV)(Q:PQ)(m:MS):Prop:=Bf c v fun i=>xU m.heap[i]? fun es=>onO (bn es x) fun v=>Q v m
noncomputable def sf (c:Nat)(x:List Nat)(y v:MV)(Q:MS→Prop)(m:MS):Prop:=Bf c y fun i=>xU m.heap[i]? fun es=>es.length<1000∧Q (m.put i (.attrs (cG es x v)))
noncomputable def od (x y v:MV)(Q:MS→Prop)(m:MS):Prop:=match y with
 | .str s=>onR x fun r=>t8 m.heap[r]? fun es=>es.length<line∧Q (m.put r (.dict (cG es s v)))
 | .int k=>onR x fun r=>gW m.heap[r]? fun xs=>onO (gZ k xs.length) fun j=>(Ad=true∧0≤k)∧Q (m.put r (.list (xs.set j v)))
 | _=>False
noncomputable def xV (c:Nat)(x:List Nat)(v:MV)(hp:List MO):Bool:=match v with
 | .inst d i=>match hp[i]? with
  | some (.attrs es)=>c==d&&(bn es x).isNone
  | _=>false
 | _=>false
noncomputable def pK (v:MV)(P:Prop):Prop:=match v with
 | .none=>P
 | _=>False
noncomputable def uh (p:Bool)(x:MV):Bool:=match x with
 | .none=>p
 | _=>!p
noncomputable def bt (b:Bool)(P R:Prop):Prop:=match b with
 | true=>P
 | false=>R
theorem pL {b:Bool}{P R:Prop}(e:b=true)(h:P):bt b P R:=by rw [e];exact h
theorem dP {b:Bool}{P R:Prop}(e:b=false)(h:R):bt b P R:=by rw [e];exact h
theorem fc {b:Bool}{P R:Prop}(h:b=true→P)(k:b=false→R):bt b P R:=by
 cases b with
 | true=>exact h rfl
 | false=>exact k rfl
theorem si {b:Bool}{P R:Prop}(k:b=false→R)(h:b=true→P):bt b P R:=fc h k
theorem ng {b:Bool}(h:b=true):(!b)=false:=by rw [h];rfl
theorem pg {b:Bool}(h:b=false):(!b)=true:=by rw [h];rfl
noncomputable def cS (Q:Bool→MS→Prop):PQ:=fun v m=>match v with
 | .bool b=>Q b m
 | _=>False
noncomputable def Bg (ts:List TS)(hp:List MO)(x:MV)(f:Bool→Prop):Prop:=match ts with
 | [t]=>onO (jz hp x t) f
 | [t,u]=>onO (jz hp x t) fun b=>onO (jz hp x u) fun c=>f (b||c)
 | _=>False
noncomputable abbrev WE:=PQ→XM→MS→Prop
noncomputable abbrev WL:=(List MV→MS→Prop)→XM→MS→Prop
noncomputable abbrev WO:=(Option MV→MS→Prop)→XM→MS→Prop
noncomputable abbrev WB:=(Bool→MS→Prop)→XM→MS→Prop
noncomputable abbrev WS:=(Fl→MS→Prop)→XM→MS→Prop
noncomputable abbrev cB (Q:PQ):Bool→MS→Prop:=fun b m=>Q (.bool b) m
noncomputable abbrev DS (op:Op) (Q:PQ) (x:MV):PQ:=fun y m=>Ak op x y Q m
noncomputable abbrev FE (w:WE) (op:Op) (Q:PQ) (X:XM):PQ:=fun x m=>w (DS op Q x) X m
noncomputable abbrev FF (Q:PQ):PQ:=fun x m=>onI x fun i=>Q (.int (-i)) m
noncomputable abbrev FG (Q:PQ):PQ:=cS fun b m=>Q (.bool (!b)) m
noncomputable abbrev Aq (op:Cmp) (Q:PQ) (x:MV):PQ:=fun y m=>jd op x y (cB Q) m
noncomputable abbrev FH (w:WE) (op:Cmp) (Q:PQ) (X:XM):PQ:=fun x m=>w (Aq op Q x) X m
noncomputable abbrev FI (w:WE) (op:Cmp) (Q:PQ) (X:XM) (y:MV):Bool→MS→Prop:=fun t m=>bt t (w (Aq op Q y) X m) (Q (.bool false) m)
noncomputable abbrev FJ (w:WE) (op op':Cmp) (Q:PQ) (X:XM) (x:MV):PQ:=fun y m=>jd op x y (FI w op' Q X y) m
noncomputable abbrev cTw (v w:WE) (op op':Cmp) (Q:PQ) (X:XM):PQ:=fun x m=>v (FJ w op op' Q X x) X m
noncomputable abbrev FK (p:Bool) (Q:PQ):PQ:=fun x m=>Q (.bool (uh p x)) m
noncomputable abbrev cQ (Q:PQ) (l:List (Option MV)):MV→List MO→Prop:=fun v h=>Q v ⟨l,h⟩
noncomputable abbrev cX (X:XM) (l:List (Option MV)):XT:=fun c h=>X c ⟨l,h⟩
noncomputable abbrev DT (K:KT) (n f:Nat) (Q:PQ) (X:XM):List MV→MS→Prop:=fun vs m=>K n f vs (cQ Q m.vars) (cX X m.vars) m.heap
noncomputable abbrev FL (b:Bi) (Q:PQ):List MV→MS→Prop:=fun vs m=>lP b vs Q m
noncomputable abbrev DU (k:Me) (Q:PQ) (x:MV):List MV→MS→Prop:=fun vs m=>cV k x vs Q m
noncomputable abbrev FM (w:WL) (k:Me) (Q:PQ) (X:XM):PQ:=fun x m=>onT (lQ k x m.heap) (w (DU k Q x) X m)
noncomputable abbrev FN (K:KT) (n f:Nat) (Q:PQ) (X:XM) (v:MV):List MV→MS→Prop:=fun vs m=>K n f (v::vs) (cQ Q m.vars) (cX X m.vars) m.heap
noncomputable abbrev cUm (K:KT) (n c f:Nat) (x:List Nat) (w:WL) (Q:PQ) (X:XM):PQ:=fun v m=>onT (xV c x v m.heap) (w (FN K n f Q X v) X m)
noncomputable abbrev DV (c:Nat) (Q:PQ) (m:MS):MV→List MO→Prop:=fun v h=>pK v (Q (.inst c m.heap.length) ⟨m.vars,h⟩)
noncomputable abbrev FO (K:KT) (n c f:Nat) (Q:PQ) (X:XM):List MV→MS→Prop:=fun vs m=>match n with
 | 0=>False
 | k+1=>K k f (.inst c m.heap.length::vs) (DV c Q m) (cX X m.vars) (m.heap++[.attrs []])
noncomputable abbrev DW (c:Nat) (x:List Nat) (Q:PQ):PQ:=fun v m=>ug c x v Q m
noncomputable abbrev DX (Q:PQ) (x:MV):PQ:=fun y m=>Al x y Q m
noncomputable abbrev FP (w:WE) (Q:PQ) (X:XM):PQ:=fun x m=>w (DX Q x) X m
noncomputable abbrev FQ (Q:PQ) (x:MV) (l:Option MV):Option MV→MS→Prop:=fun h m=>DN x l h Q m
noncomputable abbrev FR (w:WO) (Q:PQ) (X:XM) (x:MV):Option MV→MS→Prop:=fun l m=>w (FQ Q x l) X m
noncomputable abbrev cSl (v w:WO) (Q:PQ) (X:XM):PQ:=fun x m=>v (FR w Q X x) X m
noncomputable abbrev DY (Q:PQ):List MV→MS→Prop:=fun vs m=>Q (.ref m.heap.length) (m.push (.list vs))
noncomputable abbrev FS (Q:PQ):List MV→MS→Prop:=fun vs m=>Q (.tup vs) m
noncomputable abbrev Ar (Q:Option MV→MS→Prop):PQ:=fun v m=>Q (some v) m
noncomputable abbrev Bh (w:WE) (P:Option MV→MS→Prop):Bool→MS→Prop:=fun b m=>bt b (w (Ar P) noX m) (P none m)
noncomputable abbrev DZ (t:List Nat) (many:Bool) (i:WB) (w:WE):MV→(Option MV→MS→Prop)→MS→Prop:=fun v P m=>asg t many v (fun m=>i (Bh w P) noX m) m
noncomputable abbrev FT (Q:PQ) (l:List (Option MV)):List MV→MS→Prop:=fun acc m'=>Q (.ref m'.heap.length) ⟨l,m'.heap++[.list acc]⟩
noncomputable abbrev D0 (t:List Nat) (many:Bool) (k:IK) (i:WB) (w:WE) (Q:PQ):List MV→MS→Prop:=fun vs m=>ue (cR k vs m.heap) fun items g=>cq g (DZ t many i w) (FT Q m.vars) items [] m
noncomputable abbrev FU (ts:List TS) (Q:PQ):PQ:=fun x m=>Bg ts m.heap x fun b=>Q (.bool b) m
noncomputable abbrev D1 (Q:List MV→MS→Prop) (v:MV):List MV→MS→Prop:=fun vs m=>Q (v::vs) m
noncomputable abbrev cEs (w:WL) (Q:List MV→MS→Prop) (X:XM):PQ:=fun v m=>w (D1 Q v) X m
noncomputable abbrev FV (w:WE) (Q:PQ) (X:XM):PQ:=cS fun b m=>bt b (w Q X m) (Q (.bool false) m)
noncomputable abbrev cOr (w:WE) (Q:PQ) (X:XM):PQ:=cS fun b m=>bt b (Q (.bool true) m) (w Q X m)
noncomputable abbrev FW (w:WB) (Q:Bool→MS→Prop) (X:XM):PQ:=cS fun b m=>bt b (w Q X m) (Q false m)
mutual
noncomputable def wpE (K:KT)(n:Nat):ME→PQ→XM→MS→Prop
 | .cst v,Q,_,m=>Q v m
 | .glob _ v,Q,_,m=>Q v m
 | .var i,Q,_,m=>match m.get i with
  | some v=>Q v m
  | none=>False
 | .bin op a b,Q,X,m=>wpE K n a (FE (wpE K n b) op Q X) X m
 | .neg a,Q,X,m=>wpE K n a (FF Q) X m
 | .not a,Q,X,m=>wpE K n a (FG Q) X m
 | .and es,Q,X,m=>qR K n es Q X m
 | .or es,Q,X,m=>xW K n es Q X m
 | .cmp op a b,Q,X,m=>wpE K n a (FH (wpE K n b) op Q X) X m
 | .cmp2 op op' a b c,Q,X,m=>wpE K n a (cTw (wpE K n b) (wpE K n c) op op' Q X) X m
 | .isN p a,Q,X,m=>wpE K n a (FK p Q) X m
 | .call f args,Q,X,m=>gk K n args (DT K n f Q X) X m
 | .blt b args,Q,X,m=>gk K n args (FL b Q) X m
 | .mth k o args,Q,X,m=>wpE K n o (FM (gk K n args) k Q X) X m
 | .umth c f x o args,Q,X,m=>wpE K n o (cUm K n c f x (gk K n args) Q X) X m
 | .new c f args,Q,X,m=>gk K n args (FO K n c f Q X) X m
 | .attr c o x,Q,X,m=>wpE K n o (DW c x Q) X m
 | .idx o i,Q,X,m=>wpE K n o (FP (wpE K n i) Q X) X m
 | .sl o lo hi,Q,X,m=>wpE K n o (cSl (wpO K n lo) (wpO K n hi) Q X) X m
 | .list es,Q,X,m=>gk K n es (DY Q) X m
 | .tup es,Q,X,m=>gk K n es (FS Q) X m
 | .dict0,Q,_,m=>Q (.ref m.heap.length) (m.push (.dict []))
 | .comp elt t many k src ifs,Q,X,m=>gk K n src (D0 t many k (jW K n ifs) (wpE K n elt) Q) X m
 | .isi a ts,Q,X,m=>wpE K n a (FU ts Q) X m
noncomputable def gk (K:KT)(n:Nat):List ME→(List MV→MS→Prop)→XM→MS→Prop
 | [],Q,_,m=>Q [] m
 | e::r,Q,X,m=>wpE K n e (cEs (gk K n r) Q X) X m
noncomputable def wpO (K:KT)(n:Nat):Option ME→(Option MV→MS→Prop)→XM→MS→Prop
 | none,Q,_,m=>Q none m
 | some e,Q,X,m=>wpE K n e (Ar Q) X m
noncomputable def qR (K:KT)(n:Nat):List ME→PQ→XM→MS→Prop
 | [],_,_,_=>False
 | [e],Q,X,m=>wpE K n e Q X m
 | e::r,Q,X,m=>wpE K n e (FV (qR K n r) Q X) X m
noncomputable def xW (K:KT)(n:Nat):List ME→PQ→XM→MS→Prop
 | [],_,_,_=>False
 | [e],Q,X,m=>wpE K n e Q X m
 | e::r,Q,X,m=>wpE K n e (cOr (xW K n r) Q X) X m
noncomputable def jW (K:KT)(n:Nat):List ME→(Bool→MS→Prop)→XM→MS→Prop
 | [],Q,_,m=>Q true m
 | e::r,Q,X,m=>wpE K n e (FW (jW K n r) Q X) X m
end
noncomputable abbrev FX (t:List Nat) (many:Bool) (Q:Fl→MS→Prop):PQ:=fun v m=>asg t many v (fun m=>Q .next m) m
noncomputable abbrev Bj (c:Nat) (x:List Nat) (Q:Fl→MS→Prop) (v:MV):PQ:=fun y m=>sf c x y v (Q .next) m
noncomputable abbrev D2 (c:Nat) (x:List Nat) (w:WE) (Q:Fl→MS→Prop) (X:XM):PQ:=fun v m=>w (Bj c x Q v) X m
noncomputable abbrev Bk (Q:Fl→MS→Prop) (v x:MV):PQ:=fun y m=>od x y v (Q .next) m
noncomputable abbrev Bl (w:WE) (Q:Fl→MS→Prop) (X:XM) (v:MV):PQ:=fun x m=>w (Bk Q v x) X m
noncomputable abbrev D3 (u w:WE) (Q:Fl→MS→Prop) (X:XM):PQ:=fun v m=>u (Bl w Q X v) X m
noncomputable abbrev D4 (Q:Fl→MS→Prop):PQ:=fun _ m=>Q .next m
noncomputable abbrev FY (a b:WS) (Q:Fl→MS→Prop) (X:XM):PQ:=cS fun t m=>bt t (a Q X m) (b Q X m)
noncomputable abbrev D5 (t:List Nat) (many:Bool) (w:WS) (X:XM):MV→(Fl→MS→Prop)→MS→Prop:=fun v P m=>asg t many v (fun m=>w P X m) m
noncomputable abbrev FZ (t:List Nat) (many:Bool) (k:IK) (w:WS) (Q:Fl→MS→Prop) (X:XM):List MV→MS→Prop:=fun vs m=>ue (cR k vs m.heap) fun items g=>eX g (D5 t many w X) Q items m
noncomputable abbrev D6 (w:WE) (X:XM):(Bool→MS→Prop)→MS→Prop:=fun P m=>w (cS P) X m
noncomputable abbrev D7 (w:WS) (X:XM):(Fl→MS→Prop)→MS→Prop:=fun P m=>w P X m
noncomputable abbrev F0 (Q:Fl→MS→Prop):PQ:=fun v m=>Q (.ret v) m
noncomputable abbrev D8 (w:WS) (v:Nat) (Q:Fl→MS→Prop):XM:=fun c m=>w (fun f m=>Q f (m.unset v)) noX ((m.push (.exc c)).set v (.ref m.heap.length))
noncomputable abbrev F3 (w:WS) (Q:Fl→MS→Prop) (X:XM):Fl→MS→Prop:=fun f m=>match f with
 | .next=>w Q X m
 | f=>Q f m
mutual
noncomputable def wpS (K:KT)(n:Nat):MSt→(Fl→MS→Prop)→XM→MS→Prop
 | .asg t many e,Q,X,m=>wpE K n e (FX t many Q) X m
 | .setAttr c o x e,Q,X,m=>wpE K n e (D2 c x (wpE K n o) Q X) X m
 | .setIdx o i e,Q,X,m=>wpE K n e (D3 (wpE K n o) (wpE K n i) Q X) X m
 | .expr e,Q,X,m=>wpE K n e (D4 Q) X m
 | .ite c a b,Q,X,m=>wpE K n c (FY (aP K n a) (aP K n b) Q X) X m
 | .for_ t many k src body,Q,X,m=>gk K n src (FZ t many k (aP K n body) Q X) X m
 | .while_ c body,Q,X,m=>∃k,dj (D6 (wpE K n c) X) (D7 (aP K n body) X) Q k m
 | .ret e,Q,X,m=>wpE K n e (F0 Q) X m
 | .cont,Q,_,m=>Q .cont m
 | .raise c,_,X,m=>xK=true∧X c m
 | .try_ body _ v h,Q,X,m=>xK=true∧aP K n body Q (D8 (aP K n h) v Q) m
noncomputable def aP (K:KT)(n:Nat):List MSt→(Fl→MS→Prop)→XM→MS→Prop
 | [],Q,_,m=>Q .next m
 | s::r,Q,X,m=>wpS K n s (F3 (aP K n r) Q X) X m
end
noncomputable abbrev xin (X:XT):XM:=fun c m=>X c m.heap
noncomputable def fin (Q:MV→List MO→Prop):Fl→MS→Prop:=fun f m=>match f with
 | .ret v=>Q v m.heap
 | .next=>Q .none m.heap
 | _=>False
set_option genCtorIdx false in
structure Fn where
 args:Nat
 slots:Nat
 body:List MSt
noncomputable def dm (d:Fn)(vs:List MV)(h:List MO):MS:=⟨vs.map some++List.replicate (d.slots-d.args) none,h⟩
noncomputable def aV (P:Nat→Option Fn)(K:KT):Prop:=
 ∀n f vs Q X h d,P f=some d→vs.length=d.args→aP K n d.body (fin Q) (xin X) (dm d vs h)→K (n+1) f vs Q X h
end Internal
end
section
namespace Internal
noncomputable def D9:Bool:=true
end Internal
end
section
namespace Internal
open PySem PyProof.Rows
noncomputable abbrev mW (items:List Value) (n:Nat):Obj:={ cls:=.type "tuple",dict:=none,data:=.seq items.toArray n,slots:=#[] }
noncomputable abbrev cW (items:List Value) (n:Nat):Obj:={ cls:=.type "list",dict:=none,data:=.seq items.toArray n,slots:=#[] }
noncomputable abbrev GD (es:List DictEntry) (n:Nat):Obj:={ cls:=.type "dict",dict:=none,data:=.dict es.toArray n,slots:=#[] }
noncomputable abbrev jf (C:Addr) (d:Addr):Obj:={ cls:=.ref C,dict:=some d,data:=.plain,slots:=#[] }
set_option genCtorIdx false in
structure Glo where
 prog:Program
 w:World
 base:Heap
 fa:Nat→Option Addr
 ca:Nat→Option Addr
 xa:Nat→Option Addr
 cm:Nat→Str→Option Value
 hf:Nat→Bool
noncomputable def Bm:Value→Bool
 | .type T=>T=="tuple"
 | _=>false
noncomputable def Bn:Value→Bool
 | .ref _=>true
 | _=>false
noncomputable def gJ (c:Value):Data→Bool
 | .seq _ _=>Bm c
 | .plain=>Bn c
 | _=>false
noncomputable def gq (o:Obj):Prop:=gJ o.cls o.data=true
noncomputable def aX (h h':Heap):Prop:=∀a o,h.get? a=some o→gq o→h'.get? a=some o
inductive CK:List (List Nat × Int)→List (Str × Value)→Prop
 | nil:CK [] []
 | cons {k i t es ds}:k.length≤line→CK es ds→CK ((k,i)::es) ((str k,.int i t)::ds)
noncomputable def IsD (o:Obj):Prop:=∃es n,o.data=.dict es n
mutual
inductive Rep (C:Glo)(ρ:List Addr)(h:Heap):MV→Value→Prop
 | none:Rep C ρ h .none .none
 | bool (b):Rep C ρ h (.bool b) (.bool b)
 | int (i t):Rep C ρ h (.int i) (.int i t)
 | str (s t):s.length≤line→Rep C ρ h (.str s) (.str (str s) t)
 | tup {a n xs items}:h.get? a=some (mW items n)→aA C ρ h xs items→xs.length≤line→Rep C ρ h (.tup xs) (.ref a)
 | ref {i a}:ρ[i]?=some a→Rep C ρ h (.ref i) (.ref a)
 | scr {is a items n}:C.base.get? a=some (cW items n)→IntsAre items is→is.length≤line→Rep C ρ h (.scr is) (.ref a)
 | gt {ss a o items n}:C.base.get? a=some o→o.cls=.type "tuple"→o.data=.seq items.toArray n→aA C ρ h (ss.map .str) items→Rep C ρ h (.gt ss) (.ref a)
 | inst {c i a k d}:C.ca c=some k→ρ[i]?=some d→h.get? a=some (jf k d)→Rep C ρ h (.inst c i) (.ref a)
 | cdict {es a kvs}:(a==sysModules)=false→C.base.DictOf (strKind C.prog C.w) a kvs→CK es kvs→Rep C ρ h (.cdict es) (.ref a)
inductive aA (C:Glo)(ρ:List Addr)(h:Heap):List MV→List Value→Prop
 | nil:aA C ρ h [] []
 | cons {x v xs vs}:Rep C ρ h x v→aA C ρ h xs vs→aA C ρ h (x::xs) (v::vs)
end
inductive F4 (C:Glo)(ρ:List Addr)(h:Heap)(xs:List MV)(v:Value):Prop
 | mk (a:Addr) (n:Nat) (items:List Value) (e:v=.ref a) (g:h.get? a=some (mW items n)) (l:aA C ρ h xs items) (z:xs.length≤line)
inductive F5 (C:Glo)(is:List Int)(v:Value):Prop
 | mk (a:Addr) (items:List Value) (n:Nat) (e:v=.ref a) (g:C.base.get? a=some (cW items n)) (l:IntsAre items is) (z:is.length≤line)
inductive RGt (C:Glo)(ρ:List Addr)(h:Heap)(ss:List (List Nat))(v:Value):Prop
 | mk (a:Addr) (o:Obj) (items:List Value) (n:Nat) (e:v=.ref a) (g:C.base.get? a=some o) (g1:o.cls=.type "tuple") (g2:o.data=.seq items.toArray n) (l:aA C ρ h (ss.map .str) items)
inductive Ea (C:Glo)(ρ:List Addr)(h:Heap)(c i:Nat)(v:Value):Prop
 | mk (a k d:Addr) (e:v=.ref a) (h1:C.ca c=some k) (h2:ρ[i]?=some d) (h3:h.get? a=some (jf k d))
inductive RCd (C:Glo)(es:List (List Nat × Int))(v:Value):Prop
 | mk (a:Addr) (kvs:List (Str × Value)) (e:v=.ref a) (hs:(a==sysModules)=false) (dk:C.base.DictOf (strKind C.prog C.w) a kvs) (ck:CK es kvs)
inductive F6 (s:List Nat)(v:Value):Prop
 | mk (t:Tok) (e:v=.str (str s) t) (z:s.length≤line)
inductive F7 (ρ:List Addr)(i:Nat)(v:Value):Prop
 | mk (a:Addr) (e:v=.ref a) (g:ρ[i]?=some a)
inductive Eb (C:Glo)(ρ:List Addr)(h:Heap)(x:MV)(r:List MV)(vs:List Value):Prop
 | mk (v:Value) (ws:List Value) (e:vs=v::ws) (a:Rep C ρ h x v) (b:aA C ρ h r ws)
noncomputable def Ec (C:Glo)(ρ:List Addr)(h:Heap)(x:MV)(v:Value):Prop:=match x with
 | .none=>v=.none
 | .bool b=>v=.bool b
 | .int i=>∃t,v=.int i t
 | .str s=>F6 s v
 | .tup xs=>F4 C ρ h xs v
 | .ref i=>F7 ρ i v
 | .scr is=>F5 C is v
 | .gt ss=>RGt C ρ h ss v
 | .inst c i=>Ea C ρ h c i v
 | .cdict es=>RCd C es v
noncomputable def As (C:Glo)(ρ:List Addr)(h:Heap)(xs:List MV)(vs:List Value):Prop:=match xs with
 | []=>vs=[]
 | x::r=>Eb C ρ h x r vs
theorem Rep.inv {C:Glo}{ρ:List Addr}{h:Heap}{x:MV}{v:Value}(r:Rep C ρ h x v):Ec C ρ h x v:=
 Rep.casesOn (motive_1:=fun x v _=>Ec C ρ h x v) r rfl (fun _=>rfl) (fun _ t=>⟨t,rfl⟩) (fun _ t z=>⟨t,rfl,z⟩) (fun g l z=>⟨_,_,_,rfl,g,l,z⟩) (fun e=>⟨_,rfl,e⟩) (fun g l z=>⟨_,_,_,rfl,g,l,z⟩) (fun g g1 g2 l=>⟨_,_,_,_,rfl,g,g1,g2,l⟩) (fun h1 h2 h3=>⟨_,_,_,rfl,h1,h2,h3⟩) (fun s d c=>⟨_,_,rfl,s,d,c⟩)
theorem aA.inv {C:Glo}{ρ:List Addr}{h:Heap}{xs:List MV}{vs:List Value}(r:aA C ρ h xs vs):As C ρ h xs vs:=
 aA.casesOn (motive_2:=fun xs vs _=>As C ρ h xs vs) r rfl (fun a b=>⟨_,_,rfl,a,b⟩)
theorem aA.one {C:Glo}{ρ:List Addr}{h:Heap}{x:MV}{vs:List Value}(r:aA C ρ h [x] vs):∃v,vs=[v]∧Rep C ρ h x v:=by
 obtain ⟨v,ws,rfl,a,b⟩:=r.inv
 obtain rfl:=b.inv
 exact ⟨v,rfl,a⟩
theorem aA.two {C:Glo}{ρ:List Addr}{h:Heap}{x y:MV}{vs:List Value}(r:aA C ρ h [x,y] vs):∃v w,vs=[v,w]∧Rep C ρ h x v∧Rep C ρ h y w:=by
 obtain ⟨v,ws,rfl,a,b⟩:=r.inv
 obtain ⟨w,rfl,c⟩:=b.one
 exact ⟨v,w,rfl,a,c⟩
theorem fJ {items:List Value}{n:Nat}:gq (mW items n):=rfl
theorem jX {C d:Addr}:gq (jf C d):=rfl
theorem fK {ρ ρ':List Addr}(hp:ρ<+:ρ'){i:Nat}{a:Addr}(h:ρ[i]?=some a):ρ'[i]?=some a:=by
 obtain ⟨t,rfl⟩:=hp
 rw [List.getElem?_append_left (List.getElem?_eq_some_iff.mp h).1];exact h
section
variable {C:Glo}{ρ ρ':List Addr}{h h':Heap}
theorem Rep.up (hs:aX h h')(hp:ρ<+:ρ'){x:MV}{v:Value}(r:Rep C ρ h x v):Rep C ρ' h' x v:=
 Rep.rec (motive_1:=fun x v _=>Rep C ρ' h' x v) (motive_2:=fun x v _=>aA C ρ' h' x v) .none (fun b=>.bool b) (fun i t=>.int i t) (fun s t z=>.str s t z) (fun e _ z l=>.tup (hs _ _ e fJ) l z) (fun e=>.ref (fK hp e)) (fun e l z=>.scr e l z) (fun e1 e2 e3 _ l=>.gt e1 e2 e3 l) (fun e1 e2 e3=>.inst e1 (fK hp e2) (hs _ _ e3 jX)) (fun q e l=>.cdict q e l) .nil (fun _ _ a b=>.cons a b) r
theorem aA.up (hs:aX h h')(hp:ρ<+:ρ'){x:List MV}{v:List Value}(r:aA C ρ h x v):aA C ρ' h' x v:=
 aA.rec (motive_1:=fun x v _=>Rep C ρ' h' x v) (motive_2:=fun x v _=>aA C ρ' h' x v) .none (fun b=>.bool b) (fun i t=>.int i t) (fun s t z=>.str s t z) (fun e _ z l=>.tup (hs _ _ e fJ) l z) (fun e=>.ref (fK hp e)) (fun e l z=>.scr e l z) (fun e1 e2 e3 _ l=>.gt e1 e2 e3 l) (fun e1 e2 e3=>.inst e1 (fK hp e2) (hs _ _ e3 jX)) (fun q e l=>.cdict q e l) .nil (fun _ _ a b=>.cons a b) r
theorem jY {is:List Int}{items:List Value}(r:IntsAre items is):aA C ρ h (is.map .int) items:=by
 induction r with
 | nil=>exact .nil
 | cons n t r ih=>exact .cons (.int n t) ih
theorem aA.length {xs:List MV}{vs:List Value}(r:aA C ρ h xs vs):vs.length=xs.length:=by
 induction xs generalizing vs with
 | nil=>rw [r.inv];rfl
 | cons x xs ih=>
  obtain ⟨v,ws,rfl,a,b⟩:=r.inv
  exact congrArg (·+1) (ih b)
theorem aA.get {xs:List MV}{vs:List Value}(r:aA C ρ h xs vs){i:Nat}{x:MV}(e:xs[i]?=some x):∃v,vs[i]?=some v∧Rep C ρ h x v:=by
 induction xs generalizing vs i with
 | nil=>exact az e
 | cons y xs ih=>
  obtain ⟨v,ws,rfl,a,b⟩:=r.inv
  cases i with
  | zero=>obtain rfl:=Option.some.inj e;exact ⟨v,rfl,a⟩
  | succ i=>exact ih b e
theorem aA.append {xs:List MV}{vs:List Value}{ys:List MV}{ws:List Value}(r:aA C ρ h xs vs)(l:aA C ρ h ys ws):aA C ρ h (xs++ys) (vs++ws):=by
 induction xs generalizing vs with
 | nil=>rw [r.inv];exact l
 | cons x xs ih=>
  obtain ⟨v,us,rfl,a,b⟩:=r.inv
  exact .cons a (ih b)
theorem aA.take {xs:List MV}{vs:List Value}(k:Nat)(r:aA C ρ h xs vs):aA C ρ h (xs.take k) (vs.take k):=by
 induction xs generalizing vs k with
 | nil=>rw [r.inv,List.take_nil,List.take_nil];exact .nil
 | cons x xs ih=>
  obtain ⟨v,us,rfl,a,b⟩:=r.inv
  cases k with
  | zero=>exact .nil
  | succ k=>exact .cons a (ih k b)
theorem aA.drop {xs:List MV}{vs:List Value}(k:Nat)(r:aA C ρ h xs vs):aA C ρ h (xs.drop k) (vs.drop k):=by
 induction xs generalizing vs k with
 | nil=>rw [r.inv,List.drop_nil,List.drop_nil];exact .nil
 | cons x xs ih=>
  obtain ⟨v,us,rfl,a,b⟩:=r.inv
  cases k with
  | zero=>exact .cons a b
  | succ k=>exact ih k b
end
inductive dX (C:Glo)(ρ:List Addr)(h:Heap):List (List Nat × MV)→List (Str × Value)→Prop
 | nil:dX C ρ h [] []
 | cons {k x v es ds}:k.length≤line→Rep C ρ h x v→dX C ρ h es ds→dX C ρ h ((k,x)::es) ((str k,v)::ds)
theorem dX.up {C:Glo}{ρ ρ':List Addr}{h h':Heap}(hs:aX h h')(hp:ρ<+:ρ'){x v}(r:dX C ρ h x v):dX C ρ' h' x v:=by
 induction r with
 | nil=>exact .nil
 | cons z a _ ih=>exact .cons z (a.up hs hp) ih
theorem CK.rep {C:Glo}{ρ:List Addr}{h:Heap}{es kvs}(r:CK es kvs):dX C ρ h (cds es) kvs:=by
 induction r with
 | nil=>exact .nil
 | cons z _ ih=>exact .cons z (.int _ _) ih
inductive Ed (C:Glo)(ρ:List Addr)(h:Heap)(xs:List MV)(a:Addr):Prop
 | mk (items:List Value) (n:Nat) (e:h.get? a=some (cW items n)) (rl:aA C ρ h xs items) (z:xs.length≤line)
inductive Ee (C:Glo)(ρ:List Addr)(h:Heap)(es:List (List Nat × MV))(a:Addr):Prop
 | mk (kvs:List (Str × Value)) (d:h.DictOf (strKind C.prog C.w) a kvs) (rk:dX C ρ h es kvs) (z:es.length≤line)
inductive ui (C:Glo)(ρ:List Addr)(h:Heap)(es:List (List Nat × MV))(a:Addr):Prop
 | mk (mA:Str→Option Value) (n:h.Ns1 a mA) (l:∀k v,bn es k=some v→∃w,mA (str k)=some w∧Rep C ρ h v w) (r:∀k,bn es k=none→mA (str k)=none) (z:es.length≤1000)
inductive Ef (C:Glo)(h:Heap)(c:Nat)(a:Addr):Prop
 | mk (K:Addr) (o:Obj) (vs:Array Value) (h1:C.xa c=some K) (h2:h.get? a=some o) (h3:o.cls=.ref K) (h4:o.data=.fields vs)
noncomputable def jZ (C:Glo)(ρ:List Addr)(h:Heap):MO→Addr→Prop
 | .list xs,a=>Ed C ρ h xs a
 | .dict es,a=>Ee C ρ h es a
 | .attrs es,a=>ui C ρ h es a
 | .exc c,a=>Ef C h c a
structure Hp (C:Glo)(ρ:List Addr)(hp:List MO)(h:Heap):Prop where
 base:C.base.StaysIn h
 len:ρ.length=hp.length
 nodup:ρ.Nodup
 fresh:∀a∈ρ,C.base.get? a=none
 objs:∀(i:Nat) (o:MO) (a:Addr),hp[i]?=some o→ρ[i]?=some a→jZ C ρ h o a
set_option genCtorIdx false in
inductive Loc where
 | nm (L:Addr) (x:Str)
 | cl (c:Addr)
gen_injective_theorems% Loc
set_option genCtorIdx false in
structure Fm where
 env:Env
 A:Around
 W:List Addr
 V:List Addr
 lay:Nat→Option Loc
 frs:List Addr
inductive Eg (C:Glo)(ρ:List Addr)(h:Heap)(L:Addr)(x:Str)(v:MV):Prop
 | mk (f:Str→Option Value) (w:Value) (n:h.Ns L f) (e:f x=some w) (r:Rep C ρ h v w)
inductive Eh (C:Glo)(ρ:List Addr)(h:Heap)(c:Addr)(v:MV):Prop
 | mk (w:Value) (n:h.IsCell c (some w)) (r:Rep C ρ h v w)
noncomputable def Holds (C:Glo)(ρ:List Addr)(h:Heap):Loc→MV→Prop
 | .nm L x,v=>Eg C ρ h L x v
 | .cl c,v=>Eh C ρ h c v
noncomputable def WOk (h:Heap)(a:Addr):Prop:=∃o,h.get? a=some o∧((∃es n,o.data=.dict es n)∨∃v,o.data=.cell v)
noncomputable def Ei (C:Glo)(ρ:List Addr)(h:Heap)(L:Addr):Prop:=L∉ρ∧C.base.get? L=none∧∃o,h.get? L=some o∧IsD o
structure Rel (C:Glo)(F:Fm)(ρ:List Addr)(m:MS)(s:Shared):Prop where
 hp:Hp C ρ m.heap s.heap
 ns:∃f,s.heap.Ns F.env.locals f
 w:∀a∈F.W++F.V,a∉ρ∧C.base.get? a=none∧WOk s.heap a
 vars:∀i v,m.get i=some v→∃l,F.lay i=some l∧Holds C ρ s.heap l v
 cells:∀i c,F.lay i=some (.cl c)→∃v,s.heap.IsCell c v
 out:∀L∈F.frs,Ei C ρ s.heap L
 gens:s.gens=#[]
structure aq (W:List Addr)(ρ:List Addr)(s:Shared)(ρ':List Addr)(s':Shared):Prop where
 pre:ρ<+:ρ'
 new:∀a∈ρ',a∈ρ∨s.heap.get? a=none
 keep:∀a o,s.heap.get? a=some o→a∉ρ→a∉W→s'.heap.get? a=some o∨(IsD o∧∃sl,s'.heap.get? a=some { o with slots:=sl })
 solid:aX s.heap s'.heap
 alive:∀a o,s.heap.get? a=some o→∃o',s'.heap.get? a=some o'
 gens:s'.gens=s.gens
 os:s'.os=s.os
theorem aq.refl (W ρ:List Addr)(s:Shared):aq W ρ s ρ s:=⟨List.prefix_refl _,fun _ h=>.inl h,fun _ _ e _ _=>.inl e,fun _ _ e _=>e,fun _ o e=>⟨o,e⟩,rfl,rfl⟩
theorem aq.trans {W ρ ρ₁ ρ₂:List Addr}{s s₁ s₂:Shared}(x:aq W ρ s ρ₁ s₁)(y:aq W ρ₁ s₁ ρ₂ s₂):aq W ρ s ρ₂ s₂ where
 pre:=x.pre.trans y.pre
 new:=fun a h=>(y.new a h).elim (fun h=>x.new a h) fun h=>.inr (by
  cases e:s.heap.get? a with
  | none=>rfl
  | some o=>obtain ⟨o',e'⟩:=x.alive a o e;exact ba h e')
 keep:=fun a o e h1 h2=>by
  have h1':a∉ρ₁:=fun h=>(x.new a h).elim h1 fun h=>ba h e
  rcases x.keep a o e h1 h2 with e1 | ⟨hc,sl,e1⟩
  ·exact y.keep a o e1 h1' h2
  ·rcases y.keep a _ e1 h1' h2 with e2 | ⟨_,sl2,e2⟩
   ·exact .inr ⟨hc,sl,e2⟩
   ·exact .inr ⟨hc,sl2,e2⟩
 solid:=fun a o e h=>y.solid a o (x.solid a o e h) h
 alive:=fun a o e=>let ⟨o',e'⟩:=x.alive a o e;y.alive a o' e'
 gens:=y.gens.trans x.gens
 os:=y.os.trans x.os
theorem Rep.step {C:Glo}{W ρ ρ':List Addr}{s s':Shared}{x:MV}{v:Value}(r:Rep C ρ s.heap x v)(st:aq W ρ s ρ' s'):Rep C ρ' s'.heap x v:=r.up st.solid st.pre
theorem aA.step {C:Glo}{W ρ ρ':List Addr}{s s':Shared}{x:List MV}{v:List Value}(r:aA C ρ s.heap x v)(st:aq W ρ s ρ' s'):aA C ρ' s'.heap x v:=r.up st.solid st.pre
theorem aq.lack {W ρ ρ':List Addr}{s s':Shared}(x:aq W ρ s ρ' s')(a:Addr)(h:s'.heap.get? a=none):s.heap.get? a=none:=by
 cases e:s.heap.get? a with
 | none=>rfl
 | some o=>obtain ⟨o',e'⟩:=x.alive a o e;exact ba h e'
end Internal
end
section
namespace Internal
open PySem PyProof.Rows
noncomputable def Er (C:Glo)(F:Fm)(X:XM)(ρ:List Addr)(s:Shared)(e:Value)(s':Shared):Prop:=False
theorem Er.back {C:Glo}{F:Fm}{X:XM}{ρ ρ₁:List Addr}{s s₁:Shared}(st:aq F.W ρ s ρ₁ s₁):∀e s',Er C F X ρ₁ s₁ e s'→Er C F X ρ s e s':=fun _ _ h=>h
theorem Er.mono {C:Glo}{F:Fm}{X X':XM}{ρ:List Addr}{s:Shared}(h:∀k m,X k m→X' k m):∀e s',Er C F X ρ s e s'→Er C F X' ρ s e s':=fun _ _ h=>h
theorem Er.no {C:Glo}{F:Fm}{ρ:List Addr}{s s':Shared}{e:Value}{P:Prop}(h:Er C F noX ρ s e s'):P:=False.elim h
end Internal
end
section
namespace Internal
open PySem PyProof.Rows
noncomputable abbrev mod (C:Glo):Model:=model C.prog C.w
inductive Out (C:Glo)(F:Fm)(ρ:List Addr)(s:Shared)(Q:PQ)(v:Value)(s':Shared):Prop
 | mk (ρ':List Addr) (m':MS) (x:MV) (st:aq F.W ρ s ρ' s') (R:Rel C F ρ' m' s') (rx:Rep C ρ' s'.heap x v) (hq:Q x m'):Out C F ρ s Q v s'
theorem Out.back {C:Glo}{F:Fm}{Q:PQ}{ρ ρ₁:List Addr}{s s₁:Shared}(st:aq F.W ρ s ρ₁ s₁):∀v s',Out C F ρ₁ s₁ Q v s'→Out C F ρ s Q v s':=
 fun _ _ ⟨ρ',m',x,a,b,c,d⟩=>⟨ρ',m',x,st.trans a,b,c,d⟩
noncomputable def WPv (C:Glo)(F:Fm)(X:XM)(t:Sem Value)(Q:PQ)(m:MS):Prop:=
 ∀s ρ,Rel C F ρ m s→wpAny (mod C) F.A t (Out C F ρ s Q) (Er C F X ρ s) s
theorem WPv.then {C:Glo}{F:Fm}{X:XM}{t:Sem Value}{Q:PQ}{m:MS}{s:Shared}{ρ:List Addr}{P:Value→Shared→Prop}(h:WPv C F X t Q m)(R:Rel C F ρ m s)
  (k:∀ρ₁ s₁ m₁ x v,aq F.W ρ s ρ₁ s₁→Rel C F ρ₁ m₁ s₁→Rep C ρ₁ s₁.heap x v→Q x m₁→P v s₁):wpAny (mod C) F.A t P (Er C F X ρ s) s:=
 wpAny_mono (h s ρ R) (fun v s₁ ⟨ρ₁,m₁,x,a,b,c,d⟩=>k ρ₁ s₁ m₁ x v a b c d) fun _ _ e=>e
theorem Ej {C:Glo}{F:Fm}{X:XM}{A:Around}{t:Sem Value}{Q:PQ}{ρ ρ₁:List Addr}{s s₁ s₂:Shared}(st:aq F.W ρ s ρ₁ s₁)(h:wpAny (mod C) A t (Out C F ρ₁ s₁ Q) (Er C F X ρ₁ s₁) s₂) :
  wpAny (mod C) A t (Out C F ρ s Q) (Er C F X ρ s) s₂:=wpAny_mono h (Out.back st) (Er.back st)
end Internal
end
section
namespace Internal
open PySem
noncomputable def Loc.addr:Loc→Addr
 | .nm L _=>L
 | .cl c=>c
theorem iP {h:Heap}{a:Addr}{f g:Str→Option Value}(x:h.Ns a f)(y:h.Ns a g):f=g:=by
 obtain ⟨o,es,ep,ho,hd,_,hf⟩:=x
 obtain ⟨o',es',ep',ho',hd',_,hg⟩:=y
 obtain rfl:=same ho ho'
 obtain ⟨rfl,rfl⟩:=Data.dict.inj (hd.symm.trans hd')
 funext n;exact (hf n).symm.trans (hg n)
inductive NsO (h:Heap)(a:Addr):Prop
 | mk (o:Obj) (es:Array DictEntry) (ep:Nat) (ho:h.get? a=some o) (hd:o.data=.dict es ep)
theorem pN {h:Heap}{a:Addr}{f:Str→Option Value}(x:h.Ns a f):NsO h a:=by
 obtain ⟨o,es,ep,ho,hd,_⟩:=x
 exact ⟨o,es,ep,ho,hd⟩
theorem er {h:Heap}{a:Addr}{f:Str→Option Value}{v:Option Value}{P:Prop}(x:h.Ns a f)(y:h.IsCell a v):P:=by
 obtain ⟨o,es,ep,ho,hd⟩:=pN x
 obtain ⟨o',g1,g2⟩:=y
 obtain rfl:=same ho g1
 exact nomatch hd.symm.trans g2
theorem jH {h h':Heap}{a:Addr}{f:Str→Option Value}(x:h.Ns a f)(k:∀o,h.get? a=some o→∃o',h'.get? a=some o'∧o'.data=o.data):h'.Ns a f:=by
 obtain ⟨o,es,ep,ho,hd,r⟩:=x
 obtain ⟨o',ho',hd'⟩:=k o ho
 exact ⟨o',es,ep,ho',hd'.trans hd,r⟩
theorem lS {h h':Heap}{a:Addr}{v:Option Value}(x:h.IsCell a v)(k:∀o,h.get? a=some o→∃o',h'.get? a=some o'∧o'.data=o.data):h'.IsCell a v:=by
 obtain ⟨o,ho,hd⟩:=x
 obtain ⟨o',ho',hd'⟩:=k o ho
 exact ⟨o',ho',hd'.trans hd⟩
section
variable {C:Glo}{F:Fm}{ρ ρ':List Addr}{h h':Heap}{m:MS}{s s':Shared}
noncomputable def jg (h h':Heap)(a:Addr):Prop:=∀o,h.get? a=some o→∃o',h'.get? a=some o'∧o'.data=o.data∧o'.cls=o.cls
noncomputable def lT (h h':Heap)(a:Addr):Prop:=∀o,h.get? a=some o→h'.get? a=some o
theorem lT.d {h h':Heap}{a:Addr}(k:lT h h' a):jg h h' a:=fun o e=>⟨o,k o e,rfl,rfl⟩
theorem jg.e {h h':Heap}{a:Addr}(k:jg h h' a):∀o,h.get? a=some o→∃o',h'.get? a=some o'∧o'.data=o.data:=fun o e=>let ⟨o',x,y,_⟩:=k o e;⟨o',x,y⟩
theorem Holds.up {l:Loc}{v:MV}(x:Holds C ρ h l v)(hs:aX h h')(hp:ρ<+:ρ')(k:jg h h' l.addr):Holds C ρ' h' l v:=by
 cases l with
 | nm L x'=>obtain ⟨f,w,hn,e,r⟩:=x;exact ⟨f,w,jH hn k.e,e,r.up hs hp⟩
 | cl c=>obtain ⟨w,hc,r⟩:=x;exact ⟨w,lS hc k.e,r.up hs hp⟩
theorem jZ.up {o:MO}{a:Addr}(x:jZ C ρ h o a)(hs:aX h h')(hp:ρ<+:ρ')(k:lT h h' a):jZ C ρ' h' o a:=by
 cases o with
 | list xs=>obtain ⟨items,n,e,l,z⟩:=x;exact ⟨items,n,k _ e,l.up hs hp,z⟩
 | dict es=>
  obtain ⟨kvs,⟨o,ds,ep,e,r⟩,l,z⟩:=x
  exact ⟨kvs,⟨o,ds,ep,k _ e,r⟩,l.up hs hp,z⟩
 | attrs es=>
  obtain ⟨mA,n,l,r,z⟩:=x
  exact ⟨mA,n.at fun o e=>k o e,fun key v e=>let ⟨w,h1,h2⟩:=l key v e;⟨w,h1,h2.up hs hp⟩,r,z⟩
 | exc c=>obtain ⟨K,o,vs,h1,h2,h3,h4⟩:=x;exact ⟨K,o,vs,h1,k _ h2,h3,h4⟩
theorem Hp.up {hp:List MO}(x:Hp C ρ hp h)(hs:aX h h')(k:∀a∈ρ,lT h h' a)(hb:C.base.StaysIn h'):Hp C ρ hp h':=
 ⟨hb,x.len,x.nodup,x.fresh,fun i o a e1 e2=>(x.objs i o a e1 e2).up hs (List.prefix_refl _) (k a (List.mem_of_getElem? e2))⟩
theorem Hp.alloc {hp:List MO}(x:Hp C ρ hp h)(hs:aX h h')(k:∀a∈ρ,lT h h' a)(hb:C.base.StaysIn h'){o:MO}{a:Addr}(ha:a∉ρ)(hf:C.base.get? a=none)
  (hr:jZ C (ρ++[a]) h' o a):Hp C (ρ++[a]) (hp++[o]) h':=by
 refine ⟨hb,by simp [x.len],?_,?_,?_⟩
 ·exact List.nodup_append.mpr ⟨x.nodup,by simp,fun b hb c hc=>by simp at hc;subst hc;exact fun e=>ha (e▸hb)⟩
 ·intro b hb
  rcases List.mem_append.mp hb with hb | hb
  ·exact x.fresh b hb
  ·simp at hb;subst hb;exact hf
 ·intro i o' b e1 e2
  rcases Nat.lt_trichotomy i hp.length with hi | hi | hi
  ·rw [List.getElem?_append_left hi] at e1
   rw [List.getElem?_append_left (by rw [x.len];exact hi)] at e2
   exact (x.objs i o' b e1 e2).up hs (List.prefix_append _ _) (k b (List.mem_of_getElem? e2))
  ·subst hi
   rw [List.getElem?_append_right (Nat.le_refl _)] at e1
   rw [←x.len,List.getElem?_append_right (Nat.le_refl _)] at e2
   simp at e1 e2;subst e1;subst e2;exact hr
  ·rw [List.getElem?_eq_none (by simp;exact hi)] at e1;exact az e1
theorem Hp.put {hp:List MO}(x:Hp C ρ hp h)(hs:aX h h'){i:Nat}{a:Addr}(hi:ρ[i]?=some a)(k:∀b∈ρ,b≠a→lT h h' b)(hb:C.base.StaysIn h'){o:MO}
  (hr:jZ C ρ h' o a):Hp C ρ (hp.set i o) h':=by
 refine ⟨hb,by simp [x.len],x.nodup,x.fresh,fun j o' b e1 e2=>?_⟩
 by_cases e:i=j
 ·subst e
  obtain rfl:=same hi e2
  have hlt:i<hp.length:=by rw [←x.len];exact (List.getElem?_eq_some_iff.mp hi).1
  obtain rfl:=Option.some.inj ((List.getElem?_set_self hlt).symm.trans e1)
  exact hr
 ·rw [List.getElem?_set_ne e] at e1
  refine (x.objs j o' b e1 e2).up hs (List.prefix_refl _) (k b (List.mem_of_getElem? e2) fun q=>?_)
  subst q
  have h1:=(List.getElem?_eq_some_iff.mp hi)
  have h2:=(List.getElem?_eq_some_iff.mp e2)
  exact e ((List.getElem_inj x.nodup).mp (h1.2.trans h2.2.symm))
structure aQ (F:Fm):Prop where
 loc:F.env.locals∈F.W
 lay:∀i l,F.lay i=some l→l.addr∈F.W++F.V
 inj:∀i j l,F.lay i=some l→F.lay j=some l→i=j
 kind:F.env.scope.kind=.function
 frs:∃es,F.A.frames=some es∧∀e∈es,e.scope.kind≠.module∧∃L∈F.frs,e.frame=some L
theorem Rel.up {hpN:List MO}(x:Rel C F ρ m s)(ok:aQ F)(hs:aX s.heap s'.heap)(hpre:ρ<+:ρ')(hH:Hp C ρ' hpN s'.heap)(hnew:∀a∈ρ',a∈ρ∨s.heap.get? a=none)
  (hW:∀a∈F.W++F.V,jg s.heap s'.heap a) (ho:∀L∈F.frs,jg s.heap s'.heap L) (hg:s'.gens=s.gens):Rel C F ρ' ⟨m.vars,hpN⟩ s' where
 hp:=hH
 ns:=let ⟨f,hf⟩:=x.ns;⟨f,jH hf (hW _ (List.mem_append_left _ ok.loc)).e⟩
 w:=fun a ha=>by
  obtain ⟨h1,h2,o,h3,h4⟩:=x.w a ha
  obtain ⟨o',e',d',_⟩:=hW a ha o h3
  refine ⟨fun hm=>(hnew a hm).elim h1 fun q=>ba q h3,h2,o',e',by rw [d'];exact h4⟩
 vars:=fun i v e=>let ⟨l,h1,h2⟩:=x.vars i v e;⟨l,h1,h2.up hs hpre (hW _ (ok.lay i l h1))⟩
 cells:=fun i c e=>let ⟨v,h1⟩:=x.cells i c e;⟨v,lS h1 (hW c (ok.lay i _ e)).e⟩
 out:=fun L hL=>by
  obtain ⟨h1,h2,o,h3,es,n,h4⟩:=x.out L hL
  obtain ⟨o',e',d',_⟩:=ho L hL o h3
  exact ⟨fun hm=>(hnew L hm).elim h1 fun q=>ba q h3,h2,o',e',es,n,d'.trans h4⟩
 gens:=hg.trans x.gens
theorem Rel.grow (x:Rel C F ρ m s)(ok:aQ F)(hk:∀a o,s.heap.get? a=some o→s'.heap.get? a=some o)(hg:s'.gens=s.gens)(hos:s'.os=s.os) :
  Rel C F ρ m s'∧aq F.W ρ s ρ s':=
 ⟨x.up ok (fun a o e _=>hk a o e) (List.prefix_refl _) (x.hp.up (fun a o e _=>hk a o e) (fun a _ o e=>hk a o e) fun b o e=>hk b o (x.hp.base b o e)) (fun a h=>.inl h) (fun a _ o e=>⟨o,hk a o e,rfl,rfl⟩)
  (fun L _ o e=>⟨o,hk L o e,rfl,rfl⟩) hg,
  ⟨List.prefix_refl _,fun _ h=>.inl h,fun a o e _ _=>.inl (hk a o e),fun a o e _=>hk a o e,fun a o e=>⟨o,hk a o e⟩,hg,hos⟩⟩
theorem Rel.tok (x:Rel C F ρ m s)(ok:aQ F)(t:Nat):Rel C F ρ m { s with toks:=t }∧aq F.W ρ s ρ { s with toks:=t }:=x.grow ok (fun _ _ e=>e) rfl rfl
theorem bB {h:Heap}{a:Addr}(ha:h.objs.size≤a):h.get? a=none:=by
 cases e:h.get? a with
 | none=>rfl
 | some o=>exact absurd (Heap.lt_size e) (Nat.not_lt.mpr ha)
theorem bM (x:Hp C ρ m.heap s.heap){a:Addr}(ha:s.heap.get? a=none):C.base.get? a=none:=by
 cases e:C.base.get? a with
 | none=>rfl
 | some o=>exact ba ha (x.base a o e)
theorem Hp.there (x:Hp C ρ m.heap s.heap){a:Addr}(ha:a∈ρ):∃o,s.heap.get? a=some o:=by
 obtain ⟨i,hi,rfl⟩:=List.getElem_of_mem ha
 have hi':i<m.heap.length:=by rw [←x.len];exact hi
 have:=x.objs i m.heap[i] ρ[i] (List.getElem?_eq_getElem hi') (List.getElem?_eq_getElem hi)
 cases hm:m.heap[i] with
 | list xs=>rw [hm] at this;obtain ⟨_,_,e,_⟩:=this;exact ⟨_,e⟩
 | dict es=>rw [hm] at this;obtain ⟨_,⟨_,_,_,e,_⟩,_⟩:=this;exact ⟨_,e⟩
 | attrs es=>rw [hm] at this;obtain ⟨_,⟨_,_,_,e,_⟩,_⟩:=this;exact ⟨_,e⟩
 | exc c=>rw [hm] at this;obtain ⟨_,_,_,_,e,_⟩:=this;exact ⟨_,e⟩
theorem Rel.alloc (x:Rel C F ρ m s)(ok:aQ F)(hk:∀a o,s.heap.get? a=some o→s'.heap.get? a=some o)(hg:s'.gens=s.gens)(hos:s'.os=s.os)
  {o:MO}{a:Addr}(ha:s.heap.get? a=none) (hr:jZ C (ρ++[a]) s'.heap o a):Rel C F (ρ++[a]) (m.push o) s'∧aq F.W ρ s (ρ++[a]) s':=by
 have hn:∀b∈ρ++[a],b∈ρ∨s.heap.get? b=none:=fun b hb=>by
  rcases List.mem_append.mp hb with hb | hb
  ·exact .inl hb
  ·simp at hb;subst hb;exact .inr ha
 refine ⟨x.up ok (fun a o e _=>hk a o e) (List.prefix_append _ _) (x.hp.alloc (fun a o e _=>hk a o e) (fun a _ o e=>hk a o e) (fun b o e=>hk b o (x.hp.base b o e)) (fun hm=>?_) (bM x.hp ha) hr) hn
  (fun a _ o e=>⟨o,hk a o e,rfl,rfl⟩) (fun L _ o e=>⟨o,hk L o e,rfl,rfl⟩) hg,⟨List.prefix_append _ _,hn,fun a o e _ _=>.inl (hk a o e),fun a o e _=>hk a o e,fun a o e=>⟨o,hk a o e⟩,hg,hos⟩⟩
 obtain ⟨o',e⟩:=x.hp.there hm
 exact ba ha e
theorem cc {a:Addr}(hk:∀b o,b≠a→h.get? b=some o→h'.get? b=some o)(ha:∀o,h.get? a=some o→¬ gq o):aX h h':=fun b o e hs=>by
 by_cases q:b=a
 ·subst q;exact absurd hs (ha o e)
 ·exact hk b o q e
theorem bN {o:MO}{a:Addr}(x:jZ C ρ h o a):∀ob,h.get? a=some ob→¬ gq ob:=fun ob e hs=>by
 cases o with
 | list xs=>
  obtain ⟨items,n,e',_⟩:=x
  obtain rfl:=same e' e
  exact ff hs
 | dict es=>
  obtain ⟨kvs,⟨o',ds,ep,e',_,hd,_⟩,_⟩:=x
  obtain rfl:=same e' e
  exact ff ((congrArg (gJ o'.cls) hd).symm.trans hs)
 | attrs es=>
  obtain ⟨_,⟨o',ds,ep,e',hd,_⟩,_⟩:=x
  obtain rfl:=same e' e
  exact ff ((congrArg (gJ o'.cls) hd).symm.trans hs)
 | exc c=>
  obtain ⟨_,o',vs,_,e',_,hd⟩:=x
  obtain rfl:=same e' e
  exact ff ((congrArg (gJ o'.cls) hd).symm.trans hs)
theorem gu {a:Addr}(x:WOk h a):∀ob,h.get? a=some ob→¬ gq ob:=fun ob e hs=>by
 obtain ⟨o,e',d⟩:=x
 obtain rfl:=same e' e
 rcases d with ⟨es,k,d⟩ | ⟨v,d⟩
 ·exact ff ((congrArg (gJ o.cls) d).symm.trans hs)
 ·exact ff ((congrArg (gJ o.cls) d).symm.trans hs)
theorem jZ.there {o:MO}{a:Addr}(x:jZ C ρ h o a):∃ob,h.get? a=some ob:=by
 cases o with
 | list xs=>obtain ⟨_,_,e,_⟩:=x;exact ⟨_,e⟩
 | dict es=>obtain ⟨_,⟨_,_,_,e,_⟩,_⟩:=x;exact ⟨_,e⟩
 | attrs es=>obtain ⟨_,⟨_,_,_,e,_⟩,_⟩:=x;exact ⟨_,e⟩
 | exc c=>obtain ⟨_,_,_,_,e,_⟩:=x;exact ⟨_,e⟩
theorem Rel.put (x:Rel C F ρ m s)(ok:aQ F){i:Nat}{a:Addr}(hi:ρ[i]?=some a){o₀ o:MO}(h0:m.heap[i]?=some o₀)(hk:∀b ob,b≠a→s.heap.get? b=some ob→s'.heap.get? b=some ob)(hg:s'.gens=s.gens)(hos:s'.os=s.os)
  (hr:jZ C ρ s'.heap o a):Rel C F ρ (m.put i o) s'∧aq F.W ρ s ρ s':=by
 have ham:a∈ρ:=List.mem_of_getElem? hi
 have hs:aX s.heap s'.heap:=cc hk (bN (x.hp.objs i o₀ a h0 hi))
 have hb:C.base.StaysIn s'.heap:=fun b ob e=>hk b ob (fun q=>ba (x.hp.fresh a ham) (q▸e)) (x.hp.base b ob e)
 refine ⟨x.up ok hs (List.prefix_refl _) (x.hp.put hs hi (fun b hb hne ob e=>hk b ob hne e) hb hr) (fun b h=>.inl h) (fun b hb ob e=>⟨ob,hk b ob (fun q=>(x.w b hb).1 (q▸ham)) e,rfl,rfl⟩)
  (fun L hL ob eb=>⟨ob,hk L ob (fun q=>(x.out L hL).1 (q▸ham)) eb,rfl,rfl⟩) hg,⟨List.prefix_refl _,fun b h=>.inl h,fun b ob e h1 _=>.inl (hk b ob (fun q=>h1 (q▸ham)) e),hs,fun b ob e=>?_,hg,hos⟩⟩
 by_cases q:b=a
 ·subst q;exact hr.there
 ·exact ⟨ob,hk b ob q e⟩
theorem MS.get_at {m:MS}{i:Nat}{v:MV}(h:m.get i=some v):m.vars[i]?=some (some v):=by
 unfold MS.get at h
 cases e:m.vars[i]? with
 | none=>rw [e] at h;exact az h
 | some o=>
  rw [e] at h
  cases o with
  | none=>exact az h
  | some w=>exact congrArg (fun z=>some z) h
theorem MS.get_of {m:MS}{i:Nat}{v:MV}(h:m.vars[i]?=some (some v)):m.get i=some v:=by
 unfold MS.get;rw [h]
theorem MS.get_set (m:MS)(i j:Nat)(v w:MV)(h:(m.set i v).get j=some w):(j=i∧w=v)∨(j≠i∧m.get j=some w):=by
 have h:(m.vars.set i (some v))[j]?=some (some w):=MS.get_at h
 by_cases e:i=j
 ·subst e
  have hlt:i<m.vars.length:=by
   have:=(List.getElem?_eq_some_iff.mp h).1
   rw [List.length_set] at this;exact this
  rw [List.getElem?_set_self hlt] at h
  exact .inl ⟨rfl,(Option.some.inj (Option.some.inj h)).symm⟩
 ·rw [List.getElem?_set_ne e] at h
  exact .inr ⟨fun q=>e q.symm,MS.get_of h⟩
theorem Rel.own (x:Rel C F ρ m s)(ok:aQ F){a:Addr}(ha:a∈F.W)(hsb:Heap.SameBut a s.heap s'.heap)(hg:s'.gens=s.gens)(hos:s'.os=s.os){m':MS}(hm:m'.heap=m.heap)
  (hw:WOk s'.heap a) (hfr:∀o,s.heap.get? a=some o→IsD o→∃o',s'.heap.get? a=some o'∧IsD o') (hns:∃f,s'.heap.Ns F.env.locals f) (hcell:∀v,s.heap.IsCell a v→∃w,s'.heap.IsCell a w)
  (hv:aX s.heap s'.heap→∀i v,m'.get i=some v→∃l,F.lay i=some l∧Holds C ρ s'.heap l v):Rel C F ρ m' s'∧aq F.W ρ s ρ s':=by
 have hk:∀b ob,b≠a→s.heap.get? b=some ob→s'.heap.get? b=some ob:=fun b ob q e=>(hsb.2 b q).trans e
 have hL:=x.w _ (List.mem_append_left _ ha)
 have hs:aX s.heap s'.heap:=cc hk (gu hL.2.2)
 refine ⟨⟨?_,hns,fun b hb=>?_,hv hs,fun i c e=>?_,fun e he=>?_,hg.trans x.gens⟩,⟨List.prefix_refl _,fun b h=>.inl h,fun b ob e h1 h2=>.inl (hk b ob (fun q=>h2 (q▸ha)) e),hs,fun b ob e=>?_,hg,hos⟩⟩
 ·rw [hm]
  exact x.hp.up hs (fun b hb ob e=>hk b ob (fun q=>hL.1 (q▸hb)) e) fun b ob e=>hk b ob (fun q=>ba hL.2.1 (q▸e)) (x.hp.base b ob e)
 ·obtain ⟨h1,h2,o,h3,h4⟩:=x.w b hb
  refine ⟨h1,h2,?_⟩
  by_cases q:b=a
  ·subst q;exact hw
  ·exact ⟨o,hk b o q h3,h4⟩
 ·obtain ⟨v,o,h1,h2⟩:=x.cells i c e
  by_cases q:c=a
  ·subst q;exact hcell v ⟨o,h1,h2⟩
  ·exact ⟨v,o,hk c o q h1,h2⟩
 ·obtain ⟨h1,h2,o,h3,h4⟩:=x.out e he
  refine ⟨h1,h2,?_⟩
  by_cases q:e=a
  ·subst q;exact hfr o h3 h4
  ·exact ⟨o,hk e o q h3,h4⟩
 ·by_cases q:b=a
  ·subst q;obtain ⟨o,e,_⟩:=hw;exact ⟨o,e⟩
  ·exact ⟨ob,hk b ob q e⟩
theorem Rel.setName (x:Rel C F ρ m s)(ok:aQ F){i:Nat}{n:Str}(hi:F.lay i=some (.nm F.env.locals n)){f:Str→Option Value}{v:Value}{w:MV}(hf:s.heap.Ns F.env.locals f)
  (hn:s'.heap.Ns F.env.locals (fun y=>if y=n then some v else f y)) (hsb:Heap.SameBut F.env.locals s.heap s'.heap) (hg:s'.gens=s.gens) (hos:s'.os=s.os) (hr:Rep C ρ s.heap w v) :
  Rel C F ρ (m.set i w) s'∧aq F.W ρ s ρ s':=by
 refine x.own ok ok.loc hsb hg hos rfl ?_ (fun _ _ _=>?_) ⟨_,hn⟩ (fun v hc=>?_) fun hs j u e=>?_
 ·obtain ⟨o,es,ep,ho,hd⟩:=pN hn
  exact ⟨o,ho,.inl ⟨es,ep,hd⟩⟩
 ·obtain ⟨o,es,ep,ho,hd⟩:=pN hn
  exact ⟨o,ho,es,ep,hd⟩
 ·exact er hf hc
 ·rcases MS.get_set m i j w u e with ⟨rfl,rfl⟩ | ⟨hne,e⟩
  ·exact ⟨_,hi,_,v,hn,if_pos rfl,hr.up hs (List.prefix_refl _)⟩
  ·obtain ⟨l,h1,h2⟩:=x.vars j u e
   refine ⟨l,h1,?_⟩
   by_cases q:l.addr=F.env.locals
   ·cases l with
    | nm L y=>
     obtain rfl:L=F.env.locals:=q
     obtain ⟨g,z,g1,g2,g3⟩:=h2
     obtain rfl:=iP g1 hf
     exact ⟨_,z,hn,(if_neg fun q:y=n=>hne (ok.inj j i _ h1 (by rw [q];exact hi))).trans g2,g3.up hs (List.prefix_refl _)⟩
    | cl c=>
     obtain rfl:c=F.env.locals:=q
     obtain ⟨z,hc,_⟩:=h2
     exact er hf hc
   ·exact h2.up hs (List.prefix_refl _) fun o e=>⟨o,(hsb.2 _ q).trans e,rfl,rfl⟩
theorem Rel.setCell (x:Rel C F ρ m s)(ok:aQ F){i:Nat}{c:Addr}(hi:F.lay i=some (.cl c))(hcm:c∈F.W){v₀:Option Value}{v:Value}{w:MV}(h0:s.heap.IsCell c v₀)
  (hn:s'.heap.IsCell c (some v)) (hsb:Heap.SameBut c s.heap s'.heap) (hg:s'.gens=s.gens) (hos:s'.os=s.os) (hr:Rep C ρ s.heap w v) :
  Rel C F ρ (m.set i w) s'∧aq F.W ρ s ρ s':=by
 refine x.own ok hcm hsb hg hos rfl ?_ (fun o e he=>?_) ?_ (fun _ _=>⟨_,hn⟩) fun hs j u e=>?_
 ·obtain ⟨o,ho,hd⟩:=hn
  exact ⟨o,ho,.inr ⟨_,hd⟩⟩
 ·obtain ⟨o',g1,g2⟩:=h0
  obtain ⟨_,_,he⟩:=he
  obtain rfl:=same e g1
  exact nomatch g2.symm.trans he
 ·obtain ⟨f,hf⟩:=x.ns
  exact ⟨f,hf.sameBut hsb fun q=>er hf (q▸h0)⟩
 ·rcases MS.get_set m i j w u e with ⟨rfl,rfl⟩ | ⟨hne,e⟩
  ·exact ⟨_,hi,v,hn,hr.up hs (List.prefix_refl _)⟩
  ·obtain ⟨l,h1,h2⟩:=x.vars j u e
   refine ⟨l,h1,?_⟩
   by_cases q:l.addr=c
   ·cases l with
    | nm L y=>
     obtain rfl:L=c:=q
     obtain ⟨g,z,hg,_⟩:=h2
     exact er hg h0
    | cl c'=>
     obtain rfl:c'=c:=q
     exact absurd (ok.inj j i _ h1 hi) hne
   ·exact h2.up hs (List.prefix_refl _) fun o e=>⟨o,(hsb.2 _ q).trans e,rfl,rfl⟩
end
end Internal
end
section
namespace Internal
open PySem
section
variable {C:Glo}{F:Fm}{X:XM}{ρ:List Addr}{m:MS}{s:Shared}{Q:PQ}{E:Value→Shared→Prop}{A:Around}
theorem j0 {x:Int}(h:dU x):Builtin.Int.intBits x≤64:=by
 unfold dU at h
 refine intBits_le_64 ?_ ?_<;>lia
theorem sj {x y:Int}(h:0<y):x.fdiv y=x / y:=Int.fdiv_eq_ediv_of_nonneg x (Int.le_of_lt h)
theorem sk {x y:Int}(h:0<y):x.fmod y=x % y:=Int.fmod_eq_emod_of_nonneg x (Int.le_of_lt h)
theorem Fq:line=sizeLine:=rfl
theorem bC (R:Rel C F ρ m s)(ok:aQ F){x:MV}{v:Value}{t:Nat}(hr:Rep C ρ s.heap x v)(h:Q x m):Out C F ρ s Q v { s with toks:=t }:=
 let ⟨R',st⟩:=R.tok ok t;⟨ρ,m,x,st,R',hr,h⟩
theorem bS (R:Rel C F ρ m s){x:MV}{v:Value}(hr:Rep C ρ s.heap x v)(h:Q x m):Out C F ρ s Q v s:=⟨ρ,m,x,.refl _ _ _,R,hr,h⟩
theorem mX (R:Rel C F ρ m s)(ok:aQ F){xs:List MV}{vs:List Value}(hr:aA C ρ s.heap xs vs)(hz:xs.length≤line)(h:Q (.tup xs) m){t:Nat} :
  Out C F ρ s Q (.ref s.heap.objs.size) { s with heap:=s.heap.push (mW vs 0),toks:=t }:=by
 obtain ⟨R',st⟩:=R.grow (s':={ s with heap:=s.heap.push (mW vs 0),toks:=t }) ok (fun a o e=>Heap.get?_push_of_some _ e) rfl rfl
 exact ⟨ρ,m,_,st,R',.tup (Heap.get?_push_size _ rfl) (hr.step st) hz,h⟩
theorem jI (R:Rel C F ρ m s)(ok:aQ F){xs:List MV}{vs:List Value}(hr:aA C ρ s.heap xs vs)(hz:xs.length≤line)(h:Q (.ref m.heap.length) (m.push (.list xs))){t:Nat} :
  Out C F ρ s Q (.ref s.heap.objs.size) { s with heap:=s.heap.push (cW vs 0),toks:=t }:=by
 have hk:∀a o,s.heap.get? a=some o→(s.heap.push (cW vs 0)).get? a=some o:=fun a o e=>Heap.get?_push_of_some _ e
 obtain ⟨R',st⟩:=R.alloc (s':={ s with heap:=s.heap.push (cW vs 0),toks:=t }) ok hk rfl rfl (o:=.list xs) (a:=s.heap.objs.size) (bB (Nat.le_refl _))
  ⟨vs,0,Heap.get?_push_size _ rfl,hr.up (fun a o e _=>hk a o e) (List.prefix_append _ _),hz⟩
 refine ⟨_,_,_,st,R',.ref (i:=m.heap.length) ?_,h⟩
 rw [←R.hp.len,List.getElem?_append_right (Nat.le_refl _)];simp
theorem pO (x y:List Nat):str x++str y=str (x++y):=by
 show (⟨x.toArray++y.toArray⟩:Str)=⟨(x++y).toArray⟩
 simp
theorem cf (x:List Nat):(str x).length=x.length:=by simp [Str.length]
theorem Fs (x:List Nat):(str x).cps.toList=x:=by simp
noncomputable def sq:Op→Operator
 | .add=>.Add | .sub=>.Sub | .mul=>.Mult | .fdiv=>.FloorDiv | .mod=>.Mod | .pow=>.Pow
theorem pP (R:Rel C F ρ m s)(ok:aQ F){x y:List MV}{v w:Value}(hx:Rep C ρ s.heap (.tup x) v)(hy:Rep C ρ s.heap (.tup y) w)(h:x.length+y.length≤line∧Q (.tup (x++y)) m) :
  wpAny (mod C) A (binaryOp .Add v w) (Out C F ρ s Q) E s:=by
 obtain ⟨hl,hq⟩:=h
 obtain ⟨t,n,vs,rfl,gx,lx,zx⟩:=hx.inv
 obtain ⟨b,n2,ws,rfl,gy,ly,zy⟩:=hy.inv
 have e:vs.toArray++ws.toArray=(vs++ws).toArray:=by simp
 by_cases hv:vs=[]
 ·subst hv
  obtain rfl:=List.length_eq_zero_iff.mp lx.length.symm
  exact concat_meets ⟨_,gx,rfl⟩ ⟨_,gy,rfl⟩ noFill_tuple_add seq_tuple_add PySem.F.slot_tuple_add PySem.F.entry_tuple_add (PySem.F.args_tuple_add_2 _ _)
   (PyProof.Rows.tuple_addW0 t b ([]:List Value).toArray ws.toArray n n2 none none #[] #[] (by simp)) ⟨gx,gy,bS R hy hq⟩
 ·by_cases hw:ws=[]
  ·subst hw
   obtain rfl:=List.length_eq_zero_iff.mp ly.length.symm
   exact concat_meets ⟨_,gx,rfl⟩ ⟨_,gy,rfl⟩ noFill_tuple_add seq_tuple_add PySem.F.slot_tuple_add PySem.F.entry_tuple_add (PySem.F.args_tuple_add_2 _ _)
    (PyProof.Rows.tuple_addW1 t b vs.toArray ([]:List Value).toArray n n2 none none #[] #[] (by simpa using hv) (by simp)) ⟨gx,gy,bS R hx (by rw [List.append_nil] at hq;exact hq)⟩
  ·refine concat_meets ⟨_,gx,rfl⟩ ⟨_,gy,rfl⟩ noFill_tuple_add seq_tuple_add PySem.F.slot_tuple_add PySem.F.entry_tuple_add (PySem.F.args_tuple_add_2 _ _)
    (PyProof.Rows.tuple_addW2 t b vs.toArray ws.toArray n n2 none none #[] #[] (by simpa using hv) (by simpa using hw) (by rw [List.size_toArray,List.size_toArray,lx.length,ly.length];exact hl)) ⟨gx,gy,?_⟩
   rw [e]
   exact mX R ok (lx.append ly) (by simpa using hl) hq
theorem uj (R:Rel C F ρ m s)(ok:aQ F){op:Op}(hop:op≠.add){x y:Int}{t u:Tok}(h:mS op x y Q m):wpAny (mod C) A (binaryOp (sq op) (.int x t) (.int y u)) (Out C F ρ s Q) E s:=by
 cases op with
 | add=>exact absurd rfl hop
 | sub=>exact PyProof.Rows.sub_int' (bC R ok (.int _ _) h)
 | mul=>exact PyProof.Rows.mul_int (bC R ok (.int _ _) h.2) (h.1.elim (fun h=>.of_left (j0 h)) fun h=>.of_right (j0 h))
 | fdiv=>
  obtain ⟨h1,h⟩:=gV h
  have h1:=of_decide_eq_true h1
  refine PyProof.Rows.floordiv_int (Int.ne_of_gt h1.1) ?_ (.inl (PyProof.noPylong_small (Int.ofNat_lt.mp (by rw [Int.natAbs_of_nonneg (Int.le_of_lt h1.1)];exact h1.2))))
  rw [sj h1.1];exact bC R ok (.int _ _) h
 | mod=>
  obtain ⟨h1,h⟩:=gV h
  have h1:=of_decide_eq_true h1
  refine PyProof.Rows.mod_int' (Int.ne_of_gt h1) ?_
  rw [sk h1];exact bC R ok (.int _ _) h
 | pow=>
  obtain ⟨h1,hq⟩:=gV h
  obtain ⟨rfl,hy⟩:=of_decide_eq_true h1
  exact PyProof.Rows.pow_int_small (by rcases hy with rfl | rfl<;>decide) (by rcases hy with rfl | rfl<;>decide) (by decide) (bC R ok (.int _ _) hq)
theorem fM {f:Int→Int→Prop}{x y:MV}{v w:Value}(hx:Rep C ρ s.heap x v)(hy:Rep C ρ s.heap y w)(h:onI x fun a=>onI y fun b=>f a b):∃a b t u,v=.int a t∧w=.int b u∧f a b:=by
 obtain ⟨a,rfl,h1⟩:=mR h
 obtain ⟨b,rfl,h2⟩:=mR h1
 obtain ⟨t,rfl⟩:=hx.inv
 obtain ⟨u,rfl⟩:=hy.inv
 exact ⟨a,b,t,u,rfl,rfl,h2⟩
theorem Bo {op:Op}{x y:MV}{v w:Value}(hx:Rep C ρ s.heap x v)(hy:Rep C ρ s.heap y w)(h:lO op x y Q m):∃a b t u,v=.int a t∧w=.int b u∧mS op a b Q m:=fM hx hy h
theorem pQ (R:Rel C F ρ m s)(ok:aQ F){a b:List Nat}{t u:Tok}(zx:a.length≤line)(zy:b.length≤line)(h:a.length+b.length≤line∧Q (.str (a++b)) m):wpAny (mod C) A (binaryOp .Add (.str (str a) t) (.str (str b) u)) (Out C F ρ s Q) E s:=by
 refine P.add_str ?_
 rw [cf,cf]
 by_cases ea:a=[]
 ·subst ea;exact bS R (.str b u zy) h.2
 ·by_cases eb:b=[]
  ·subst eb;rw [if_neg (by simpa using ea)];exact bS R (.str a t zx) (by rw [List.append_nil] at h;exact h.2)
  ·rw [if_neg (by simpa using ea),if_neg (by simpa using eb),pO]
   refine ⟨by rw [cf,List.length_append];exact h.1,bC R ok (.str _ _ (by rw [List.length_append];exact h.1)) h.2⟩
theorem oe (R:Rel C F ρ m s)(ok:aQ F){i j:Nat}{v w:Value}(hx:Rep C ρ s.heap (.ref i) v)(hy:Rep C ρ s.heap (.ref j) w)(h:ua (.ref i) (.ref j) Q m):wpAny (mod C) A (binaryOp .Add v w) (Out C F ρ s Q) E s:=by
 obtain ⟨a,rfl,ea⟩:=hx.inv
 obtain ⟨b,rfl,eb⟩:=hy.inv
 obtain ⟨x,e1,h⟩:=bX h
 obtain ⟨y,e2,h1,h2⟩:=bX h
 obtain ⟨ix,nx,gx,lx,zx⟩:=R.hp.objs _ _ _ e1 ea
 obtain ⟨iy,ny,gy,ly,zy⟩:=R.hp.objs _ _ _ e2 eb
 have e:ix.toArray++iy.toArray=(ix++iy).toArray:=List.append_toArray ..
 refine P.add_list gx gy ?_ (by rw [List.size_toArray,List.size_toArray,lx.length,ly.length];exact h1)
 rw [e]
 exact jI R ok (lx.append ly) (by rw [List.length_append];exact h1) h2
theorem Bp (R:Rel C F ρ m s)(ok:aQ F){x y:MV}{v w:Value}(hx:Rep C ρ s.heap x v)(hy:Rep C ρ s.heap y w)(h:ua x y Q m):wpAny (mod C) A (binaryOp (sq .add) v w) (Out C F ρ s Q) E s:=by
 refine Classical.byContradiction fun hn=>?_
 cases x with
 | int a=>
  cases y with
  | int b=>
   obtain ⟨t,rfl⟩:=hx.inv
   obtain ⟨u,rfl⟩:=hy.inv
   exact hn (wpAny_add_int (bC R ok (.int _ _) h))
  | _=>exact h
 | str a=>
  cases y with
  | str b=>
   obtain ⟨t,rfl,zx⟩:=hx.inv
   obtain ⟨u,rfl,zy⟩:=hy.inv
   exact hn (pQ R ok zx zy h)
  | _=>exact h
 | tup a=>
  cases y with
  | tup b=>exact hn (pP R ok hx hy h)
  | _=>exact h
 | ref i=>
  cases y with
  | ref j=>exact hn (oe R ok hx hy h)
  | _=>exact h
 | _=>exact h
end
end Internal
end
section
namespace Internal
open PySem PyProof.Rows
section
variable {C:Glo}{F:Fm}{ρ:List Addr}{m:MS}{s:Shared}{Q:PQ}{E:Value→Shared→Prop}{A:Around}
theorem og (v:Value):∀(n:Nat) (a:Array Value),(List.replicate n #[v]).foldl (fun x y=>x++y) a=a++(List.replicate n v).toArray
 | 0,a=>by simp
 | n+1,a=>by
  show (List.replicate n #[v]).foldl (fun x y=>x++y) (a++#[v])=_
  rw [og v n,Array.append_assoc,List.replicate_succ]
  exact congrArg (a++·) (List.append_toArray [v] (List.replicate n v))
theorem oh {x:MV}{v:Value}{h:Heap}(r:Rep C ρ h x v):∀n,aA C ρ h (List.replicate n x) (List.replicate n v)
 | 0=>.nil
 | n+1=>.cons r (oh r n)
theorem uk (R:Rel C F ρ m s)(ok:aQ F){i:Nat}{x:MV}{v:Value}{k:Int}{u:Tok}(hx:Rep C ρ s.heap (.ref i) v)(hi:m.heap[i]?=some (.list [x]))(hk:0≤k∧k≤1000000)(hq:Q (.ref m.heap.length) (m.push (.list (List.replicate k.toNat x)))):wpAny (mod C) A (binaryOp .Mult v (.int k u)) (Out C F ρ s Q) E s:=by
 obtain ⟨a,rfl,ea⟩:=hx.inv
 obtain ⟨items,n,g,rl,_⟩:=R.hp.objs _ _ _ hi ea
 obtain ⟨w,rfl,rw'⟩:=rl.one
 have hn:k.toNat≤1000000:=Int.toNat_le.mpr hk.2
 have e:(List.replicate (if ([w].toArray).isEmpty=true then 0 else k.toNat) [w].toArray).foldl (fun x y=>x++y) #[]=(List.replicate k.toNat w).toArray:=(og w k.toNat #[]).trans (Array.empty_append ..)
 refine wpAny_binaryOp_repeat_ref (T:="list") (U:="int") (by decide) ⟨_,g,rfl⟩ (fun s'=>typeIs_int s' k u) noFill_list_mul PySem.F.fills_int_mul PySem.F.slot_int_rmul repeat_list PySem.F.slot_int_index.lookup (call_meets PySem.F.slot_int_rmul (typeIs_int s k u) PySem.F.entry_int_rmul (PySem.F.args_int_rmul_2 _ _) (int___rmul___int_list k u a _ n) ⟨g,rfl,⟨_,g,rfl⟩,call_meets PySem.F.slot_list_mul ⟨_,g,rfl⟩ PySem.F.entry_list_mul (PySem.F.args_list_mul_2 _ _) (AutoListH.list___mul___list_int_3 a _ n k u ?_ ?_ ?_) ⟨g,?_⟩⟩)
 ·simp [Builtin.List.listFitsIndex];lia
 ·show ¬ 1 * k.toNat > _
  lia
 ·show ¬ Builtin.List.listTooLong (1 * k.toNat)=true
  simp [Builtin.List.listTooLong,sizeLine];lia
 ·rw [e]
  exact jI R ok (oh rw' _) (by rw [List.length_replicate];exact Nat.le_trans hn (by decide)) hq
theorem Bq (R:Rel C F ρ m s)(ok:aQ F){x y:MV}{v w:Value}(hx:Rep C ρ s.heap x v)(hy:Rep C ρ s.heap y w)(h:Aj x y Q m):wpAny (mod C) A (binaryOp (sq .mul) v w) (Out C F ρ s Q) E s:=by
 cases y with
 | int j=>
  obtain ⟨u,rfl⟩:=hy.inv
  cases x with
  | int i=>
   obtain ⟨t,rfl⟩:=hx.inv
   exact uj R ok (by intro q;cases q) h
  | str s=>
   obtain ⟨t,rfl,_⟩:=hx.inv
   exact ff (show qN=true from h.1)
  | ref i=>
   obtain ⟨xs,hi,h⟩:=bX h
   obtain ⟨v,rfl,_,hk,hq⟩:=jF h
   exact uk R ok hx hi hk hq
  | _=>exact h.elim
 | _=>exact h.elim
end
end Internal
end
section
namespace Internal
open PySem PyProof.Rows
section
variable {C:Glo}{F:Fm}{ρ:List Addr}{m:MS}{s:Shared}{Q:PQ}{E:Value→Shared→Prop}{A:Around}
theorem Br (R:Rel C F ρ m s)(ok:aQ F){op:Op}{x y:MV}{v w:Value}(hx:Rep C ρ s.heap x v)(hy:Rep C ρ s.heap y w)(h:Ak op x y Q m) :
  wpAny (mod C) A (binaryOp (sq op) v w) (Out C F ρ s Q) E s:=by
 have key:op≠.add→lO op x y Q m→wpAny (mod C) A (binaryOp (sq op) v w) (Out C F ρ s Q) E s:=fun hop h=>by
  obtain ⟨a,b,t,u,rfl,rfl,h⟩:=Bo hx hy h
  exact uj R ok hop h
 cases op with
 | add=>exact Bp R ok hx hy h
 | mul=>exact Bq R ok hx hy h
 | sub=>exact key (by intro q;cases q) h
 | fdiv=>exact key (by intro q;cases q) h
 | mod=>exact key (by intro q;cases q) h
 | pow=>exact key (by intro q;cases q) h
end
end Internal
end
section
set_option maxRecDepth 100000
namespace Internal
open PySem PyProof.Rows
theorem qS (n:Nat):dec n=(Nat.toDigits 10 n).map Char.toNat:=by
 show (Nat.repr n).toList.map Char.toNat=_
 rw [Nat.toList_repr]
theorem Ft (n:Nat):dec n≠[]:=fun e=>by
 have h:=toDigits_len_ge 10 n
 rw [←List.length_map (f:=Char.toNat),←qS,e] at h
 exact absurd h (by decide)
theorem mY {i:Int}(h:0≤i∧i<1000000):1≤(dec i).length∧(dec i).length≤6:=by
 obtain ⟨n,rfl⟩:=Int.eq_ofNat_of_zero_le h.1
 have e:(dec n).length=(Nat.repr n).length:=by
  show ((Nat.repr n).toList.map Char.toNat).length=_
  rw [List.length_map,String.length_toList]
 refine ⟨?_,?_⟩
 ·rw [qS,List.length_map]
  exact toDigits_len_ge 10 n
 ·rw [e]
  exact (Nat.length_repr_le_iff (by decide)).mpr (by lia)
theorem xY {i:Int}(h:-1≤i∧i<1000000):(dec i).length≤6:=by
 rcases Int.lt_or_le i 0 with q | q
 ·obtain rfl:i=-1:=by lia
  decide
 ·exact (mY ⟨q,h.2⟩).2
end Internal
end
section
namespace Internal
open PySem
mutual
noncomputable def D.py:D→PyData
 | .none=>.none
 | .bool b=>.bool b
 | .int i=>.int i
 | .str s=>.str (Internal.str s)
 | .list xs=>.list (D.pys xs)
 | .tup xs=>.tuple (D.pys xs)
noncomputable def D.pys:List D→List PyData
 | []=>[]
 | x::xs=>D.py x::D.pys xs
end
theorem j3 {x y:List Nat}:(Internal.str x==Internal.str y)=(x==y):=by
 rw [Bool.eq_iff_iff];simp
mutual
theorem D.eqv_py:∀(d e:D),PyData.eqv d.py e.py=d.deq e
 | .none,e=>by cases e<;>rfl
 | .bool b,e=>by cases e<;>rfl
 | .int b,e=>by cases e<;>rfl
 | .str b,e=>by
  cases e with
  | str c=>exact j3
  | _=>rfl
 | .list xs,e=>by
  cases e with
  | list ys=>exact D.eqvs_py xs ys
  | _=>rfl
 | .tup xs,e=>by
  cases e with
  | tup ys=>exact D.eqvs_py xs ys
  | _=>rfl
theorem D.eqvs_py:∀(d e:List D),PyData.eqvAll (D.pys d) (D.pys e)=D.deqs d e
 | [],[]=>rfl
 | [],_::_=>rfl
 | _::_,[]=>rfl
 | x::xs,y::ys=>by show (PyData.eqv x.py y.py&&PyData.eqvAll (D.pys xs) (D.pys ys))=(x.deq y&&D.deqs xs ys);rw [D.eqv_py x y,D.eqvs_py xs ys]
end
mutual
theorem D.lay_py:∀(d:D),d.ok=true→d.py.canLay0=true
 | .none,_=>rfl
 | .bool b,_=>rfl
 | .int b,_=>rfl
 | .str b,h=>by
  show PyData.strOk (Internal.str b)=true
  simp only [PyData.strOk,List.all_toArray,List.all_eq_true,decide_eq_true_eq]
  intro c hc;have:=of_decide_eq_true (List.all_eq_true.mp h c hc);exact Nat.le_trans this (nb rfl)
 | .list xs,h=>D.lays_py xs h
 | .tup xs,h=>D.lays_py xs h
theorem D.lays_py:∀(d:List D),D.oks d=true→PyData.canLayAll0 (D.pys d)=true
 | [],_=>rfl
 | x::xs,h=>by
  have h:x.ok=true∧D.oks xs=true:=(Bool.and_eq_true_iff ..).mp h
  exact (Bool.and_eq_true_iff ..).mpr ⟨D.lay_py x h.1,D.lays_py xs h.2⟩
end
mutual
theorem D.depth_py:∀(d:D),d.py.depth=d.deep
 | .none=>rfl
 | .bool b=>rfl
 | .int b=>rfl
 | .str b=>rfl
 | .list xs=>by show PyData.depthAll (D.pys xs)+1=D.deeps xs+1;rw [D.depths_py xs]
 | .tup xs=>by show PyData.depthAll (D.pys xs)+1=D.deeps xs+1;rw [D.depths_py xs]
theorem D.depths_py:∀(d:List D),PyData.depthAll (D.pys d)=D.deeps d
 | []=>rfl
 | x::xs=>by show max x.py.depth (PyData.depthAll (D.pys xs))=max x.deep (D.deeps xs);rw [D.depth_py x,D.depths_py xs]
end
section
variable {C:Glo}{F:Fm}{X:XM}{ρ:List Addr}{m:MS}{s:Shared}{E:Value→Shared→Prop}{A:Around}{h:Heap}{hp:List MO}
theorem Rd.both (H:Hp C ρ hp h):(∀{x:MV}{d:D},Rd hp x d→∀v,Rep C ρ h x v→∃as,Reads h v d.py as)∧(∀{x:List MV}{d:List D},Rds hp x d→∀v,aA C ρ h x v→∃as,ReadsAll h v (D.pys d) as):=by
 have k1:∀v,Rep C ρ h .none v→∃as,Reads h v D.none.py as:=fun v r=>by obtain rfl:=r.inv;exact ⟨_,.none⟩
 have k2:∀b v,Rep C ρ h (.bool b) v→∃as,Reads h v (D.bool b).py as:=fun b v r=>by obtain rfl:=r.inv;exact ⟨_,.bool b⟩
 have k3:∀i v,Rep C ρ h (.int i) v→∃as,Reads h v (D.int i).py as:=fun i v r=>by obtain ⟨t,rfl⟩:=r.inv;exact ⟨_,.int i t⟩
 have k4:∀s v,Rep C ρ h (.str s) v→∃as,Reads h v (D.str s).py as:=fun s v r=>by obtain ⟨t,rfl,_⟩:=r.inv;exact ⟨_,.str _ t⟩
 have k5:∀{xs ds},Rds hp xs ds→(∀v,aA C ρ h xs v→∃as,ReadsAll h v (D.pys ds) as)→∀v,Rep C ρ h (.tup xs) v→∃as,Reads h v (D.tup ds).py as:=fun _ ih v r=>by
  obtain ⟨a,n,items,rfl,g,l,_⟩:=r.inv
  obtain ⟨as,q⟩:=ih _ l
  exact ⟨_,.tuple g rfl rfl q⟩
 have k6:∀{i xs ds},hp[i]?=some (.list xs)→Rds hp xs ds→(∀v,aA C ρ h xs v→∃as,ReadsAll h v (D.pys ds) as)→∀v,Rep C ρ h (.ref i) v→∃as,Reads h v (D.list ds).py as:=fun hi _ ih v r=>by
  obtain ⟨a,rfl,e⟩:=r.inv
  obtain ⟨items,n,g,r,_⟩:=H.objs _ _ _ hi e
  obtain ⟨as,q⟩:=ih _ r
  exact ⟨_,.list g rfl rfl q⟩
 have k7:∀v,aA C ρ h [] v→∃as,ReadsAll h v (D.pys []) as:=fun v r=>by obtain rfl:=r.inv;exact ⟨_,.nil⟩
 have k8:∀{x xs d ds},Rd hp x d→Rds hp xs ds→(∀v,Rep C ρ h x v→∃as,Reads h v d.py as)→(∀v,aA C ρ h xs v→∃as,ReadsAll h v (D.pys ds) as)→∀v,aA C ρ h (x::xs) v→∃as,ReadsAll h v (D.pys (d::ds)) as:=fun _ _ i1 i2 v r=>by
  obtain ⟨w,ws,rfl,a,b⟩:=r.inv
  obtain ⟨as,q⟩:=i1 _ a
  obtain ⟨bs,q'⟩:=i2 _ b
  exact ⟨_,.cons q q'⟩
 exact ⟨fun r=>Rd.rec (motive_1:=fun x d _=>∀v,Rep C ρ h x v→∃as,Reads h v d.py as) (motive_2:=fun x d _=>∀v,aA C ρ h x v→∃as,ReadsAll h v (D.pys d) as) k1 k2 k3 k4 k5 k6 k7 k8 r,
  fun r=>Rds.rec (motive_1:=fun x d _=>∀v,Rep C ρ h x v→∃as,Reads h v d.py as) (motive_2:=fun x d _=>∀v,aA C ρ h x v→∃as,ReadsAll h v (D.pys d) as) k1 k2 k3 k4 k5 k6 k7 k8 r⟩
theorem Rd.reads (H:Hp C ρ hp h){x:MV}{d:D}{v:Value}(r:Rd hp x d)(q:Rep C ρ h x v):∃as,Reads h v d.py as:=(Rd.both H).1 r v q
inductive fe (s:Shared)(P:Bool→Prop)(r:Value)(s':Shared):Prop
 | mk (b:Bool) (t:Nat) (hr:r=.bool b) (hs:s'={ s with toks:=t }) (hp:P b):fe s P r s'
theorem Bs (R:Hp C ρ hp s.heap){x y:MV}{v w:Value}(hx:Rep C ρ s.heap x v)(hy:Rep C ρ s.heap y w){d e:D}(hd:Rd hp x d)(he:Rd hp y e)(hk:d.deep≤1000)(h1:d.ok=true)(h2:e.ok=true)
  (hu:A.units+1000<cLine) {P:Bool→Prop}(h:P (d.deq e)):wpAny (mod C) A (compareOp .Eq v w) (fe s P) E s:=by
 obtain ⟨as,ra⟩:=hd.reads R hx
 obtain ⟨bs,rb⟩:=he.reads R hy
 refine SeqAt.compareEq_reads ra rb (d.lay_py h1) (e.lay_py h2) ?_ ⟨_,s.toks,rfl,rfl,?_⟩
 ·rw [D.depth_py,D.depth_py];exact Nat.lt_of_le_of_lt (Nat.add_le_add_left (Nat.le_trans (Nat.min_le_left ..) hk) _) hu
 ·rw [D.eqv_py];exact h
theorem Bt (R:Hp C ρ hp s.heap){x y:MV}{v w:Value}(hx:Rep C ρ s.heap x v)(hy:Rep C ρ s.heap y w){d e:D}(hd:Rd hp x d)(he:Rd hp y e)(hk:d.deep≤1000)(h1:d.ok=true)(h2:e.ok=true)
  (hu:A.units+1000<cLine) {P:Bool→Prop}(h:P (!d.deq e)):wpAny (mod C) A (compareOp .NotEq v w) (fe s P) E s:=by
 obtain ⟨as,ra⟩:=hd.reads R hx
 obtain ⟨bs,rb⟩:=he.reads R hy
 refine SeqAt.compareNe_reads ra rb (d.lay_py h1) (e.lay_py h2) ?_ ⟨_,s.toks,rfl,rfl,?_⟩
 ·rw [D.depth_py,D.depth_py];exact Nat.lt_of_le_of_lt (Nat.add_le_add_left (Nat.le_trans (Nat.min_le_left ..) hk) _) hu
 ·rw [D.eqv_py];exact h
open SeqAt in
theorem ul {x y:MV}{v w:Value}(hx:Rep C ρ s.heap x v)(hy:Rep C ρ s.heap y w){b:Bool}(h:aeq x y=some b):RcAt A s v w b∧RcNeAt A s v w (!b):=by
 refine Classical.byContradiction fun hn=>?_
 have key:∀{c:Bool},RcAt A s v w c∧RcNeAt A s v w (!c)→some c=some b→False:=fun {c} q e=>by obtain rfl:=Option.some.inj e;exact hn q
 clear hn
 cases x with
 | none=>
  cases hx.inv
  cases y with
  | none=>cases hy.inv;exact key ⟨RcAt.none_none,RcNeAt.none_none⟩ h
  | bool q=>cases hy.inv;exact key ⟨RcAt.none_bool q,RcNeAt.none_bool q⟩ h
  | int q=>obtain ⟨t,rfl⟩:=hy.inv;exact key ⟨RcAt.none_int q t,RcNeAt.none_int q t⟩ h
  | str q=>obtain ⟨t,rfl,_⟩:=hy.inv;exact key ⟨RcAt.none_str (Internal.str q) t,RcNeAt.none_str (Internal.str q) t⟩ h
  | _=>exact az h
 | bool p=>
  cases hx.inv
  cases y with
  | none=>cases hy.inv;exact key ⟨RcAt.bool_none p,RcNeAt.bool_none p⟩ h
  | bool q=>cases hy.inv;exact key ⟨RcAt.bool_bool p q,RcNeAt.bool_bool p q⟩ h
  | str q=>obtain ⟨t,rfl,_⟩:=hy.inv;exact key ⟨RcAt.bool_str p (Internal.str q) t,RcNeAt.bool_str p (Internal.str q) t⟩ h
  | _=>exact az h
 | int p=>
  obtain ⟨u,rfl⟩:=hx.inv
  cases y with
  | none=>cases hy.inv;exact key ⟨RcAt.int_none p u,RcNeAt.int_none p u⟩ h
  | int q=>obtain ⟨t,rfl⟩:=hy.inv;exact key ⟨RcAt.int_int p u q t,RcNeAt.int_int p u q t⟩ h
  | str q=>obtain ⟨t,rfl,_⟩:=hy.inv;exact key ⟨RcAt.int_str p u (Internal.str q) t,RcNeAt.int_str p u (Internal.str q) t⟩ h
  | _=>exact az h
 | str p=>
  obtain ⟨u,rfl,_⟩:=hx.inv
  cases y with
  | none=>cases hy.inv;exact key ⟨RcAt.str_none (Internal.str p) u,RcNeAt.str_none (Internal.str p) u⟩ h
  | bool q=>cases hy.inv;exact key ⟨RcAt.str_bool (Internal.str p) u q,RcNeAt.str_bool (Internal.str p) u q⟩ h
  | int q=>obtain ⟨t,rfl⟩:=hy.inv;exact key ⟨RcAt.str_int (Internal.str p) u q t,RcNeAt.str_int (Internal.str p) u q t⟩ h
  | str q=>obtain ⟨t,rfl,_⟩:=hy.inv;exact key ⟨RcAt.str_str (Internal.str p) u (Internal.str q) t,RcNeAt.str_str (Internal.str p) u (Internal.str q) t⟩ ((congrArg some j3).trans h)
  | _=>exact az h
 | _=>exact az h
end
end Internal
end
section
namespace Internal
open PySem
structure GX (C:Glo):Prop where
 nox:∀k,C.xa k=none
end Internal
end
section
namespace Internal
open PySem
structure GOk (C:Glo):Prop where
 sys:(C.base.get? sysModules).isSome=true
 nolimit:C.base.NoLimit
 fns:∀f a,C.fa f=some a→∃o fd,C.base.get? a=some o∧o.data=.func fd
 cls:∀k K,C.ca k=some K→∃N,PyProof.Rows.ClsAt C.base K N (C.cm k)
 quiet:∀k K,C.ca k=some K→C.cm k "__setattr__"=none∧C.cm k "__getattribute__"=none∧C.cm k "__getattr__"=none
 x:GX C
section
variable {C:Glo}{F:Fm}{X:XM}{ρ:List Addr}{m:MS}{s:Shared}{E:Value→Shared→Prop}{A:Around}{h:Heap}{hp:List MO}
theorem mZ (G:GOk C)(H:Hp C ρ hp h){a:Addr}(ha:a∈ρ):(a==sysModules)=false:=by
 have:=H.fresh a ha
 cases e:a==sysModules with
 | false=>rfl
 | true=>
  have:a=sysModules:=by simpa using e
  subst this
  have g:=G.sys
  rw [H.fresh _ ha] at g
  exact ff g
theorem dX.length {es:List (List Nat × MV)}{kvs:List (Str × Value)}(r:dX C ρ h es kvs):kvs.length=es.length:=by
 induction r with
 | nil=>rfl
 | cons _ _ _ ih=>exact congrArg (·+1) ih
theorem jJ {x y:List Nat}(e:str x=str y):x=y:=by
 have:(str x).cps.toList=(str y).cps.toList:=by rw [e]
 simpa using this
theorem dX.get {es:List (List Nat × MV)}{kvs:List (Str × Value)}(r:dX C ρ h es kvs)(k:List Nat):match bn es k with
  | some x=>∃v,valueAt kvs (str k)=some v∧Rep C ρ h x v
  | none=>valueAt kvs (str k)=none:=by
 induction r with
 | nil=>rfl
 | @cons k' x v es ds z a b ih=>
  show match (match k'==k with
   | true=>some x
   | false=>bn es k) with
  | some x=>∃v',valueAt ((str k',v)::ds) (str k)=some v'∧Rep C ρ h x v'
  | none=>valueAt ((str k',v)::ds) (str k)=none
  by_cases e:k'=k
  ·subst e
   rw [beq_self_eq_true]
   exact ⟨v,by simp [valueAt],a⟩
  ·have e2:¬ str k'=str k:=fun q=>e (jJ q)
   have e1:(k'==k)=false:=by simpa using e
   have ev:valueAt ((str k',v)::ds) (str k)=valueAt ds (str k):=by simp [valueAt,e2]
   rw [e1,ev]
   exact ih
end
end Internal
end
section
namespace Internal
open PySem
section
variable {C:Glo}{F:Fm}{X:XM}{ρ:List Addr}{m:MS}{s:Shared}{E:Value→Shared→Prop}{A:Around}{h:Heap}{hp:List MO}
theorem lW (hud:DF=true)(G:GOk C)(R:Hp C ρ hp s.heap){i j:Nat}{v w:Value}(hx:Rep C ρ s.heap (.ref i) v)(hy:Rep C ρ s.heap (.ref j) w){es:List (List Nat × MV)}(hi:hp[i]?=some (.dict es))(hj:hp[j]?=some (.dict es))
  (hl:∀e∈es,∃k,e.2=.int k) (hn:(es.map (·.1)).Nodup) (hu:A.units<cLine) {Q:Value→Shared→Prop} :
  (Q (.bool true) s→wpAny (mod C) A (compareOp .Eq v w) Q E s)∧(Q (.bool false) s→wpAny (mod C) A (compareOp .NotEq v w) Q E s):=absurd hud (by decide)
end
end Internal
end
section
namespace Internal
open PySem
section
variable {C:Glo}{F:Fm}{X:XM}{ρ:List Addr}{m:MS}{s:Shared}{Q:PQ}{E:Value→Shared→Prop}{A:Around}{h:Heap}{hp:List MO}
noncomputable def Ek (hp:List MO)(xs:List MV)(ds:List D):Prop:=match xs with
 | []=>ds=[]
 | x::r=>∃d es,ds=d::es∧Rd hp x d∧Rds hp r es
theorem Rds.inv {xs:List MV}{ds:List D}(r:Rds hp xs ds):Ek hp xs ds:=Rds.casesOn (motive_2:=fun xs ds _=>Ek hp xs ds) r rfl (fun a b=>⟨_,_,rfl,a,b⟩)
theorem Rds.get {xs:List MV}{ds:List D}(r:Rds hp xs ds){j:Nat}{x:MV}(e:xs[j]?=some x):∃d,ds[j]?=some d∧Rd hp x d:=by
 induction xs generalizing ds j with
 | nil=>exact az e
 | cons y xs ih=>
  obtain ⟨d,es,rfl,a,b⟩:=r.inv
  cases j with
  | zero=>obtain rfl:=Option.some.inj e;exact ⟨_,rfl,a⟩
  | succ j=>exact ih b e
theorem Rds.length {xs:List MV}{ds:List D}(r:Rds hp xs ds):ds.length=xs.length:=by
 induction xs generalizing ds with
 | nil=>rw [r.inv];rfl
 | cons y xs ih=>
  obtain ⟨d,es,rfl,a,b⟩:=r.inv
  exact congrArg (·+1) (ih b)
theorem qT:∀{ds:List D},D.oks ds=true→∀{j:Nat}{d:D},ds[j]?=some d→d.ok=true
 | [],_,_,_,e=>by exact az e
 | d::ds,h,0,_,e=>by obtain rfl:=Option.some.inj e;exact ((Bool.and_eq_true_iff ..).mp h).1
 | d::ds,h,i+1,_,e=>qT ((Bool.and_eq_true_iff ..).mp h).2 e
theorem Bu (H:Hp C ρ hp s.heap){x y:MV}{v w:Value}(hx:Rep C ρ s.heap x v)(hy:Rep C ρ s.heap y w){d e:D}(hd:Rd hp x d)(he:Rd hp y e)(hk:e.deep≤1000)(h1:d.ok=true)(h2:e.ok=true)
  (hu:A.units+1000<cLine):SeqAt.EqAt A s v w (d.deq e):=by
 obtain ⟨as,ra⟩:=hd.reads H hx
 obtain ⟨bs,rb⟩:=he.reads H hy
 rw [←D.eqv_py]
 exact SeqAt.eqAt_reads _ _ A s v w _ _ ra rb (d.lay_py h1) (e.lay_py h2) (by rw [D.depth_py,D.depth_py];exact Nat.lt_of_le_of_lt (Nat.add_le_add_left (Nat.le_trans (Nat.min_le_right ..) hk) _) hu)
open Classical in
theorem su (H:Hp C ρ hp s.heap){x:MV}{v:Value}{ys:List MV}{ws:List Value}(hx:Rep C ρ s.heap x v)(hy:aA C ρ s.heap ys ws){d:D}{es:List D}(hd:Rd hp x d)(he:Rds hp ys es)(hk:d.deep≤1000)
  (h1:d.ok=true) (h2:D.oks es=true) (hu:A.units+1000<cLine) :
  ∃e:Value→Bool,(∀y,y∈ws.toArray→SeqAt.EqAt A s y v (e y))∧ws.toArray.any e=es.any (fun e=>e.deq d):=by
 have item:∀j y,ws[j]?=some y→∃e:D,es[j]?=some e∧SeqAt.EqAt A s y v (e.deq d):=fun j y hj=>by
  have hlt:j<ys.length:=by rw [←hy.length];exact (List.getElem?_eq_some_iff.mp hj).1
  obtain ⟨e,e1,e2⟩:=he.get (List.getElem?_eq_getElem hlt)
  obtain ⟨w,w1,w2⟩:=hy.get (List.getElem?_eq_getElem hlt)
  obtain rfl:=same hj w1
  exact ⟨e,e1,Bu H w2 hx e2 hd hk (qT h2 e1) h1 hu⟩
 refine ⟨fun y=>decide (∃(j:Nat) (e:D),ws[j]?=some y∧es[j]?=some e∧e.deq d=true),fun y hy'=>?_,?_⟩
 ·obtain ⟨j,hj⟩:=List.mem_iff_getElem?.mp (by simpa using hy':y∈ws)
  obtain ⟨e,e1,e2⟩:=item j y hj
  show SeqAt.EqAt A s y v (decide (∃(j:Nat) (e:D),ws[j]?=some y∧es[j]?=some e∧e.deq d=true))
  by_cases q:∃(j:Nat) (e:D),ws[j]?=some y∧es[j]?=some e∧e.deq d=true
  ·rw [decide_eq_true q]
   obtain ⟨k,e',k1,k2,k3⟩:=q
   obtain ⟨e'',e3,e4⟩:=item k y k1
   obtain rfl:=same k2 e3
   rw [k3] at e4;exact e4
  ·rw [decide_eq_false q]
   cases b:e.deq d with
   | false=>rw [b] at e2;exact e2
   | true=>exact absurd ⟨j,e,hj,e1,b⟩ q
 ·rw [Bool.eq_iff_iff]
  simp only [List.any_toArray,List.any_eq_true,decide_eq_true_eq]
  constructor
  ·rintro ⟨y,_,j,e,_,h4,h5⟩
   exact ⟨e,List.mem_of_getElem? h4,h5⟩
  ·rintro ⟨e,he',h5⟩
   obtain ⟨j,hj⟩:=List.mem_iff_getElem?.mp he'
   have hlt:j<ws.length:=by rw [hy.length,←he.length];exact (List.getElem?_eq_some_iff.mp hj).1
   exact ⟨ws[j],List.getElem_mem hlt,j,e,List.getElem?_eq_getElem hlt,hj,h5⟩
theorem pR {x:MV}{v:Value}{ys:List MV}{ws:List Value}{a:Addr}(H:Hp C ρ hp s.heap)(hx:Rep C ρ s.heap x v)(l:aA C ρ s.heap ys ws){P:Bool→Prop}(hu:A.units+1001<cLine)(h:InP hp x ys P)
  (k:∀e:Value→Bool,(∀y,y∈ws.toArray→SeqAt.EqAt A.in1 s y v (e y))→fe s P (.bool (ws.toArray.any e)) s→wpAny (mod C) A (compareOp .In v (.ref a)) (fe s P) E s):wpAny (mod C) A (compareOp .In v (.ref a)) (fe s P) E s:=by
 obtain ⟨d,es,hd,he,hk,h1,h2,hq⟩:=h
 obtain ⟨e,e1,e2⟩:=su (A:=A.in1) H hx l hd he hk h1 h2 (by simp;exact hu)
 exact k e e1 ⟨_,s.toks,rfl,rfl,by rw [e2];exact hq⟩
theorem jh (prog:Program)(w:World)(x:Str)(t:Tok):(strKind prog w).is x (.str x t)=true:=by simp [strKind,Value.isStrOf]
theorem qU (H:Hp C ρ hp s.heap){x:MV}{v:Value}{a:Addr}{es:List (List Nat × MV)}{kvs:List (Str × Value)}(hx:Rep C ρ s.heap x v)(hs:(a==sysModules)=false)(dk:s.heap.DictOf (strKind C.prog C.w) a kvs)(rk:dX C ρ s.heap es kvs){P:Bool→Prop}(h:onS x fun s=>P (bn es s).isSome) :
  wpAny (mod C) A (compareOp .In v (.ref a)) (fe s P) E s:=by
 obtain ⟨k,rfl,hq⟩:=mQ h
 obtain ⟨t,rfl,_⟩:=hx.inv
 refine wpAny_in_of (jh C.prog C.w (str k) t) hs dk.mapOf ⟨_,s.toks+1,rfl,rfl,?_⟩
 have:=rk.get k
 cases e:bn es k with
 | none=>rw [e] at this hq;rw [this];exact hq
 | some x=>rw [e] at this hq;obtain ⟨v,e',_⟩:=this;rw [e'];exact hq
theorem Bv (G:GOk C)(H:Hp C ρ hp s.heap){x:MV}{i:Nat}{v w:Value}(hx:Rep C ρ s.heap x v)(hc:Rep C ρ s.heap (.ref i) w){P:Bool→Prop}(hu:A.units+1001<cLine)(h:Ai hp[i]? x P hp) :
  wpAny (mod C) A (compareOp .In v w) (fe s P) E s:=by
 obtain ⟨a,rfl,g⟩:=hc.inv
 obtain ⟨ys,hi,h⟩ | ⟨es,hi,h⟩:=gX h
 ·obtain ⟨items,n,gi,l,_⟩:=H.objs _ _ _ hi g
  exact pR H hx l hu h fun e e1 e2=>SeqAt.in_listAt e ⟨_,gi,rfl,_,rfl⟩ e1 e2
 ·obtain ⟨kvs,dk,rk,_⟩:=H.objs _ _ _ hi g
  exact qU H hx (mZ G H (List.mem_of_getElem? g)) dk rk h
theorem Au (G:GOk C)(H:Hp C ρ hp s.heap){x c:MV}{v w:Value}(hx:Rep C ρ s.heap x v)(hc:Rep C ρ s.heap c w){P:Bool→Prop}(hu:A.units+1001<cLine)(h:Bb x c P hp) :
  wpAny (mod C) A (compareOp .In v w) (fe s P) E s:=by
 refine Classical.byContradiction fun hn=>?_
 cases c with
 | tup ys=>
  obtain ⟨a,n,items,rfl,g,l,_⟩:=hc.inv
  exact hn (pR H hx l hu h fun e e1 e2=>SeqAt.in_tupleAt e ⟨_,g,rfl,_,rfl⟩ e1 e2)
 | gt ss=>
  obtain ⟨a,o,items,n,rfl,g,g1,g2,l⟩:=hc.inv
  exact hn (pR H hx l hu h fun e e1 e2=>SeqAt.in_tupleAt e ⟨_,H.base _ _ g,g1,_,g2⟩ e1 e2)
 | ref i=>exact hn (Bv G H hx hc hu h)
 | cdict es=>
  obtain ⟨a,kvs,rfl,hs,⟨o,ds,ep,e,r⟩,ck⟩:=hc.inv
  exact hn (qU H hx hs ⟨o,ds,ep,H.base _ _ e,r⟩ ck.rep h)
 | str s'=>
  obtain ⟨t,rfl,_⟩:=hc.inv
  obtain ⟨y,rfl,h1⟩:=mQ h
  obtain ⟨a,rfl,h2⟩:=xP h1
  obtain ⟨u,rfl,_⟩:=hx.inv
  refine hn (PySem.P.in_str ⟨_,s.toks,rfl,rfl,?_⟩)
  rw [show _=_ from StrLaws.found_one (str s') a]
  simpa using h2
 | _=>exact h
theorem um {v w:Value}{P:Bool→Prop}(h:wpAny (mod C) A (compareOp .In v w) (fe s (fun b=>P (!b))) E s):wpAny (mod C) A (compareOp .NotIn v w) (fe s P) E s:=fun Γ p hΓ=>by
 have this:Sem.wp _ Γ (contains w v >>= fun b=>pure (Value.bool b)) _ _ p s:=h Γ p hΓ
 show Sem.wp _ Γ (contains w v >>= fun b=>pure (Value.bool (!b))) _ _ p s
 rw [Sem.wp_bind'] at this ⊢
 refine Sem.wp_mono _ Γ _ (fun b p' s' h'=>?_) (fun _ _ _ h'=>h') _ _ this
 obtain ⟨b',t,e1,e2,e3⟩:=h'
 cases e1
 exact ⟨_,t,rfl,e2,e3⟩
noncomputable def gv:Cmp→CmpOp
 | .eq=>.Eq | .ne=>.NotEq | .lt=>.Lt | .le=>.LtE | .gt=>.Gt | .ge=>.GtE | .inn=>.In | .nin=>.NotIn
open SeqAt in
theorem un (H:Hp C ρ hp s.heap){i j:Nat}{xs:List MV}{v w:Value}(hx:Rep C ρ s.heap (.ref i) v)(hy:Rep C ρ s.heap (.ref j) w)(hi:hp[i]?=some (.list xs))(hj:hp[j]?=some (.list []))(hu:A.units<cLine){P:Value→Shared→Prop} :
  (P (.bool xs.isEmpty) s→wpAny (mod C) A (compareOp .Eq v w) P E s)∧(P (.bool (!xs.isEmpty)) s→wpAny (mod C) A (compareOp .NotEq v w) P E s):=by
 obtain ⟨a,rfl,g⟩:=hx.inv
 obtain ⟨b,rfl,g'⟩:=hy.inv
 obtain ⟨items,n,gi,l,_⟩:=H.objs _ _ _ hi g
 obtain ⟨items',n',gi',l',_⟩:=H.objs _ _ _ hj g'
 obtain rfl:=l'.inv
 have hl:s.heap.IsList _ items.toArray:=⟨_,gi,rfl,_,rfl⟩
 have hl':s.heap.IsList _ ([]:List Value).toArray:=⟨_,gi',rfl,_,rfl⟩
 cases xs with
 | nil=>
  obtain rfl:=l.inv
  exact ⟨RcAt.lists (e:=fun _=>true) hl hl' rfl hu (fun j h=>absurd h (Nat.not_lt_zero j)) _ _ _ _,RcNeAt.lists (e:=fun _=>true) hl hl' rfl hu (fun j h=>absurd h (Nat.not_lt_zero j)) _ _ _ _⟩
 | cons x xs=>
  obtain ⟨v,ws,rfl,_⟩:=l.inv
  exact ⟨RcAt.lists_lengths hl hl' rfl hu _ _ _ _,RcNeAt.lists_lengths hl hl' rfl hu _ _ _ _⟩
theorem Bw (G:GOk C)(H:Hp C ρ m.heap s.heap){op:Cmp}{x y:MV}{v w:Value}(hx:Rep C ρ s.heap x v)(hy:Rep C ρ s.heap y w){P:Bool→MS→Prop}(hu:A.units+1001<cLine)(h:jd op x y P m) :
  wpAny (mod C) A (compareOp (gv op) v w) (fe s (fun b=>P b m)) E s:=by
 have hu':A.units<cLine:=Nat.lt_of_le_of_lt (Nat.le_add_right ..) hu
 have hu2:A.units+1000<cLine:=Nat.lt_of_succ_lt hu
 have out:∀{b:Bool},P b m→fe s (fun b=>P b m) (.bool b) s:=fun h=>⟨_,s.toks,rfl,rfl,h⟩
 cases op with
 | eq=>
  obtain ⟨b,e,h⟩ | h:=qP h
  ·exact (ul (A:=A) hx hy e).1 _ _ _ _ (out h)
  ·obtain ⟨d,e,hd,he,hk,h1,h2,hq⟩ | ⟨hud,i,j,es,rfl,rfl,hi,hj,hl,hn,hq⟩ | ⟨i,j,xs,rfl,rfl,hi,hj,hq⟩:=h
   ·exact Bs H hx hy hd he hk h1 h2 hu2 hq
   ·exact (lW hud G H hx hy hi hj hl hn hu').1 (out hq)
   ·exact (un H hx hy hi hj hu').1 (out hq)
 | ne=>
  obtain ⟨b,e,h⟩ | h:=qP h
  ·exact (ul (A:=A) hx hy e).2 _ _ _ _ (out h)
  ·obtain ⟨d,e,hd,he,hk,h1,h2,hq⟩ | ⟨hud,i,j,es,rfl,rfl,hi,hj,hl,hn,hq⟩ | ⟨i,j,xs,rfl,rfl,hi,hj,hq⟩:=h
   ·exact Bt H hx hy hd he hk h1 h2 hu2 hq
   ·exact (lW hud G H hx hy hi hj hl hn hu').2 (out hq)
   ·exact (un H hx hy hi hj hu').2 (out hq)
 | lt=>obtain ⟨a,b,t,u,rfl,rfl,h⟩:=fM hx hy h;exact wpAny_lt_int (out h)
 | le=>obtain ⟨a,b,t,u,rfl,rfl,h⟩:=fM hx hy h;exact PyProof.Rows.le_int (out h)
 | gt=>obtain ⟨a,b,t,u,rfl,rfl,h⟩:=fM hx hy h;exact PyProof.Rows.gt_int (out h)
 | ge=>obtain ⟨a,b,t,u,rfl,rfl,h⟩:=fM hx hy h;exact PyProof.Rows.ge_int (out h)
 | inn=>exact Au G H hx hy hu h
 | nin=>exact um (Au G H hx hy hu h)
end
end Internal
end
section
namespace Internal
open PySem
noncomputable def uo:Pos:=⟨0,0,0,0⟩
noncomputable def noE:Expr:=.Constant .none 0 uo
set_option genCtorIdx false in
structure V where
 tag:Nat
 p:Pos:=uo
 e1:Expr:=noE
 e2:Expr:=noE
 xs:List Expr:=[]
 s:Str:=⟨#[]⟩
 n:Nat:=0
 k:Const:=.none
 o:Operator:=.Add
 u:UnaryOp:=.Not
 b:BoolOp:=.And
 cs:List CmpOp:=[]
 ks:List Keyword:=[]
 o1:Option Expr:=none
 o2:Option Expr:=none
 o3:Option Expr:=none
 os:List (Option Expr):=[]
 gs:List Comprehension:=[]
 sc:Scope:=⟨.function,[],false,false,[]⟩
noncomputable def view:Expr→V
 | .Constant k n p=>{ tag:=0,k,n,p }
 | .Name s p=>{ tag:=1,s,p }
 | .BinOp e1 o e2 p=>{ tag:=2,e1,o,e2,p }
 | .UnaryOp u e1 p=>{ tag:=3,u,e1,p }
 | .BoolOp b xs p=>{ tag:=4,b,xs,p }
 | .Compare e1 cs xs p=>{ tag:=5,e1,cs,xs,p }
 | .Call e1 xs ks p=>{ tag:=6,e1,xs,ks,p }
 | .Attribute e1 s p=>{ tag:=7,e1,s,p }
 | .Subscript e1 e2 p=>{ tag:=8,e1,e2,p }
 | .Slice o1 o2 o3 p=>{ tag:=9,o1,o2,o3,p }
 | .List xs p=>{ tag:=10,xs,p }
 | .Tuple xs n p=>{ tag:=11,xs,n,p }
 | .Dict os xs p=>{ tag:=12,os,xs,p }
 | .ListComp e1 gs sc p=>{ tag:=13,e1,gs,sc,p }
 | _=>{ tag:=14 }
noncomputable def back (v:V):Nat→Option Expr
 | 0=>some (.Constant v.k v.n v.p)
 | 1=>some (.Name v.s v.p)
 | 2=>some (.BinOp v.e1 v.o v.e2 v.p)
 | 3=>some (.UnaryOp v.u v.e1 v.p)
 | 4=>some (.BoolOp v.b v.xs v.p)
 | 5=>some (.Compare v.e1 v.cs v.xs v.p)
 | 6=>some (.Call v.e1 v.xs v.ks v.p)
 | 7=>some (.Attribute v.e1 v.s v.p)
 | 8=>some (.Subscript v.e1 v.e2 v.p)
 | 9=>some (.Slice v.o1 v.o2 v.o3 v.p)
 | 10=>some (.List v.xs v.p)
 | 11=>some (.Tuple v.xs v.n v.p)
 | 12=>some (.Dict v.os v.xs v.p)
 | 13=>some (.ListComp v.e1 v.gs v.sc v.p)
 | _=>none
theorem xZ (e:Expr):∀x,back (view e) (view e).tag=some x→e=x:=by
 cases e<;>first | exact fun x h=>Option.some.inj h | exact fun x h=>nomatch h
theorem bj {e:Expr}{n:Nat}{x:Expr}(h:(view e).tag=n)(hx:back (view e) n=some x):e=x:=xZ e x (h▸hx)
set_option tactic.hygienic true in
theorem bo {α:Type}{n m:Nat}{a b:α}(h:(if n=m then some a else none)=some b):n=m∧a=b:=by
 split at h
 ·rename_i q;exact ⟨q,Option.some.inj h⟩
 ·exact az h
noncomputable def ao {α:Type}(o:Option α)(f:α→Bool):Bool:=match o with
 | some a=>f a
 | none=>false
theorem ae {α:Type}{o:Option α}{f:α→Bool}(h:ao o f=true):∃a,o=some a∧f a=true:=by
 cases o with
 | none=>exact ff h
 | some a=>exact ⟨a,rfl,h⟩
noncomputable def one {α:Type}(xs:List α):Option α:=match xs with
 | [x]=>some x
 | _=>none
theorem bU {α:Type}{xs:List α}{x:α}(h:one xs=some x):xs=[x]:=by
 rcases xs with _ | ⟨a,_ | ⟨b,r⟩⟩
 ·exact az h
 ·exact congrArg (·::[]) (Option.some.inj h)
 ·exact az h
noncomputable def two {α:Type}(xs:List α):Option (α × α):=match xs with
 | [x,y]=>some (x,y)
 | _=>none
theorem m6 {α:Type}{xs:List α}{x y:α}(h:two xs=some (x,y)):xs=[x,y]:=by
 rcases xs with _ | ⟨a,_ | ⟨b,_ | ⟨c,r⟩⟩⟩
 ·exact az h
 ·exact az h
 ·obtain ⟨rfl,rfl⟩:=Prod.mk.inj (Option.some.inj h);rfl
 ·exact az h
noncomputable def m7 (e:Expr):Option Const:=if (view e).tag=0 then some (view e).k else none
noncomputable def dF (e:Expr):Option Str:=if (view e).tag=1 then some (view e).s else none
noncomputable def El (e:Expr):Option (Expr × Operator × Expr):=if (view e).tag=2 then some ((view e).e1,(view e).o,(view e).e2) else none
noncomputable def xUn (e:Expr):Option (UnaryOp × Expr):=if (view e).tag=3 then some ((view e).u,(view e).e1) else none
noncomputable def uq (e:Expr):Option (BoolOp × List Expr):=if (view e).tag=4 then some ((view e).b,(view e).xs) else none
noncomputable def x2 (e:Expr):Option (Expr × List CmpOp × List Expr):=if (view e).tag=5 then some ((view e).e1,(view e).cs,(view e).xs) else none
noncomputable def ur (e:Expr):Option (Expr × List Expr × List Keyword × Pos):=if (view e).tag=6 then some ((view e).e1,(view e).xs,(view e).ks,(view e).p) else none
noncomputable def qV (e:Expr):Option (Expr × Str × Pos):=if (view e).tag=7 then some ((view e).e1,(view e).s,(view e).p) else none
noncomputable def x3 (e:Expr):Option (Expr × Expr):=if (view e).tag=8 then some ((view e).e1,(view e).e2) else none
noncomputable def ut (e:Expr):Option (Option Expr × Option Expr × Option Expr):=if (view e).tag=9 then some ((view e).o1,(view e).o2,(view e).o3) else none
noncomputable def Av (e:Expr):Option (List Expr):=if (view e).tag=10 then some (view e).xs else none
noncomputable def pS (e:Expr):Option (List Expr):=if (view e).tag=11 then some (view e).xs else none
noncomputable def Aw (e:Expr):Option (List (Option Expr) × List Expr):=if (view e).tag=12 then some ((view e).os,(view e).xs) else none
noncomputable def xLC (e:Expr):Option (Expr × List Comprehension × Scope):=if (view e).tag=13 then some ((view e).e1,(view e).gs,(view e).sc) else none
section
variable {e:Expr}
theorem iQ {k:Const}(h:m7 e=some k):∃a b,e=.Constant k a b:=by
 obtain ⟨h1,h2⟩:=bo h
 cases h2
 exact ⟨_,_,bj h1 rfl⟩
theorem bZ {x:Str}(h:dF e=some x):∃p,e=.Name x p:=by
 obtain ⟨h1,h2⟩:=bo h
 cases h2
 exact ⟨_,bj h1 rfl⟩
theorem x4 {l r:Expr}{o:Operator}(h:El e=some (l,o,r)):∃p,e=.BinOp l o r p:=by
 obtain ⟨h1,h2⟩:=bo h
 cases h2
 exact ⟨_,bj h1 rfl⟩
theorem m8 {o:UnaryOp}{x:Expr}(h:xUn e=some (o,x)):∃p,e=.UnaryOp o x p:=by
 obtain ⟨h1,h2⟩:=bo h
 cases h2
 exact ⟨_,bj h1 rfl⟩
theorem g6 {o:BoolOp}{xs:List Expr}(h:uq e=some (o,xs)):∃p,e=.BoolOp o xs p:=by
 obtain ⟨h1,h2⟩:=bo h
 cases h2
 exact ⟨_,bj h1 rfl⟩
theorem g7 {l:Expr}{os:List CmpOp}{rs:List Expr}(h:x2 e=some (l,os,rs)):∃p,e=.Compare l os rs p:=by
 obtain ⟨h1,h2⟩:=bo h
 cases h2
 exact ⟨_,bj h1 rfl⟩
theorem oi {f:Expr}{xs:List Expr}{ks:List Keyword}{p:Pos}(h:ur e=some (f,xs,ks,p)):e=.Call f xs ks p:=by
 obtain ⟨h1,h2⟩:=bo h
 cases h2
 exact bj h1 rfl
theorem j4 {v:Expr}{n:Str}{p:Pos}(h:qV e=some (v,n,p)):e=.Attribute v n p:=by
 obtain ⟨h1,h2⟩:=bo h
 cases h2
 exact bj h1 rfl
theorem m9 {v i:Expr}(h:x3 e=some (v,i)):∃p,e=.Subscript v i p:=by
 obtain ⟨h1,h2⟩:=bo h
 cases h2
 exact ⟨_,bj h1 rfl⟩
theorem sv {l u st:Option Expr}(h:ut e=some (l,u,st)):∃p,e=.Slice l u st p:=by
 obtain ⟨h1,h2⟩:=bo h
 cases h2
 exact ⟨_,bj h1 rfl⟩
theorem uu {xs:List Expr}(h:Av e=some xs):∃p,e=.List xs p:=by
 obtain ⟨h1,h2⟩:=bo h
 cases h2
 exact ⟨_,bj h1 rfl⟩
theorem g8 {xs:List Expr}(h:pS e=some xs):∃k p,e=.Tuple xs k p:=by
 obtain ⟨h1,h2⟩:=bo h
 cases h2
 exact ⟨_,_,bj h1 rfl⟩
theorem uw {ks:List (Option Expr)}{vs:List Expr}(h:Aw e=some (ks,vs)):∃p,e=.Dict ks vs p:=by
 obtain ⟨h1,h2⟩:=bo h
 cases h2
 exact ⟨_,bj h1 rfl⟩
theorem nc {x:Expr}{gs:List Comprehension}{sc:Scope}(h:xLC e=some (x,gs,sc)):∃p,e=.ListComp x gs sc p:=by
 obtain ⟨h1,h2⟩:=bo h
 cases h2
 exact ⟨_,bj h1 rfl⟩
end
noncomputable def xFn (e:Expr):Option (Str × List Expr × Pos):=(ur e).bind fun q=>match q.2.2.1 with
 | []=>(dF q.1).map fun x=>(x,q.2.1,q.2.2.2)
 | _=>none
theorem gK {e:Expr}{x:Str}{xs:List Expr}{p:Pos}(h:xFn e=some (x,xs,p)):∃px,e=.Call (.Name x px) xs [] p:=by
 unfold xFn at h
 obtain ⟨⟨f,ys,ks,q⟩,h1,h2⟩:=Option.bind_eq_some_iff.mp h
 cases ks with
 | nil=>
  obtain ⟨y,h3,h4⟩:=Option.map_eq_some_iff.mp h2
  obtain ⟨px,rfl⟩:=bZ h3
  cases h4
  exact ⟨px,oi h1⟩
 | cons=>exact az h2
noncomputable def lY (e:Expr):Option ((Expr × Str × Pos) × List Expr × Pos):=(ur e).bind fun q=>match q.2.2.1 with
 | []=>(qV q.1).map fun x=>(x,q.2.1,q.2.2.2)
 | _=>none
theorem oj {e:Expr}{v:Expr}{n:Str}{p:Pos}{xs:List Expr}{q:Pos}(h:lY e=some ((v,n,p),xs,q)):e=.Call (.Attribute v n p) xs [] q:=by
 unfold lY at h
 obtain ⟨⟨f,ys,ks,q⟩,h1,h2⟩:=Option.bind_eq_some_iff.mp h
 cases ks with
 | nil=>
  obtain ⟨y,h3,h4⟩:=Option.map_eq_some_iff.mp h2
  cases h4
  have:=j4 h3
  subst this
  exact oi h1
 | cons=>exact az h2
noncomputable def okX (e:Expr):Bool:=(view e).tag != 9&&(view e).tag != 14
theorem cL {e:Expr}{P:Expr→Prop}(h:okX e=true)(h1:∀k a p,P (.Constant k a p))(h2:∀x p,P (.Name x p))(h3:∀l o r p,P (.BinOp l o r p))(h4:∀o x p,P (.UnaryOp o x p))(h5:∀o xs p,P (.BoolOp o xs p))
  (h6:∀l os rs p,P (.Compare l os rs p)) (h7:∀f xs ks p,P (.Call f xs ks p)) (h8:∀v n p,P (.Attribute v n p)) (h9:∀v i p,P (.Subscript v i p)) (h10:∀xs p,P (.List xs p)) (h11:∀xs k p,P (.Tuple xs k p)) (h12:∀ks vs p,P (.Dict ks vs p))
  (h13:∀x gs sc p,P (.ListComp x gs sc p)):P e:=by
 cases e<;>first | exact h1 _ _ _ | exact h2 _ _ | exact h3 _ _ _ _ | exact h4 _ _ _ | exact h5 _ _ _ | exact h6 _ _ _ _ | exact h7 _ _ _ _ | exact h8 _ _ _ | exact h9 _ _ _ | exact h10 _ _ | exact h11 _ _ _ | exact h12 _ _ _ | exact h13 _ _ _ _ | exact ff h
theorem bp {e:Expr}(h:okX e=true)(rest:List Expr)(env:Env):starEach (e::rest) env=(false,eval e env)::starEach rest env:=
 cL (P:=fun e=>starEach (e::rest) env=(false,eval e env)::starEach rest env) h (fun _ _ _=>rfl) (fun _ _=>rfl) (fun _ _ _ _=>rfl) (fun _ _ _=>rfl) (fun _ _ _=>rfl) (fun _ _ _ _=>rfl) (fun _ _ _ _=>rfl) (fun _ _ _=>rfl) (fun _ _ _=>rfl) (fun _ _=>rfl) (fun _ _ _=>rfl) (fun _ _ _=>rfl) (fun _ _ _ _=>rfl)
theorem fN {e:Expr}(h:okX e=true)(op:CmpOp):behindInMarks op e=false:=
 cL (P:=fun e=>behindInMarks op e=false) h (fun _ _ _=>rfl) (fun _ _=>rfl) (fun _ _ _ _=>rfl) (fun _ _ _=>rfl) (fun _ _ _=>rfl) (fun _ _ _ _=>rfl) (fun _ _ _ _=>rfl) (fun _ _ _=>rfl) (fun _ _ _=>rfl) (fun _ _=>rfl) (fun _ _ _=>rfl) (fun _ _ _=>rfl) (fun _ _ _ _=>rfl)
theorem j5 {e:Expr}(h:okX e=true)(env:Env)(x:Value):foldedSetIterable e env x=pure x:=
 cL (P:=fun e=>foldedSetIterable e env x=pure x) h (fun _ _ _=>rfl) (fun _ _=>rfl) (fun _ _ _ _=>rfl) (fun _ _ _=>rfl) (fun _ _ _=>rfl) (fun _ _ _ _=>rfl) (fun _ _ _ _=>rfl) (fun _ _ _=>rfl) (fun _ _ _=>rfl) (fun _ _=>rfl) (fun _ _ _=>rfl) (fun _ _ _=>rfl) (fun _ _ _ _=>rfl)
noncomputable def cT (e:Expr):Bool:=(xLC e).isSome
theorem dY {e:Expr}(h:cT e=false)(h':okX e=true)(t:Option Expr)(l:Nat)(env:Env):swapsWith e t l env=pure false:=
 cL (P:=fun e=>cT e=false→swapsWith e t l env=pure false) h' (fun _ _ _ _=>rfl) (fun _ _ _=>rfl) (fun _ _ _ _ _=>rfl) (fun _ _ _ _=>rfl) (fun _ _ _ _=>rfl) (fun _ _ _ _ _=>rfl) (fun _ _ _ _ _=>rfl) (fun _ _ _ _=>rfl) (fun _ _ _ _=>rfl) (fun _ _ _=>rfl) (fun _ _ _ _=>rfl) (fun _ _ _ _=>rfl) (fun _ _ _ _ h=>by exact tf h) h
noncomputable def j6 (e:Expr):Bool:=(view e).tag==1||(view e).tag==8||(view e).tag==0||(view e).tag==7
theorem lD {o:Expr}(h:j6 o=true)(name:Str)(env:Env):attributeBase o name env (eval o env)=eval o env:=by
 simp only [j6,Bool.or_eq_true,beq_iff_eq] at h
 rcases h with ((h | h) | h) | h
 ·have e:=bj h rfl;rw [e];rfl
 ·have e:=bj h rfl;rw [e];rfl
 ·have e:=bj h rfl;rw [e];rfl
 ·have e:=bj h rfl;rw [e];rfl
end Internal
end
section
namespace Internal
open PySem PyProof.Rows
theorem fO {slice:Expr}{o i:Value}(h:okX slice=true):subscripted slice false o i=operate [o,i] (getItem o i):=
 cL (P:=fun e=>subscripted e false o i=operate [o,i] (getItem o i)) h (fun _ _ _=>rfl) (fun _ _=>rfl) (fun _ _ _ _=>rfl) (fun _ _ _=>rfl) (fun _ _ _=>rfl) (fun _ _ _ _=>rfl) (fun _ _ _ _=>rfl) (fun _ _ _=>rfl) (fun _ _ _=>rfl) (fun _ _=>rfl) (fun _ _ _=>rfl) (fun _ _ _=>rfl) (fun _ _ _ _=>rfl)
theorem fP {l u:Option Expr}{p:Pos}{o i:Value}:subscripted (.Slice l u none p) false o i=operate [i,o] (getItem o i):=rfl
theorem j7 {k:Int}{n j:Nat}(h:gZ k n=some j):seqIndex? k n=some j∧-(n:Int)≤k∧k<n∧(0≤k→j=k.toNat)∧(k<0→j=(k+n).toNat):=by
 unfold gZ at h
 by_cases h0:0≤k
 ·by_cases h1:k<n
  ·simp only [h0,h1,decide_true] at h
   obtain rfl:=Option.some.inj h
   exact ⟨seqIndex_of h0 h1,by lia,h1,fun _=>rfl,fun q=>by lia⟩
  ·simp [h0,h1] at h
 ·by_cases h1:-(n:Int)≤k
  ·simp only [h0,h1,decide_true,decide_false] at h
   obtain rfl:=Option.some.inj h
   exact ⟨seqIndex_neg (z1 (Int.not_le.mp h0) (by simp +arith only)) h1,h1,by lia,fun q=>absurd q h0,fun _=>rfl⟩
  ·simp [h0,h1] at h
set_option tactic.hygienic true in
theorem sx (k:Int)(n:Nat):pend k n=clipAt n k:=by
 unfold pend clipAt
 split
 ·rename_i h
  replace h:=of_decide_eq_true h
  rw [if_neg (Int.not_lt.mpr h),Int.max_eq_right (Int.le_min.mpr ⟨h,Int.natCast_nonneg n⟩)]
  rcases Int.le_total k n with q | q
  ·rw [Int.min_eq_left q,Nat.min_eq_left (Int.toNat_le.mpr q)]
  ·rw [Int.min_eq_right q,Nat.min_eq_right ((Int.le_toNat h).mpr q)];rfl
 ·rename_i h
  replace h:=Int.not_le.mp (of_decide_eq_false h)
  rw [if_pos h,Int.min_eq_left (show k+n≤n from Int.le_trans (Int.add_le_add_right (Int.le_of_lt h) n) (Int.le_of_eq (Int.zero_add _)))]
  rcases Int.le_total 0 (k+n) with q | q
  ·rw [Int.max_eq_right q]
  ·rw [Int.max_eq_left q];exact Int.toNat_of_nonpos q
theorem x5 (k:Int)(n:Nat):clipAt n k≤n:=by unfold clipAt;split<;>exact Int.toNat_le.mpr (Int.max_le.mpr ⟨Int.natCast_nonneg _,Int.min_le_right _ _⟩)
theorem dZ {α:Type}(xs:List α)(lo hi:Option Int):aF xs lo hi=(xs.drop (lo.elim 0 (clipAt xs.length))).take (hi.elim xs.length (clipAt xs.length)-lo.elim 0 (clipAt xs.length)):=by
 unfold aF
 simp only
 rw [List.drop_take]
 cases lo<;>cases hi<;>simp only [Option.elim,sx]
section
variable {C:Glo}{F:Fm}{X:XM}{ρ:List Addr}{m:MS}{s:Shared}{Q:PQ}{E:Value→Shared→Prop}{A:Around}{h:Heap}{hp:List MO}
theorem aA.slice {xs:List MV}{vs:List Value}(l:aA C ρ h xs vs)(lo hi:Option Int):aA C ρ h (aF xs lo hi) (aF vs lo hi):=by
 unfold aF
 have e:=l.length
 cases lo<;>cases hi<;>simp only [e]<;>exact (l.take _).drop _
theorem j8 {α:Type}(xs:List α)(lo hi:Option Int):(aF xs lo hi).length≤xs.length:=by
 rw [dZ,List.length_take,List.length_drop];exact Nat.le_trans (Nat.min_le_right _ _) (Nat.sub_le _ _)
theorem dG {n:Nat}(h:n≤line):(n:Int)<2 ^ 63:=by unfold line at h;lia
theorem ni {α:Type}{xs:List α}{k:Int}{f:α→Prop}(h:dW xs k f):∃j v,gZ k xs.length=some j∧xs[j]?=some v∧f v:=by
 obtain ⟨j,hj,h⟩:=b8 h
 obtain ⟨v,hv,h⟩:=b8 h
 exact ⟨j,v,hj,hv,h⟩
inductive ux (C:Glo)(ρ:List Addr)(s:Shared)(m:MS)(Q:PQ)(v:Value)(s':Shared):Prop
 | mk (y:MV) (tk:Nat) (e:s'={ s with toks:=tk }) (r:Rep C ρ s.heap y v) (h:Q y m)
theorem ux.out {v:Value}{s':Shared}(o:ux C ρ s m Q v s')(R:Rel C F ρ m s)(ok:aQ F):Out C F ρ s Q v s':=by
 obtain ⟨y,tk,rfl,r,h⟩:=o
 exact bC R ok r h
theorem om {xs:List MV}{items:List Value}{a:Addr}{k:Int}{u:Tok}{value slice:Expr}(hns:okX slice=true)(hl:s.heap.IsList a items.toArray)(l:aA C ρ s.heap xs items)(zl:xs.length≤line)(h:dW xs k fun v=>Q v m) :
  wpAny (mod C) A (subscriptTail value slice (.ref a) (.int k u)) (ux C ρ s m Q) E s:=by
 obtain ⟨j,z,hj,hz,h⟩:=ni h
 obtain ⟨e1,e2,e3,e4,e5⟩:=j7 hj
 obtain ⟨r,r1,r2⟩:=l.get hz
 have:=dG zl
 refine tail_any hl.typeIs slot_list_getitem.lookup ?_ (fO hns)
 by_cases h0:0≤k
 ·exact wpAny_getItem_list hl h0 (Int.lt_trans e3 this) (by rw [←e4 h0];exact (List.getElem?_toArray ..).trans r1) ⟨_,s.toks,rfl,r2,h⟩
 ·have h0:k<0:=Int.not_le.mp h0
  exact wpAny_getItem_list_neg hl h0 (by rw [List.size_toArray,l.length];exact e2) (by lia) (by rw [List.size_toArray,l.length,←e5 h0];exact (List.getElem?_toArray ..).trans r1) ⟨_,s.toks,rfl,r2,h⟩
theorem oo {a:Addr}{es:List (List Nat × MV)}{kvs:List (Str × Value)}{k:List Nat}{t:Tok}{value slice:Expr}(hns:okX slice=true)(dk:s.heap.DictOf (strKind C.prog C.w) a kvs)(rk:dX C ρ s.heap es kvs)(h:onO (bn es k) fun v=>Q v m) :
  wpAny (mod C) A (subscriptTail value slice (.ref a) (.str (Internal.str k) t)) (ux C ρ s m Q) E s:=by
 obtain ⟨z,hz,h⟩:=b8 h
 have:=rk.get k
 rw [hz] at this
 obtain ⟨v,e,r⟩:=this
 exact tail_any dk.typeIs slot_dict_getitem.lookup (wpAny_getItem_of (jh C.prog C.w (Internal.str k) t) dk.mapOf e ⟨_,_,rfl,r,h⟩) (fO hns)
theorem Bx (G:GOk C)(R:Rel C F ρ m s){x y:MV}{v w:Value}(hx:Rep C ρ s.heap x v)(hy:Rep C ρ s.heap y w){value slice:Expr}(hns:okX slice=true)(h:Al x y Q m) :
  wpAny (mod C) A (subscriptTail value slice v w) (ux C ρ s m Q) E s:=by
 refine Classical.byContradiction fun hn=>?_
 cases y with
 | int k=>
  obtain ⟨u,rfl⟩:=hy.inv
  cases x with
  | tup xs=>
   obtain ⟨a,n,items,rfl,g,l,zl⟩:=hx.inv
   obtain ⟨j,z,hj,hz,h⟩:=ni h
   obtain ⟨e1,e2,e3,_⟩:=j7 hj
   obtain ⟨r,r1,r2⟩:=l.get hz
   have:=dG zl
   refine hn (tail_any ⟨_,g,rfl⟩ slot_tuple_getitem.lookup (PySem.P.getItem_tuple g (by lia) (by lia) ?_ ((List.getElem?_toArray ..).trans r1) ⟨_,s.toks,rfl,r2,h⟩) (fO hns))
   rw [List.size_toArray,l.length];exact e1
  | str xs=>
   obtain ⟨t,rfl,zl⟩:=hx.inv
   obtain ⟨j,z,hj,hz,h⟩:=ni h
   obtain ⟨e1,e2,e3,_⟩:=j7 hj
   have:=dG zl
   refine hn (tail_any (T:="str") (typeIs_str s (Internal.str xs) t) slot_str_getitem.lookup (PySem.P.getItem_str ?_ ?_ ⟨_,_,rfl,.str _ _ (by simp [line]),h⟩) (fO hns))
   ·simp only [Bool.or_eq_false_iff,decide_eq_false_iff_not];lia
   ·rw [cf,e1];exact (List.getElem?_toArray ..).trans hz
  | ref i=>
   obtain ⟨a,rfl,g⟩:=hx.inv
   obtain ⟨xs,hi,h⟩:=bX h
   obtain ⟨items,n,gi,l,zl⟩:=R.hp.objs _ _ _ hi g
   exact hn (om hns ⟨_,gi,rfl,_,rfl⟩ l zl h)
  | scr xs=>
   obtain ⟨la,items,n,rfl,g,l,zl⟩:=hx.inv
   refine hn (om (xs:=xs.map .int) hns ⟨_,R.hp.base _ _ g,rfl,_,rfl⟩ (jY l) (by rw [List.length_map];exact zl) ?_)
   obtain ⟨j,z,hj,hz,h⟩:=ni h
   show onO (gZ k (xs.map MV.int).length) _
   rw [List.length_map,hj]
   show onO (xs.map MV.int)[j]? _
   rw [List.getElem?_map,hz]
   exact h
  | _=>exact h
 | str k=>
  obtain ⟨t,rfl,_⟩:=hy.inv
  cases x with
  | ref i=>
   obtain ⟨a,rfl,g⟩:=hx.inv
   obtain ⟨es,hi,h⟩:=n5 h
   obtain ⟨kvs,dk,rk,zk⟩:=R.hp.objs _ _ _ hi g
   exact hn (oo hns dk rk h)
  | cdict es=>
   obtain ⟨a,kvs,rfl,hs,⟨o,ds,ep,e,r⟩,ck⟩:=hx.inv
   exact hn (oo hns ⟨o,ds,ep,R.hp.base _ _ e,r⟩ ck.rep h)
  | _=>exact h
 | _=>exact h
end
end Internal
end
section
namespace Internal
open PySem PyProof.Rows
section
variable {prog:Program}{w:World}{A:Around}{E:Value→Shared→Prop}{s:Shared}
theorem oq {a n:Nat}(ha:n<a):Builtin.Slice.sliceAdjust (some (a:Int)) none 1 (n:Int)=((n:Int),(n:Int)):=by
 unfold Builtin.Slice.sliceAdjust
 have h1:¬ ((1:Int)<0):=by lia
 have h2:¬ ((a:Int)<0):=by lia
 simp only [h1,h2,if_false]
 congr 1
 lia
theorem ot (n:Nat):Builtin.Slice.slicePlaces (n:Int) (n:Int) 1=0:=by
 unfold Builtin.Slice.slicePlaces
 have h1:(1:Int) > 0:=by lia
 simp only [h1,if_true,Int.ediv_one]
 split<;>lia
theorem nj {sl:Addr}{a n:Nat}{u:Tok}{Q:Int × Int × Nat→Shared→Prop}(hs:s.heap.IsSliceOf sl (.int a u) .none .none)(ha:n<a)(h:Q ((n:Int),1,0) s) :
  wpAny (model prog w) A (Builtin.Slice.sliceApplied (.ref sl) (pure (n:Int))) Q E s:=by
 obtain ⟨os,hos,hcs,hds⟩:=id hs
 unfold Builtin.Slice.sliceApplied Builtin.Slice.sliceFields
 refine wpAny_bind (wpAny_bind (wpAny_field hos hds (x:=.int a u) rfl (wpAny_bind (wpAny_field hos hds (x:=.none) rfl (wpAny_bind (wpAny_field hos hds (x:=.none) rfl (wpAny_pure ?_)))))))
 refine wpAny_bind (slicePart_none ?_)
 show wpAny _ _ (if ((1:Int)==0)=true then _ else _) _ _ s
 rw [if_neg (by decide)]
 refine wpAny_bind (slicePart_int (wpAny_bind (slicePart_none (wpAny_bind (wpAny_pure ?_)))))
 show wpAny _ _ (match Builtin.Slice.sliceAdjust (some (a:Int)) none 1 (n:Int) with | (lo,hi)=>pure (lo,(1:Int),Builtin.Slice.slicePlaces lo hi 1)) _ _ s
 rw [oq ha]
 show wpAny _ _ (pure ((n:Int),(1:Int),Builtin.Slice.slicePlaces (n:Int) (n:Int) 1)) _ _ s
 rw [ot]
 exact wpAny_pure h
theorem sD {t sl:Addr}{items:Array Value}{a:Nat}{u:Tok}{Q:Value→Shared→Prop}(ht:IsTup s.heap t items)(hs:s.heap.IsSliceOf sl (.int a u) .none .none)(h1:1≤items.size)(ha:items.size<a)
  (h:Q (.ref s.heap.objs.size) { s with heap:=s.heap.push { cls:=.type "tuple",data:=.seq #[] } }):wpAny (model prog w) A (getItem (.ref t) (.ref sl)) Q E s:=by
 obtain ⟨os,hos,hcs,hds⟩:=id hs
 have hTs:s.TypeIs (.ref sl) "slice":=⟨os,hos,hcs⟩
 unfold getItem
 try with_reducible refine wpAny_holding ?_
 first | refine wpAny_bind (wpAny_pure ?_) | skip
 refine wpAny_bind (wpAny_sequenceKey ht.typeIs (by decide) ?_)
 refine wpAny_bind (wpAny_callSpecial?_slot (name:=Str.ofString "__getitem__") ht.typeIs slot_tuple_getitem
  (wpAny_call_entry slot_tuple_getitem ht.typeIs entry_tuple_getitem ?_ (args_tuple_getitem _ _)))
 show wpAny _ _ (Builtin.Tuple.tupleItemsOf (.ref t) >>= _) _ _ s
 refine wpAny_bind (tupleItemsOf_ ht ?_)
 refine wpAny_bind (wpAny_typeOf hTs ?_)
 rw [if_pos (by decide)]
 refine wpAny_bind (nj hs ha ?_)
 have hno:¬ (((items.size:Int)==0&&(1:Int)==1&&0==items.size)=true):=by
  have:((items.size:Int)==0)=false:=by rw [beq_eq_false_iff_ne];lia
  rw [this];simp
 show wpAny _ _ (if ((items.size:Int)==0&&(1:Int)==1&&0==items.size)=true then _ else _) _ _ s
 rw [if_neg hno]
 first
  | exact wpAny_bind (m:=Builtin.Tuple.tupleExact _) (wpAny_newObj_type (wpAny_pure ⟨_,rfl,wpAny_pure h⟩) (Nat.zero_le _))
  | exact wpAny_bind (m:=Builtin.Tuple.tupleExact _) (wpAny_newObj_type (wpAny_bind (wpAny_pure (wpAny_pure ⟨_,rfl,wpAny_pure h⟩))) (Nat.zero_le _))
  | exact wpAny_bind (wpAny_bind (m:=Builtin.Tuple.tupleExact _) (wpAny_newObj_type (wpAny_pure (wpAny_pure ⟨_,rfl,wpAny_pure h⟩)) (Nat.zero_le _)))
  | exact wpAny_bind (wpAny_bind (m:=Builtin.Tuple.tupleExact _) (wpAny_newObj_type (wpAny_pure ⟨_,rfl,wpAny_pure h⟩) (Nat.zero_le _)))
end
section
variable {C:Glo}{F:Fm}{X:XM}{ρ:List Addr}{m:MS}{s:Shared}{Q:PQ}{E:Value→Shared→Prop}{A:Around}
theorem Bz (R:Rel C F ρ m s)(ok:aQ F){b a:Addr}{n:Nat}{xs:List MV}{items:List Value}{value:Expr}{l u:Option Expr}{p:Pos}{k:Int}{t:Tok}(g:s.heap.get? b=some (mW items n))(rl:aA C ρ s.heap xs items)(z:xs.length≤line)(hs:s.heap.IsSliceOf a (.int k t) .none .none)
  (hk:Ac=true∧1≤k∧1≤xs.length) (hq:Q (.tup (xs.drop k.toNat)) m):wpAny (mod C) A (subscriptTail value (.Slice l u none p) (.ref b) (.ref a)) (Out C F ρ s Q) E s:=by
 obtain ⟨_,k1,k2⟩:=hk
 obtain ⟨j,rfl⟩:=Int.eq_ofNat_of_zero_le (show 0≤k from z1 k1 (by simp +arith only))
 have e:=rl.length
 rcases Nat.lt_or_ge xs.length j with hp | hp
 ·refine tail_any (T:="tuple") ⟨_,g,rfl⟩ slot_tuple_getitem.lookup (sD ⟨_,g,rfl,_,rfl⟩ hs (by rw [List.size_toArray,e];exact k2) (by rw [List.size_toArray,e];exact hp) ?_) fP
  have e0:xs.drop ((j:Int)).toNat=[]:=List.drop_eq_nil_of_le (Nat.le_of_lt hp)
  rw [e0] at hq
  exact mX R ok .nil (Nat.zero_le _) hq
 refine tail_any (T:="tuple") ⟨_,g,rfl⟩ slot_tuple_getitem.lookup (getItem_tuple_from ⟨_,g,rfl,_,rfl⟩ hs (by lia) (by rw [List.size_toArray];lia) ?_ (by rw [List.size_toArray,e];exact z)) fP
 exact mX R ok (rl.drop j) (Nat.le_trans (by rw [List.length_drop];exact Nat.sub_le ..) z) hq
end
end Internal
end
section
namespace Internal
open PySem PyProof.Rows
section
variable {C:Glo}{F:Fm}{X:XM}{ρ:List Addr}{m:MS}{s:Shared}{Q:PQ}{E:Value→Shared→Prop}{A:Around}{h:Heap}{hp:List MO}
noncomputable def g9 (C:Glo)(ρ:List Addr)(h:Heap):Option MV→Value→Prop
 | none,v=>v=.none
 | some x,v=>Rep C ρ h x v
theorem qW {lo:Option MV}{v:Value}(h:g9 C ρ s.heap lo v){k:Option Int}(e:pD lo=some k):IsPart v k∧∃l:Option (Int × Tok),v=partValue l∧l.map (·.1)=k:=by
 cases lo with
 | none=>
  obtain rfl:=Option.some.inj e
  obtain rfl:v=.none:=h
  exact ⟨.none,none,rfl,rfl⟩
 | some x=>
  cases x with
  | int i=>
   obtain ⟨t,rfl⟩:=Rep.inv h
   obtain rfl:=Option.some.inj e
   exact ⟨.int i t,some (i,t),rfl,rfl⟩
  | _=>exact az e
theorem uy {v:Value}{k:Int}(h:IsPart v (some k)):∃t,v=.int k t:=by cases h;exact ⟨_,rfl⟩
theorem sF {v:Value}(h:IsPart v none):v=.none:=by cases h;rfl
theorem ou (x:List Nat)(lo hi:Option Int):((Builtin.Str.strSliceIndices lo hi 1 x.length).filterMap (x.toArray[·]?))=aF x lo hi∧(Builtin.Str.strSliceIndices lo hi 1 x.length).length=(aF x lo hi).length:=by
 have e:Builtin.Str.strSliceIndices lo hi 1 x.length=(List.range (hi.elim x.length (clipAt x.length)-lo.elim 0 (clipAt x.length))).map (lo.elim 0 (clipAt x.length) + ·):=by
  have h1:Builtin.Str.strSliceIndices lo hi 1 x.length=sliceRange (sliceBounds lo hi none x.length).1 (sliceBounds lo hi none x.length).2.1 (sliceBounds lo hi none x.length).2.2:=rfl
  rw [h1,sliceBounds_plain,sliceRange_one]
 rw [e]
 constructor
 ·rw [pick_run,dZ]
 ·rw [dZ,List.length_map,List.length_range,List.length_take,List.length_drop]
  have:hi.elim x.length (clipAt x.length)≤x.length:=by cases hi<;>simp [x5]
  exact (Nat.min_eq_left (Nat.sub_le_sub_right this _)).symm
theorem pT {y:List Nat}{lo hi:Option Int}(h:(aF y lo hi).length=y.length):aF y lo hi=y:=by
 rw [dZ] at h ⊢
 rw [List.length_take,List.length_drop] at h
 cases y with
 | nil=>simp
 | cons a b=>
  have h3:lo.elim 0 (clipAt (a::b).length)=0:=Nat.le_zero.mp (Nat.le_of_not_lt fun q=>Nat.lt_irrefl _ (Nat.lt_of_lt_of_le (Nat.sub_lt (Nat.succ_pos _) q) (Nat.le_trans (Nat.le_of_eq h.symm) (Nat.min_le_right _ _))))
  rw [h3] at h ⊢
  rw [List.drop_zero,Nat.sub_zero]
  exact List.take_of_length_le (Nat.le_trans (Nat.le_of_eq h.symm) (Nat.min_le_left _ _))
section
variable {a:Addr}{l1 l2:Option (Int × Tok)}{lo hi:Option Int}{vl vu:Value}{value:Expr}{l u:Option Expr}{p:Pos}
set_option tactic.hygienic true in
theorem BA (R:Rel C F ρ m s)(ok:aQ F){y:List Nat}{t:Tok}(z:y.length≤line)(hsl:s.heap.IsSlice a l1 l2 none)(ml1:l1.map (·.1)=lo)(ml2:l2.map (·.1)=hi)(hq:Q (.str (aF y lo hi)) m) :
  wpAny (mod C) A (subscriptTail value (.Slice l u none p) (.str (Internal.str y) t) (.ref a)) (Out C F ρ s Q) E s:=by
 refine tail_any (T:="str") (typeIs_str _ (Internal.str y) t) slot_str_getitem.lookup (wpAny_getItem_str_slice hsl rfl ?_) fP
 unfold sliceMade slicePicked
 rw [ml1,ml2,cf]
 obtain ⟨f1,f2⟩:=ou y lo hi
 have hz:=j8 y lo hi
 split
 ·rename_i hc
  simp only [Option.map_none,Option.getD_none,Bool.and_eq_true,beq_iff_eq] at hc
  rw [pT (f2.symm.trans hc.2)] at hq
  exact bS R (.str y t z) hq
 ·refine ⟨?_,?_⟩
  ·show ((Builtin.Str.strSliceIndices lo hi 1 y.length).filterMap (y.toArray[·]?)).toArray.size≤sizeLine
   rw [f1,List.size_toArray];exact Nat.le_trans hz z
  ·show Out C F ρ s Q (.str ⟨((Builtin.Str.strSliceIndices lo hi 1 y.length).filterMap (y.toArray[·]?)).toArray⟩ _) _
   rw [f1]
   exact bC R ok (.str _ _ (Nat.le_trans hz z)) hq
theorem qX (R:Rel C F ρ m s)(ok:aQ F){b:Addr}{xs:List MV}{items:List Value}(g:s.heap.IsList b items.toArray)(rl:aA C ρ s.heap xs items)(z:xs.length≤line)(hs:s.heap.IsSliceOf a vl vu .none)(p1:IsPart vl lo)(p2:IsPart vu hi)
  (hq:Q (.ref m.heap.length) (m.push (.list (aF xs lo hi)))):wpAny (mod C) A (subscriptTail value (.Slice l u none p) (.ref b) (.ref a)) (Out C F ρ s Q) E s:=by
 refine tail_any (T:="list") g.typeIs slot_list_getitem.lookup (wpAny_getItem_list_slice g hs p1 p2 .none (by simp) ?_ (by rw [List.size_toArray,rl.length];exact z)) fP
 have e:slicePick items.toArray lo hi none=(aF items lo hi).toArray:=by
  rw [slicePick_plain,dZ];simp
 rw [e]
 exact jI R ok (rl.slice _ _) (Nat.le_trans (j8 _ _ _) z) hq
theorem BB (R:Rel C F ρ m s)(ok:aQ F){x:MV}{v:Value}(hx:Rep C ρ s.heap x v)(hsl:s.heap.IsSlice a l1 l2 none)(ml1:l1.map (·.1)=lo)(ml2:l2.map (·.1)=hi)(hs:s.heap.IsSliceOf a vl vu .none)(p1:IsPart vl lo)(p2:IsPart vu hi)
  (hq:Am x lo hi Q m):wpAny (mod C) A (subscriptTail value (.Slice l u none p) v (.ref a)) (Out C F ρ s Q) E s:=by
 refine Classical.byContradiction fun hn=>?_
 cases x with
 | str y=>
  obtain ⟨t,rfl,z⟩:=hx.inv
  exact hn (BA R ok z hsl ml1 ml2 hq)
 | tup xs=>
  obtain ⟨b,n,items,rfl,g,l,z⟩:=hx.inv
  obtain ⟨k,rfl,⟨j1,rfl,j2⟩,hk⟩:=b8 hq
  obtain ⟨t,rfl⟩:=uy p1
  obtain rfl:=sF p2
  exact hn (Bz R ok g l z hs ⟨j1,j2⟩ hk)
 | scr xs=>
  obtain ⟨b,items,n,rfl,g,l,z⟩:=hx.inv
  exact hn (qX R ok ⟨_,R.hp.base _ _ g,rfl,_,rfl⟩ (jY l) (by rw [List.length_map];exact z) hs p1 p2 hq)
 | ref i=>
  obtain ⟨b,rfl,g⟩:=hx.inv
  obtain ⟨xs,hi,hq⟩:=bX hq
  obtain ⟨items,n,gi,l,z⟩:=R.hp.objs _ _ _ hi g
  exact hn (qX R ok ⟨_,gi,rfl,_,rfl⟩ l z hs p1 p2 hq)
 | _=>exact hq
end
theorem Em (R:Rel C F ρ m s)(ok:aQ F){x:MV}{v:Value}(hx:Rep C ρ s.heap x v){lo hi:Option MV}{vl vu:Value}(hl:g9 C ρ s.heap lo vl)(hu:g9 C ρ s.heap hi vu){value:Expr}{l u:Option Expr}{p:Pos}
  (hq:DN x lo hi Q m):wpAny (mod C) A (subscriptTail value (.Slice l u none p) v (.ref s.heap.objs.size)) (Out C F ρ s Q) E { s with heap:=s.heap.push { cls:=.type "slice",data:=.fields #[vl,vu,.none] } }:=by
 obtain ⟨R',st⟩:=R.grow (s':={ s with heap:=s.heap.push { cls:=.type "slice",data:=.fields #[vl,vu,.none] } }) ok (fun a o e=>Heap.get?_push_of_some _ e) rfl rfl
 obtain ⟨lo',e1,hq⟩:=b8 hq
 obtain ⟨hi',e2,hq⟩:=b8 hq
 obtain ⟨p1,l1,rfl,ml1⟩:=qW hl e1
 obtain ⟨p2,l2,rfl,ml2⟩:=qW hu e2
 exact wpAny_mono (BB R' ok (hx.step st) ⟨_,Heap.get?_push_size _ rfl,rfl,rfl⟩ ml1 ml2 (Heap.IsSliceOf.new _ _ _ _) p1 p2 hq) (Out.back st) fun _ _ e=>e
end
end Internal
end
section
namespace Internal
open PySem PyProof.Rows
section
variable {C:Glo}{F:Fm}{X:XM}{ρ:List Addr}{m:MS}{s:Shared}{Q:PQ}{E:Value→Shared→Prop}{A:Around}{h:Heap}{hp:List MO}
noncomputable def jA:TS→Option String
 | .int=>some "int" | .bool=>some "bool" | .str=>some "str" | .list=>some "list" | .tuple=>some "tuple" | .dict=>some "dict" | _=>none
noncomputable def En:TS→String
 | .int=>"int" | .bool=>"bool" | .str=>"str" | .list=>"list" | .tuple=>"tuple" | .dict=>"dict" | _=>""
theorem x6 {t:TS}{T:String}(e:jA t=some T):T=En t:=by
 cases t<;>first | exact (Option.some.inj e).symm | exact az e
noncomputable def sG:Kd→String
 | .none=>"NoneType" | .bool=>"bool" | .int=>"int" | .str=>"str" | .tuple=>"tuple" | .list=>"list" | .dict=>"dict" | .exc _=>""
noncomputable def Eo (t:TS):Prop:=jA t≠none→typeOf (.type (En t))=pure (.type "type")
theorem x7 (t:TS):Eo t:=TS.casesOn (motive:=Eo) t (fun _=>F.isi_meta_int) (fun _=>F.isi_meta_bool) (fun _=>F.isi_meta_str) (fun _=>F.isi_meta_list) (fun _=>F.isi_meta_tuple) (fun _=>F.isi_meta_dict) (fun _ e=>(e rfl).elim) (fun e=>(e rfl).elim)
noncomputable def lE (k:Kd)(t:TS):Prop:=match jA t with
 | some T=>isSubtype (.type (sG k)) (.type T)=pure ((rZ k t).getD true)
 | none=>True
theorem x8 (k:Kd)(t:TS)(he:∀c,k≠.exc c):lE k t:=by
 revert he
 exact Kd.casesOn (motive:=fun k=>(∀c,k≠.exc c)→lE k t) k (fun _=>TS.casesOn (motive:=lE .none) t F.sub_NoneType_int F.sub_NoneType_bool F.sub_NoneType_str F.sub_NoneType_list F.sub_NoneType_tuple F.sub_NoneType_dict (fun _=>trivial) trivial) (fun _=>TS.casesOn (motive:=lE .bool) t F.sub_bool_int F.sub_bool_bool F.sub_bool_str F.sub_bool_list F.sub_bool_tuple F.sub_bool_dict (fun _=>trivial) trivial) (fun _=>TS.casesOn (motive:=lE .int) t F.sub_int_int F.sub_int_bool F.sub_int_str F.sub_int_list F.sub_int_tuple F.sub_int_dict (fun _=>trivial) trivial) (fun _=>TS.casesOn (motive:=lE .str) t F.sub_str_int F.sub_str_bool F.sub_str_str F.sub_str_list F.sub_str_tuple F.sub_str_dict (fun _=>trivial) trivial) (fun _=>TS.casesOn (motive:=lE .tuple) t F.sub_tuple_int F.sub_tuple_bool F.sub_tuple_str F.sub_tuple_list F.sub_tuple_tuple F.sub_tuple_dict (fun _=>trivial) trivial) (fun _=>TS.casesOn (motive:=lE .list) t F.sub_list_int F.sub_list_bool F.sub_list_str F.sub_list_list F.sub_list_tuple F.sub_list_dict (fun _=>trivial) trivial) (fun _=>TS.casesOn (motive:=lE .dict) t F.sub_dict_int F.sub_dict_bool F.sub_dict_str F.sub_dict_list F.sub_dict_tuple F.sub_dict_dict (fun _=>trivial) trivial) (fun c h=>(h c rfl).elim)
noncomputable def NeP (k:Kd)(t:TS):Prop:=match jA t with
 | some T=>(rZ k t).getD true=false→(Value.type (sG k)==Value.type T)=false
 | none=>True
theorem BC (k:Kd)(t:TS)(he:∀c,k≠.exc c):NeP k t:=by
 revert he
 exact Kd.casesOn (motive:=fun k=>(∀c,k≠.exc c)→NeP k t) k (fun _=>TS.casesOn (motive:=NeP .none) t (fun _=>rfl) (fun _=>rfl) (fun _=>rfl) (fun _=>rfl) (fun _=>rfl) (fun _=>rfl) (fun _=>trivial) trivial) (fun _=>TS.casesOn (motive:=NeP .bool) t tf tf (fun _=>rfl) (fun _=>rfl) (fun _=>rfl) (fun _=>rfl) (fun _=>trivial) trivial) (fun _=>TS.casesOn (motive:=NeP .int) t tf (fun _=>rfl) (fun _=>rfl) (fun _=>rfl) (fun _=>rfl) (fun _=>rfl) (fun _=>trivial) trivial) (fun _=>TS.casesOn (motive:=NeP .str) t (fun _=>rfl) (fun _=>rfl) tf (fun _=>rfl) (fun _=>rfl) (fun _=>rfl) (fun _=>trivial) trivial) (fun _=>TS.casesOn (motive:=NeP .tuple) t (fun _=>rfl) (fun _=>rfl) (fun _=>rfl) (fun _=>rfl) tf (fun _=>rfl) (fun _=>trivial) trivial) (fun _=>TS.casesOn (motive:=NeP .list) t (fun _=>rfl) (fun _=>rfl) (fun _=>rfl) tf (fun _=>rfl) (fun _=>rfl) (fun _=>trivial) trivial) (fun _=>TS.casesOn (motive:=NeP .dict) t (fun _=>rfl) (fun _=>rfl) (fun _=>rfl) (fun _=>rfl) (fun _=>rfl) tf (fun _=>trivial) trivial) (fun c h=>(h c rfl).elim)
noncomputable def F8 (v:Value)(Tx:String):Prop:=∀T,(Value.type Tx==Value.type T)=false→typeOf (.type T)=pure (.type "type")→isSubtype (.type Tx) (.type T)=pure false→Answers (fun s=>s.TypeIs v Tx) v (.type T) false
theorem BD (H:Hp C ρ hp s.heap){x:MV}{v:Value}(hx:Rep C ρ s.heap x v){k:Kd}(hk:ud hp x=some k)(he:∀c,k≠.exc c):s.TypeIs v (sG k)∧F8 v (sG k):=by
 refine Classical.byContradiction fun hn=>?_
 cases x with
 | none=>obtain rfl:=hx.inv;obtain rfl:=Option.some.inj hk;exact hn ⟨rfl,fun _=>.of_false_none⟩
 | bool _=>obtain rfl:=hx.inv;obtain rfl:=Option.some.inj hk;exact hn ⟨rfl,fun _=>.of_false_bool⟩
 | int _=>obtain ⟨_,rfl⟩:=hx.inv;obtain rfl:=Option.some.inj hk;exact hn ⟨rfl,fun _=>.of_false_int⟩
 | str _=>obtain ⟨_,rfl,_⟩:=hx.inv;obtain rfl:=Option.some.inj hk;exact hn ⟨rfl,fun _=>.of_false_str⟩
 | tup _=>
  obtain ⟨a,n,items,rfl,g,_⟩:=hx.inv
  obtain rfl:=Option.some.inj hk
  exact hn ⟨⟨_,g,rfl⟩,fun _=>.of_false_tuple⟩
 | ref i=>
  obtain ⟨a,rfl,g⟩:=hx.inv
  replace hk:kdO hp[i]?=some k:=hk
  cases hi:hp[i]? with
  | none=>rw [hi] at hk;exact az hk
  | some o=>
   rw [hi] at hk
   cases o with
   | list xs=>
    obtain ⟨items,n,gi,_⟩:=H.objs _ _ _ hi g
    obtain rfl:=Option.some.inj hk
    exact hn ⟨⟨_,gi,rfl⟩,fun _=>.of_false_list⟩
   | dict es=>
    obtain ⟨kvs,dk,_⟩:=H.objs _ _ _ hi g
    obtain rfl:=Option.some.inj hk
    exact hn ⟨dk.typeIs,fun _=>.of_false_dict⟩
   | attrs es=>exact az hk
   | exc c=>exact he c (Option.some.inj hk).symm
 | _=>exact az hk
theorem uz {k:Kd}{t:TS}{T:String}(e:jA t=some T){b:Bool}(h:rZ k t=some b)(c:Nat):k≠.exc c:=fun q=>by
 subst q;cases t<;>first | exact az e | exact az h
theorem iR (H:Hp C ρ hp s.heap){x:MV}{v:Value}(hx:Rep C ρ s.heap x v){k:Kd}(hk:ud hp x=some k){t:TS}{T:String}(eT:jA t=some T){b:Bool}(h:rZ k t=some b):s.TypeIs v (sG k)∧Answers (fun s=>s.TypeIs v (sG k)) v (.type T) b:=by
 have he:=uz eT h
 obtain ⟨h1,h2⟩:=BD H hx hk he
 refine ⟨h1,?_⟩
 have hm:=x7 t (by rw [eT];exact fun q=>rU q)
 rw [←x6 eT] at hm
 have h3:=x8 k t he
 have h4:=BC k t he
 unfold lE at h3
 unfold NeP at h4
 rw [eT,h] at h3 h4
 cases b with
 | true=>exact .of_true hm h3
 | false=>exact h2 T (h4 rfl) hm h3
theorem uJ {prog:Program}{w:World}{v:Value}{Tx T:String}{b:Bool}{Q:Value→Shared→Prop}(ha:Answers (fun s=>s.TypeIs v Tx) v (.type T) b)(hT:s.TypeIs v Tx)(h:∀tk,Q (.bool b) { s with toks:=tk }):wpAny (model prog w) A (call (.builtin "isinstance") [v,.type T]) Q E s:=by
 refine call_isinstance (S:=fun _ R s'=>s'=s∧∀tk,R (.ok (.ret (.bool b))) { s with toks:=tk }) (fun _ _ _ _ s' hs=>?_) ⟨rfl,h⟩
 obtain ⟨rfl,hs⟩:=hs
 exact isinstance_outer (ha _ _ _ _ _ _ _ ⟨hT,hs⟩) (Shared.TypeIs.not_mainsLoader hT)
theorem BE (H:Hp C ρ hp s.heap){x:MV}{v:Value}(hx:Rep C ρ s.heap x v){t:TS}{b:Bool}(h:jz hp x t=some b){P:Bool→Prop}(hq:P b) :
  ∀T,jA t=some T→wpAny (mod C) A (call (.builtin "isinstance") [v,.type T]) (fe s P) E s:=by
 intro T eT
 obtain ⟨k,hk,h⟩:=jG h
 obtain ⟨h1,h2⟩:=iR H hx hk eT h
 exact uJ h2 h1 fun tk=>⟨_,tk,rfl,rfl,hq⟩
theorem x9 (H:Hp C ρ hp s.heap){x:MV}{v:Value}(hx:Rep C ρ s.heap x v){t u:TS}{T U:String}(eT:jA t=some T)(eU:jA u=some U){b b':Bool}(h:jz hp x t=some b)(h':jz hp x u=some b'){P:Bool→Prop}(hq:P (b||b')){tp:Addr}
  (ht:s.heap.get? tp=some { cls:=.type "tuple",data:=.seq #[.type T,.type U] }):wpAny (mod C) A (call (.builtin "isinstance") [v,.ref tp]) (fe s P) E s:=by
 obtain ⟨k,hk,h⟩:=jG h
 obtain ⟨k',hk',h'⟩:=jG h'
 obtain rfl:=same hk hk'
 obtain ⟨h1,h2⟩:=iR H hx hk eT h
 obtain ⟨_,h3⟩:=iR H hx hk eU h'
 refine IsiPair.tupleOfB (vs:=[b,b']) (b:=b||b') (.cons h2 (.cons h3 .nil)) h1 ht ?_ fun tk=>⟨_,tk,rfl,rfl,hq⟩
 show (b||(b'||false))=_
 rw [Bool.or_false]
noncomputable def lG:Bi→Option (Str × Value)
 | .len=>some ("len",.builtin "len")
 | .int=>some ("int",.type "int")
 | .str=>some ("str",.type "str")
 | .list=>some ("list",.type "list")
 | .tuple=>some ("tuple",.type "tuple")
 | .dict=>some ("dict",.type "dict")
 | .all=>if AQ then some ("all",.builtin "all") else none
 | .min=>if Af then some ("min",.builtin "min") else none
 | .max=>if Af then some ("max",.builtin "max") else none
 | .sum=>if AR then some ("sum",.builtin "sum") else none
 | .sorted=>if AU then some ("sorted",.builtin "sorted") else none
 | _=>none
noncomputable def jK:Bi→Bool
 | .len=>true
 | .int=>true
 | .str=>true
 | _=>false
theorem fQ (R:Rel C F ρ m s)(ok:aQ F){h':Heap}{t:Nat}(hk:∀b o,s.heap.get? b=some o→h'.get? b=some o){x:MV}{v:Value}(hr:Rep C ρ h' x v)(h:Q x m):Out C F ρ s Q v { s with heap:=h',toks:=t }:=by
 obtain ⟨R',st⟩:=R.grow (s':={ s with heap:=h',toks:=t }) ok hk rfl rfl
 exact ⟨ρ,m,x,st,R',hr,h⟩
theorem BF (G:GOk C)(R:Rel C F ρ m s)(ok:aQ F){x:MV}{v:Value}(hx:Rep C ρ s.heap x v)(h:Ao x Q m):wpAny (mod C) A (call (.builtin "len") [v]) (Out C F ρ s Q) E s:=by
 refine Classical.byContradiction fun hn=>?_
 cases x with
 | tup xs=>
  obtain ⟨a,n,items,rfl,g,l,z⟩:=hx.inv
  refine hn (PySem.P.len_tuple g ?_ ?_)
  ·rw [List.size_toArray,l.length];have:=dG z;lia
  ·rw [List.size_toArray,l.length];exact bC R ok (.int _ _) h
 | str xs=>
  obtain ⟨t,rfl,z⟩:=hx.inv
  refine hn (PySem.P.len_str ?_ ?_)
  ·rw [cf];have:=dG z;lia
  ·rw [cf];exact bC R ok (.int _ _) h
 | scr is=>
  obtain ⟨a,items,n,rfl,g,l,z⟩:=hx.inv
  have hlen:=(jY (C:=C) (ρ:=ρ) (h:=s.heap) l).length
  rw [List.length_map] at hlen
  refine hn (PySem.Calls.call_len_list ⟨_,R.hp.base _ _ g,rfl,_,rfl⟩ ?_ ?_)
  ·rw [List.size_toArray,hlen];exact dG z
  ·rw [List.size_toArray,hlen];exact bC R ok (.int _ _) h
 | ref i=>
  obtain ⟨a,rfl,g⟩:=hx.inv
  obtain ⟨ys,hi,h⟩ | ⟨ys,hi,h⟩:=gX h
  ·obtain ⟨items,n,gi,l,z⟩:=R.hp.objs _ _ _ hi g
   refine hn (PySem.Calls.call_len_list ⟨_,gi,rfl,_,rfl⟩ ?_ ?_)
   ·rw [List.size_toArray,l.length];exact dG z
   ·rw [List.size_toArray,l.length];exact bC R ok (.int _ _) h
  ·obtain ⟨kvs,dk,rk,z⟩:=R.hp.objs _ _ _ hi g
   refine hn (call_len_dict (mZ G R.hp (List.mem_of_getElem? g)) dk ?_ ?_)
   ·rw [rk.length];exact dG z
   ·rw [rk.length];exact bC R ok (.int _ _) h
 | _=>exact h
theorem uK (R:Rel C F ρ m s){a:Addr}:(ρ++[a])[m.heap.length]?=some a:=by rw [←R.hp.len,List.getElem?_append_right (Nat.le_refl _)];simp
theorem pU (R:Rel C F ρ m s)(ok:aQ F){i:Nat}{ys:List MV}{v:Value}(hx:Rep C ρ s.heap (.ref i) v)(hi:m.heap[i]?=some (.list ys))(h:Q (.tup ys) m):wpAny (mod C) A (call (.type "tuple") [v]) (Out C F ρ s Q) E s:=by
 obtain ⟨a,rfl,g⟩:=hx.inv
 obtain ⟨items,n,gi,l,z⟩:=R.hp.objs _ _ _ hi g
 refine call_tuple_list ⟨_,gi,rfl,_,rfl⟩ (fun h' hk=>?_) (by rw [List.size_toArray,l.length];exact z)
 have hk':∀b o,s.heap.get? b=some o→(h'.push (mW items 0)).get? b=some o:=fun b o e=>Heap.get?_push_of_some _ (hk b o e)
 exact fQ R ok hk' (.tup (Heap.get?_push_size _ rfl) (l.up (fun a o e _=>hk' a o e) (List.prefix_refl _)) z) h
theorem sH (G:GOk C)(R:Rel C F ρ m s)(ok:aQ F){i:Nat}{ys:List (List Nat × MV)}{v:Value}(hx:Rep C ρ s.heap (.ref i) v)(hi:m.heap[i]?=some (.dict ys))(h:Q (.ref m.heap.length) (m.push (.dict ys))):wpAny (mod C) A (call (.type "dict") [v]) (Out C F ρ s Q) E s:=by
 obtain ⟨a,rfl,g⟩:=hx.inv
 obtain ⟨kvs,dk,rk,z⟩:=R.hp.objs _ _ _ hi g
 refine kt_call_dict (mZ G R.hp (List.mem_of_getElem? g)) dk (by rw [rk.length];exact z) fun h' hd hs=>?_
 have hk:∀a o,s.heap.get? a=some o→h'.get? a=some o:=fun a o e=>(hs.2 a (Nat.ne_of_lt (Heap.lt_size e))).trans (Heap.get?_push_of_some _ e)
 obtain ⟨R',st⟩:=R.alloc (s':={ s with heap:=h' }) ok hk rfl rfl (o:=.dict ys) (a:=s.heap.objs.size) (bB (Nat.le_refl _))
  ⟨kvs,hd,rk.up (fun a o e _=>hk a o e) (List.prefix_append _ _),z⟩
 exact ⟨_,_,_,st,R',.ref (uK R),h⟩
theorem yb {i:Int}(h:-1≤i∧i<1000000):i.natAbs.log2<1920:=by
 have:i.natAbs<1000000:=by lia
 rcases Nat.eq_zero_or_pos i.natAbs with q | q
 ·rw [q];decide
 ·have:=(Nat.log2_lt (n:=i.natAbs) (k:=20) (Nat.ne_of_gt q)).mpr (Nat.le_trans this (nb rfl))
  exact Nat.le_trans this (nb rfl)
end
end Internal
end
section
namespace Internal
open PySem PyProof.Rows
section
variable {C:Glo}{F:Fm}{X:XM}{ρ:List Addr}{m:MS}{s:Shared}{Q:PQ}{E:Value→Shared→Prop}{A:Around}{h:Heap}{hp:List MO}
theorem ow (G:GOk C)(hn:A.handled=none)(R:Rel C F ρ m s)(ok:aQ F){i:Nat}{ys:List (List Nat × MV)}{v:Value}(hx:Rep C ρ s.heap (.ref i) v)(hi:m.heap[i]?=some (.dict ys))(hu:Ae=true)(h:Q (.ref m.heap.length) (m.push (.list (ys.map fun p=>.str p.1)))) :
  wpAny (mod C) A (call (.type "list") [v]) (Out C F ρ s Q) E s:=absurd hu (by decide)
end
end Internal
end
section
namespace Internal
open PySem PyProof.Rows
section
variable {C:Glo}{F:Fm}{X:XM}{ρ:List Addr}{m:MS}{s:Shared}{Q:PQ}{E:Value→Shared→Prop}{A:Around}{h:Heap}{hp:List MO}
theorem BG (hn:A.handled=none)(R:Rel C F ρ m s)(ok:aQ F){i j:Int}{t u:Tok}{n:Str}{f:Value}(hb:lG .min=some (n,f))(h:pG .min i j Q m):wpAny (mod C) A (call f [.int i t,.int j u]) (Out C F ρ s Q) E s:=by
 have hb:(some ("min",.builtin "min"):Option (Str × Value))=some (n,f):=hb
 cases hb
 refine min_two_ints hn fun h' tk hk=>?_
 have h:Q (.int (min i j)) m:=h
 by_cases q:j<i
 ·rw [if_pos q];rw [Int.min_eq_right (Int.le_of_lt q)] at h;exact fQ R ok hk (.int _ _) h
 ·rw [if_neg q];rw [Int.min_eq_left (Int.not_lt.mp q)] at h;exact fQ R ok hk (.int _ _) h
theorem BH (hn:A.handled=none)(R:Rel C F ρ m s)(ok:aQ F){i j:Int}{t u:Tok}{n:Str}{f:Value}(hb:lG .max=some (n,f))(h:pG .max i j Q m):wpAny (mod C) A (call f [.int i t,.int j u]) (Out C F ρ s Q) E s:=by
 have hb:(some ("max",.builtin "max"):Option (Str × Value))=some (n,f):=hb
 cases hb
 refine max_two_ints hn fun h' tk hk=>?_
 have h:Q (.int (max i j)) m:=h
 by_cases q:j > i
 ·rw [if_pos q];rw [Int.max_eq_right (Int.le_of_lt q)] at h;exact fQ R ok hk (.int _ _) h
 ·rw [if_neg q];rw [Int.max_eq_left (Int.not_lt.mp q)] at h;exact fQ R ok hk (.int _ _) h
theorem sI {bs:List Bool}{items:List Value}{h:Heap}(l:aA C ρ h (bs.map .bool) items){j:Nat}{v:Value}(e:items[j]?=some v):∃b,bs[j]?=some b∧v=.bool b:=by
 have hj:j<bs.length:=by have:=(List.getElem?_eq_some_iff.mp e).1;rw [l.length,List.length_map] at this;exact this
 obtain ⟨v',e',r⟩:=l.get (i:=j) (x:=.bool bs[j]) (by rw [List.getElem?_map,List.getElem?_eq_getElem hj];rfl)
 obtain rfl:=same e e'
 exact ⟨_,List.getElem?_eq_getElem hj,r.inv⟩
theorem sJ (bs:List Bool):(List.range bs.length).all (fun j=>(bs[j]?).getD false)=bs.all id:=by
 rw [Bool.eq_iff_iff,List.all_eq_true,List.all_eq_true]
 constructor
 ·intro h b hb
  obtain ⟨j,hj,e⟩:=List.getElem_of_mem hb
  have:=h j (List.mem_range.mpr hj)
  rw [List.getElem?_eq_getElem hj,e] at this
  exact this
 ·intro h j hj
  have hj:=List.mem_range.mp hj
  rw [List.getElem?_eq_getElem hj]
  exact h _ (List.getElem_mem hj)
theorem BI (hn:A.handled=none)(R:Rel C F ρ m s)(ok:aQ F){i:Nat}{v:Value}(hx:Rep C ρ s.heap (.ref i) v){n:Str}{f:Value}(hb:lG .all=some (n,f))(h:eh .all (.ref i) Q m):wpAny (mod C) A (call f [v]) (Out C F ρ s Q) E s:=by
 have hb:(some ("all",.builtin "all"):Option (Str × Value))=some (n,f):=hb
 cases hb
 obtain ⟨a,rfl,g⟩:=hx.inv
 obtain ⟨xs,hi,bs,rfl,_,hq⟩:=bX h
 obtain ⟨items,k,gi,l,z⟩:=R.hp.objs _ _ _ hi g
 have hl:s.heap.IsList _ items.toArray:=⟨_,gi,rfl,_,rfl⟩
 refine call_all_walk (wpAny_pyIter_list hl ?_)
 have hne:=Nat.ne_of_lt (Heap.lt_size gi)
 refine ⟨_,_,_,_,_,_,fun j=>(bs[j]?).getD false,rfl,Walks.list (A:=A.in1) hn _ _ hne items.toArray,⟨⟨_,Heap.get?_push_size _ rfl,rfl,rfl⟩,hl.push _⟩,fun j v s Q E hP hQ=>?_,fun h' tk hk=>?_⟩
 ·obtain ⟨b,e1,rfl⟩:=sI l (j:=j) (v:=v) ((List.getElem?_toArray ..).symm.trans hP)
  have hQ:Q ((bs[j]?).getD false) s:=hQ
  rw [e1] at hQ
  exact wpAny_truthy_bool hQ
 ·rw [List.size_toArray,l.length,List.length_map,sJ]
  exact fQ R ok (fun b o e=>hk b o (fun hm=>Nat.ne_of_lt (Heap.lt_size e) (List.mem_singleton.mp hm)) (Heap.get?_push_of_some _ e)) (.bool _) hq
end
end Internal
end
section
namespace Internal
open PySem PyProof.Rows
section
variable {C:Glo}{F:Fm}{X:XM}{ρ:List Addr}{m:MS}{s:Shared}{Q:PQ}{E:Value→Shared→Prop}{A:Around}{h:Heap}{hp:List MO}
theorem yc (hn:A.handled=none)(R:Rel C F ρ m s)(ok:aQ F){i:Nat}{v:Value}(hx:Rep C ρ s.heap (.ref i) v){n:Str}{f:Value}(hb:lG .min=some (n,f))(h:eh .min (.ref i) Q m):wpAny (mod C) A (call f [v]) (Out C F ρ s Q) E s:=by
 obtain ⟨xs,hi,h0,_⟩:=bX h
 exact ff h0
end
end Internal
end
section
namespace Internal
open PySem PyProof.Rows
section
variable {C:Glo}{F:Fm}{X:XM}{ρ:List Addr}{m:MS}{s:Shared}{Q:PQ}{E:Value→Shared→Prop}{A:Around}{h:Heap}{hp:List MO}
theorem BJ (hn:A.handled=none)(R:Rel C F ρ m s)(ok:aQ F){i:Nat}{v:Value}(hx:Rep C ρ s.heap (.ref i) v){n:Str}{f:Value}(hb:lG .sum=some (n,f))(h:eh .sum (.ref i) Q m):wpAny (mod C) A (call f [v]) (Out C F ρ s Q) E s:=az hb
end
end Internal
end
section
namespace Internal
open PySem PyProof.Rows
section
variable {C:Glo}{F:Fm}{X:XM}{ρ:List Addr}{m:MS}{s:Shared}{Q:PQ}{E:Value→Shared→Prop}{A:Around}{h:Heap}{hp:List MO}
theorem nk (hn:A.handled=none)(R:Rel C F ρ m s)(ok:aQ F){i:Nat}{xs:List MV}{v:Value}(hx:Rep C ρ s.heap (.ref i) v)(hi:m.heap[i]?=some (.list xs))(h:ub xs fun es=>Q (.ref m.heap.length) (m.push (.dict es))):wpAny (mod C) A (call (.type "dict") [v]) (Out C F ρ s Q) E s:=by
 obtain ⟨hu,_⟩:=h
 exact absurd hu (by decide)
end
end Internal
end
section
namespace Internal
open PySem PyProof.Rows
section
variable {C:Glo}{F:Fm}{X:XM}{ρ:List Addr}{m:MS}{s:Shared}{Q:PQ}{E:Value→Shared→Prop}{A:Around}
theorem Ep (R:Rel C F ρ m s)(ok:aQ F){z:List Nat}{t:Tok}(h:eh .int (.str z) Q m):wpAny (mod C) A (call (.type "int") [.str (str z) t]) (Out C F ρ s Q) E s:=by
 exact absurd (show Ag=true∧_ from h).1 (by decide)
end
end Internal
end
section
namespace Internal
open PySem PyProof.Rows
section
variable {C:Glo}{F:Fm}{X:XM}{ρ:List Addr}{m:MS}{s:Shared}{Q:PQ}{E:Value→Shared→Prop}{A:Around}{h:Heap}{hp:List MO}
theorem sK (G:GOk C)(hn:A.handled=none)(R:Rel C F ρ m s)(ok:aQ F){x:MV}{v:Value}(hx:Rep C ρ s.heap x v)(h:n6 x Q m):wpAny (mod C) A (call (.type "list") [v]) (Out C F ρ s Q) E s:=by
 have key:∀{a:Addr} {ys:List MV} {items:List Value} {k:Nat} {T:String},(T="list"∨T="tuple")→s.heap.get? a=some { cls:=.type T,dict:=none,data:=.seq items.toArray k,slots:=#[] }→aA C ρ s.heap ys items→ys.length≤line→Q (.ref m.heap.length) (m.push (.list ys))→wpAny (mod C) A (call (.type "list") [.ref a]) (Out C F ρ s Q) E s:=fun {a ys items k T} hT gi l z h=>by
  refine call_list_seq _ hT gi rfl rfl (fun h' c' hk hn=>?_) (by rw [List.size_toArray,l.length];exact z)
  obtain ⟨R',st⟩:=R.alloc (s':={ s with heap:=h' }) ok hk rfl rfl (o:=.list ys) (a:=s.heap.objs.size) (bB (Nat.le_refl _))
   ⟨items,c',hn,l.up (fun a o e _=>hk a o e) (List.prefix_append _ _),z⟩
  exact ⟨_,_,_,st,R',.ref (uK R),h⟩
 refine Classical.byContradiction fun hc=>?_
 cases x with
 | ref i=>
  obtain ⟨ys,hi,h⟩ | ⟨ys,hi,h⟩:=gX h
  ·obtain ⟨a,rfl,g⟩:=hx.inv
   obtain ⟨items,n,gi,l,z⟩:=R.hp.objs _ _ _ hi g
   exact hc (key (.inl rfl) gi l z h)
  ·exact hc (ow G hn R ok hx hi h.1 h.2)
 | tup ys=>
  obtain ⟨a,n,items,rfl,gi,l,z⟩:=hx.inv
  exact hc (key (.inr rfl) gi l z h)
 | _=>exact h
theorem uL (R:Rel C F ρ m s)(ok:aQ F){x:MV}{v:Value}(hx:Rep C ρ s.heap x v)(h:eh .int x Q m):wpAny (mod C) A (call (.type "int") [v]) (Out C F ρ s Q) E s:=by
 refine Classical.byContradiction fun hn=>?_
 cases x with
 | bool c=>obtain rfl:=hx.inv;exact hn (call_int_bool (bC R ok (.int _ _) (by cases c<;>exact h)))
 | str z=>
  obtain ⟨t,rfl,_⟩:=hx.inv
  exact hn (Ep R ok h)
 | _=>exact h
theorem uM (R:Rel C F ρ m s)(ok:aQ F){x:MV}{v:Value}(hx:Rep C ρ s.heap x v)(h:eh .str x Q m):wpAny (mod C) A (call (.type "str") [v]) (Out C F ρ s Q) E s:=by
 refine Classical.byContradiction fun hn=>?_
 cases x with
 | str z=>obtain ⟨t,rfl,_⟩:=hx.inv;exact hn (PySem.P.str_of_str (bS R hx h))
 | int i=>
  obtain ⟨t,rfl⟩:=hx.inv
  refine hn (PySem.P.str_of_int (yb h.1) ?_)
  have e:(Str.ofString (toString i):Str)=str (dec i):=by rw [Str.ofString_eq_toList];rfl
  rw [e]
  exact bC R ok (.str _ _ (Nat.le_trans (xY h.1) (by decide))) h.2
 | _=>exact h
theorem BK (G:GOk C)(R:Rel C F ρ m s)(ok:aQ F){b:Bi}(hh:jK b=true∨A.handled=none){xs:List MV}{vs:List Value}(hl:aA C ρ s.heap xs vs){n:Str}{f:Value}(hb:lG b=some (n,f))(hns:b≠.sorted)(h:lP b xs Q m) :
  wpAny (mod C) A (call f vs) (Out C F ρ s Q) E s:=by
 have hf:∀{f':Value} {n':Str},some (n',f')=some (n,f)→wpAny (mod C) A (call f' vs) (Out C F ρ s Q) E s→wpAny (mod C) A (call f vs) (Out C F ρ s Q) E s:=fun e k=>by
  obtain rfl:_=f:=congrArg Prod.snd (Option.some.inj e);exact k
 obtain ⟨x,rfl,h⟩ | ⟨x,y,rfl,h⟩:=t9 h
 ·obtain ⟨v,rfl,hx⟩:=hl.one
  refine Classical.byContradiction fun hn=>?_
  cases b with
  | len=>exact hn (hf hb (BF G R ok hx h))
  | list=>exact hn (hf hb (sK G (hh.resolve_left (by decide)) R ok hx h))
  | all=>
   obtain ⟨i,rfl,h1⟩:=dE h
   exact hn (BI (hh.resolve_left (by decide)) R ok hx hb h)
  | sum=>
   obtain ⟨i,rfl,h1⟩:=dE h
   exact hn (BJ (hh.resolve_left (by decide)) R ok hx hb h)
  | int=>exact hn (hf hb (uL R ok hx h))
  | str=>exact hn (hf hb (uM R ok hx h))
  | tuple=>
   obtain ⟨i,rfl,h1⟩:=dE h
   obtain ⟨ys,hi,h1⟩:=bX h1
   exact hn (hf hb (pU R ok hx hi h1))
  | dict=>
   obtain ⟨i,rfl,h1⟩:=dE h
   obtain ⟨ys,hi,h1⟩ | ⟨ys,hi,h1⟩:=gX h1
   ·exact hn (hf hb (nk (hh.resolve_left (by decide)) R ok hx hi h1))
   ·exact hn (hf hb (sH G R ok hx hi h1))
  | min=>
   obtain ⟨i,rfl,h1⟩:=dE h
   exact hn (yc (hh.resolve_left (by decide)) R ok hx hb h)
  | max=>exact h
  | sorted=>exact hns rfl
  | _=>exact az hb
 ·obtain ⟨v,w,rfl,hx,hy⟩:=hl.two
  obtain ⟨i,j,t,u,rfl,rfl,h⟩:=fM hx hy h
  refine Classical.byContradiction fun hn=>?_
  cases b with
  | min=>exact hn (BG (hh.resolve_left (by decide)) R ok hb h)
  | max=>exact hn (BH (hh.resolve_left (by decide)) R ok hb h)
  | _=>exact h
end
end Internal
end
section
namespace Internal
open PySem PyProof.Rows
set_option genCtorIdx false in
structure Cx where
 kind:Str→Option NameKind
 nm:Nat→Option Str
 fn:Nat→Option Str
 gl:Nat→Option (Str × MV)
 wr:Bool
 fr:Nat→Bool
 nh:Bool
 hf:Nat→Bool
 cn:Nat→Option Str
 xn:Nat→Option Str
 mt:Nat→Option (Nat × Str)
 at_:Nat→Str→Bool
noncomputable def dbg (x:Str):Bool:=x==("__debug__":Str)
noncomputable def cdc (x:Str):Bool:=x==("__classdict__":Str)
noncomputable def b0:List (Str × Value):=[("len",.builtin "len"),("int",.type "int"),("str",.type "str"),("list",.type "list"),("tuple",.type "tuple"),("dict",.type "dict"),
 ("bool",.type "bool"),("isinstance",.builtin "isinstance"),("range",.type "range"),("enumerate",.type "enumerate"),("sorted",.builtin "sorted"),("set",.type "set"),("all",.builtin "all"),("min",.builtin "min"),("max",.builtin "max"),("ValueError",.type "ValueError"),("sum",.builtin "sum"),("reversed",.type "reversed")]
inductive uN (C:Glo)(g b:Addr)(fn:Nat→Option Str)(gl:Nat→Option (Str × MV))(cn xn:Nat→Option Str):Prop
 | mk (mg mb:Str→Option Value) (h1:C.base.Ns g mg) (h2:C.base.Ns b mb) (hf:∀f x,fn f=some x→∃a,C.fa f=some a∧mg x=some (.ref a)) (hg:∀g x v,gl g=some (x,v)→∃w,mg x=some w∧∀ρ h,C.base.StaysIn h→Rep C ρ h v w)
   (hb:∀x v,(x,v)∈b0→mg x=none∧mb x=some v) (hc:∀k x,cn k=some x→∃K,C.ca k=some K∧mg x=some (.ref K)) (hx:∀k x,xn k=some x→∃K,C.xa k=some K∧mg x=some (.ref K))
structure av (C:Glo)(c:Cx)(F:Fm)(n:Nat):Prop where
 fm:aQ F
 kind:∀x,F.env.kindOf x=c.kind x
 nm:∀i x,c.nm i=some x→(F.env.kindOf x=some .local∧F.lay i=some (.nm F.env.locals x))∨
  (∃a,(F.env.kindOf x=some .cell∨(F.env.kindOf x=some .free∧cdc x=false))∧F.env.cells.lookup x=some a∧F.lay i=some (.cl a))
 glob:uN C F.env.globals F.env.builtins c.fn c.gl c.cn c.xn
 meth:∀f k x,c.mt f=some (k,x)→∃a,C.fa f=some a∧C.cm k x=some (.ref a)∧∃o,C.base.get? a=some o∧o.cls=.type "function"
 attr:∀k x,c.at_ k x=true→C.cm k x=none
 hn:c.nh=true→F.A.handled=none
 hf:c.hf=C.hf
 units:F.A.units≤3 * F.A.depth+4
 room:F.A.depth+n≤999
 inter:interactive F.env=false
 wr:∀i a,F.lay i=some (.cl a)→c.wr=true→a∈F.W
 fr:∀i,c.fr i=true→F.lay i=none
theorem av.u {C:Glo}{c:Cx}{F:Fm}{n:Nat}(x:av C c F n):F.A.units+1001<cLine:=by
 have:=x.units;have:=x.room;show _<9900;lia
section
variable {C:Glo}{F:Fm}{X:XM}{ρ:List Addr}{m:MS}{s:Shared}{Q:PQ}{E:Value→Shared→Prop}{A:Around}{c:Cx}{n:Nat}
theorem fR (H:Hp C ρ m.heap s.heap){a:Addr}{f:Str→Option Value}(h:C.base.Ns a f):s.heap.Ns a f:=jH h fun o e=>⟨o,H.base a o e,rfl⟩
theorem yd (cx:av C c F n)(R:Rel C F ρ m s){i:Nat}{x:Str}(hx:c.nm i=some x){v:MV}(hv:m.get i=some v){p:Pos}(hd:dbg x=false){P:Value→Shared→Prop}(hq:∀w,Rep C ρ s.heap v w→P w s) :
  wpAny (mod C) A (eval (.Name x p) F.env) P E s:=by
 obtain ⟨l,h1,h2⟩:=R.vars i v hv
 refine wpAny_Name ?_ hd
 rcases cx.nm i x hx with ⟨k,e⟩ | ⟨a,k,e1,e⟩
 ·obtain rfl:=same e h1
  obtain ⟨f,w,hn,hw,r⟩:=h2
  exact wpAny_loadName_local cx.fm.kind k hn hw (hq _ r)
 ·obtain rfl:=same e h1
  obtain ⟨w,hc,r⟩:=h2
  rcases k with k | ⟨k,kd⟩
  ·exact wpAny_loadName_cell cx.fm.kind k e1 hc (hq _ r)
  ·exact wpAny_loadName_free cx.fm.kind k e1 hc (hq _ r) kd
theorem uO (cx:av C c F n)(R:Rel C F ρ m s){i:Nat}{x:Str}(hx:c.nm i=some x){v:MV}(hv:m.get i=some v){p:Pos}(hd:dbg x=false)(hq:Q v m) :
  wpAny (mod C) A (eval (.Name x p) F.env) (Out C F ρ s Q) E s:=yd cx R hx hv hd fun _ r=>bS R r hq
theorem cu (cx:av C c F n)(R:Rel C F ρ m s){x:Str}{v:Value}(hm:(x,v)∈b0)(hk:c.kind x=some .globalImplicit){p:Pos}(hd:dbg x=false){P:Value→Shared→Prop}(h:P v s) :
  wpAny (mod C) A (eval (.Name x p) F.env) P E s:=by
 obtain ⟨mg,mb,h1,h2,_,_,h3,_⟩:=cx.glob
 exact Calls.Name_function_global cx.fm.kind ((cx.kind x).trans hk) (Calls.loadGlobal_builtin (fR R.hp h1) (h3 x v hm).1 (fR R.hp h2) (h3 x v hm).2 h) hd
theorem ye (cx:av C c F n)(R:Rel C F ρ m s){x:Str}{f:Nat}(hm:c.fn f=some x)(hk:c.kind x=some .globalImplicit){p:Pos}(hd:dbg x=false){P:Value→Shared→Prop}(h:∀a,C.fa f=some a→P (.ref a) s) :
  wpAny (mod C) A (eval (.Name x p) F.env) P E s:=by
 obtain ⟨mg,mb,h1,h2,h3,_⟩:=cx.glob
 obtain ⟨a,e1,e2⟩:=h3 f x hm
 exact Calls.Name_function_global cx.fm.kind ((cx.kind x).trans hk) (Calls.loadGlobal_global (fR R.hp h1) e2 (h a e1)) hd
theorem yf (cx:av C c F n)(R:Rel C F ρ m s){x:Str}{g:Nat}{v:MV}(hm:c.gl g=some (x,v))(hk:c.kind x=some .globalImplicit){p:Pos}(hd:dbg x=false)(hq:Q v m) :
  wpAny (mod C) A (eval (.Name x p) F.env) (Out C F ρ s Q) E s:=by
 obtain ⟨mg,mb,h1,h2,_,h3,_⟩:=cx.glob
 obtain ⟨w,e1,e2⟩:=h3 g x v hm
 exact Calls.Name_function_global cx.fm.kind ((cx.kind x).trans hk) (Calls.loadGlobal_global (fR R.hp h1) e1 (bS R (e2 ρ s.heap R.hp.base) hq)) hd
theorem uP (cx:av C c F n)(R:Rel C F ρ m s){x:Str}{k:Nat}(hm:c.cn k=some x)(hk:c.kind x=some .globalImplicit){p:Pos}(hd:dbg x=false){P:Value→Shared→Prop}(h:∀a,C.ca k=some a→P (.ref a) s) :
  wpAny (mod C) A (eval (.Name x p) F.env) P E s:=by
 obtain ⟨mg,mb,h1,h2,_,_,_,h3,_⟩:=cx.glob
 obtain ⟨a,e1,e2⟩:=h3 k x hm
 exact Calls.Name_function_global cx.fm.kind ((cx.kind x).trans hk) (Calls.loadGlobal_global (fR R.hp h1) e2 (h a e1)) hd
theorem uQ (cx:av C c F n)(R:Rel C F ρ m s){x:Str}{k:Nat}(hm:c.xn k=some x)(hk:c.kind x=some .globalImplicit){p:Pos}(hd:dbg x=false){P:Value→Shared→Prop}(h:∀a,C.xa k=some a→P (.ref a) s) :
  wpAny (mod C) A (eval (.Name x p) F.env) P E s:=by
 obtain ⟨mg,mb,h1,h2,_,_,_,_,h3⟩:=cx.glob
 obtain ⟨a,e1,e2⟩:=h3 k x hm
 exact Calls.Name_function_global cx.fm.kind ((cx.kind x).trans hk) (Calls.loadGlobal_global (fR R.hp h1) e2 (h a e1)) hd
theorem fS (cx:av C c F n)(R:Rel C F ρ m s){i:Nat}{x:Str}(hx:c.nm i=some x)(hk:c.kind x=some .local∨(c.wr=true∧c.kind x≠some .free)){v:MV}{w:Value}(hr:Rep C ρ s.heap v w){P:Unit→Shared→Prop}
  (h:∀s',aq F.W ρ s ρ s'→Rel C F ρ (m.set i v) s'→(∀a∈ρ,∀o,s.heap.get? a=some o→s'.heap.get? a=some o)→P () s'):wpAny (mod C) A (storeName F.env x w) P E s:=by
 rcases cx.nm i x hx with ⟨k,e⟩ | ⟨a,k,e1,e⟩
 ·obtain ⟨f,hf⟩:=R.ns
  refine wpAny_storeName_local k hf (fun h' hn hs=>?_) (by rw [cx.fm.kind];rfl)
  obtain ⟨R',st⟩:=R.setName (s':={ s with heap:=h',toks:=s.toks+1 }) cx.fm e hf hn hs rfl rfl hr
  exact h _ st R' fun b hb o e=>(hs.2 b fun q=>(R.w _ (List.mem_append_left _ cx.fm.loc)).1 (q▸hb)).trans e
 ·rcases k with k | ⟨k,_⟩
  ·obtain ⟨v₀,hc⟩:=R.cells i a e
   refine wpAny_storeName_cell cx.fm.kind k e1 hc fun h' hn hs=>?_
   have hwr:c.wr=true:=hk.elim (fun q=>absurd ((cx.kind x).symm.trans k) (by rw [q];decide)) (·.1)
   obtain ⟨R',st⟩:=R.setCell (s':={ s with heap:=h' }) cx.fm e (cx.wr i a e hwr) hc hn hs rfl rfl hr
   exact h _ st R' fun b hb o eb=>(hs.2 b fun q=>(R.w _ (List.mem_append_left _ (cx.wr i a e hwr))).1 (q▸hb)).trans eb
  ·exact hk.elim (fun q=>absurd ((cx.kind x).symm.trans k) (by rw [q];decide)) fun q=>absurd ((cx.kind x).symm.trans k) q.2
noncomputable def uR:Me→Option Str
 | .append=>some "append"
 | .find=>some "find"
 | .extend=>some "extend"
 | .pop=>some "pop"
 | .split=>some "split"
 | .join=>some "join"
 | .count=>some "count"
 | .dpop=>some "pop"
 | .dclear=>some "clear"
 | .get=>some "get"
 | _=>none
inductive F9 (C:Glo)(ρ:List Addr)(hp:List MO)(h:Heap)(x:MV)(v:Value)(r:Nat)(xs:List MV):Prop
 | mk (a:Addr) (items:List Value) (k:Nat) (hv:v=.ref a) (hx:x=.ref r) (g:ρ[r]?=some a) (hi:hp[r]?=some (.list xs)) (gi:h.get? a=some (cW items k)) (rl:aA C ρ h xs items) (z:xs.length≤line)
inductive Ga (C:Glo)(ρ:List Addr)(hp:List MO)(h:Heap)(x:MV)(v:Value)(r:Nat)(es:List (List Nat × MV)):Prop
 | mk (a:Addr) (kvs:List (Str × Value)) (hv:v=.ref a) (hx:x=.ref r) (g:ρ[r]?=some a) (hi:hp[r]?=some (.dict es)) (dk:h.DictOf (strKind C.prog C.w) a kvs) (rk:dX C ρ h es kvs) (z:es.length≤line)
theorem hE (H:Hp C ρ m.heap s.heap){x:MV}{v:Value}(hx:Rep C ρ s.heap x v){r:Nat}{xs:List MV}(h:lst x m.heap=some (r,xs)):F9 C ρ m.heap s.heap x v r xs:=by
 obtain ⟨rfl,hi⟩:=xQ h
 obtain ⟨a,rfl,g⟩:=hx.inv
 obtain ⟨items,k,gi,rl,z⟩:=H.objs _ _ _ hi g
 exact ⟨a,items,k,rfl,rfl,g,hi,gi,rl,z⟩
theorem uS {x:MV}{hp:List MO}(h:(lst x hp).isSome=true):∃r xs,lst x hp=some (r,xs):=by
 obtain ⟨⟨r,xs⟩,h⟩:=Option.isSome_iff_exists.mp h
 exact ⟨r,xs,h⟩
theorem j9 (ok:aQ F){ρ₀:List Addr}{s₀:Shared}(st₀:aq F.W ρ₀ s₀ ρ s)(R:Rel C F ρ m s){r:Nat}{a:Addr}{xs ys:List MV}{items:List Value}{k:Nat}(g:ρ[r]?=some a)(hi:m.heap[r]?=some (.list xs)){h':Heap}{t:Nat}
  (hk:∀b ob,b≠a→s.heap.get? b=some ob→h'.get? b=some ob) (e:h'.get? a=some (cW items k)) (hr:aA C ρ s.heap ys items) (hz:ys.length≤line) {z:MV}{w:Value}(hw:Rep C ρ s.heap z w) (hq:Q z (m.put r (.list ys))) :
  Out C F ρ₀ s₀ Q w { s with heap:=h',toks:=t }:=by
 have hsol:aX s.heap h':=cc hk (bN (R.hp.objs _ _ _ hi g))
 obtain ⟨R₂,st₂⟩:=R.put (s':={ s with heap:=h',toks:=t }) ok g hi (o:=.list ys) hk rfl rfl ⟨items,k,e,hr.up hsol (List.prefix_refl _),hz⟩
 exact ⟨_,_,z,st₀.trans st₂,R₂,hw.up hsol (List.prefix_refl _),hq⟩
theorem ji {items ys:List Value}{f:Array Value→Array Value}{k:Nat}(e:f items.toArray=ys.toArray):∃k',Obj.mapSeq f (cW items k)=cW ys k':=
 ⟨if (f items.toArray).size==items.toArray.size then k else k+1,congrArg (fun z=>({ cls:=.type "list",data:=.seq z (if (f items.toArray).size==items.toArray.size then k else k+1) }:Obj)) e⟩
theorem uT {id:String}{v:Value}{trees:List (Bool × Sem Value)}{pos:Pos}{P:Value→Shared→Prop}(hp:trees.any (·.1)=false)
  (h:wpAny (mod C) A (spliced trees) (fun vs s₁=>wpAny (mod C) A (call (.builtin id) (v::vs)) P E s₁) E s):wpAny (mod C) A (callWith pos (.builtin id) [v] trees []) P E s:=by
 refine Calls.callWith_builtin hp ?_
 cases trees with
 | nil=>exact wpAny_bind (wpAny_mono h (fun vs s' h'=>wpAny_holding (wpAny_bind (wpAny_pure (wpAny_bind (wpAny_pure (wpAny_pure h')))))) fun _ _ x=>x)
 | cons q trees=>
  obtain ⟨b,t⟩:=q
  simp only [List.any_cons,Bool.or_eq_false_iff] at hp
  obtain ⟨rfl,_⟩:=hp
  exact Calls.evalArgs_plain h
end
end Internal
end
section
namespace Internal
open PySem PyProof.Rows
section
variable {C:Glo}{F:Fm}{X:XM}{ρ:List Addr}{m:MS}{s:Shared}{Q:PQ}{E:Value→Shared→Prop}{A:Around}{c:Cx}{n:Nat}
set_option tactic.hygienic true in
theorem pV {α:Type}(xs:List α):(xs.toArray.eraseIdxIfInBounds (xs.toArray.size-1))=xs.dropLast.toArray:=by
 rw [List.size_toArray]
 apply Array.ext'
 simp [Array.eraseIdxIfInBounds]
 split
 ·simp [List.dropLast_eq_take]
 ·rename_i h
  have:xs=[]:=by
   cases xs with
   | nil=>rfl
   | cons a r=>simp at h
  subst this;rfl
theorem BL (ok:aQ F){x:MV}{v:Value}{ρ₀:List Addr}{s₀:Shared}(st₀:aq F.W ρ₀ s₀ ρ s)(R:Rel C F ρ m s)(hx:Rep C ρ s.heap x v){xs:List MV}{vs:List Value}(rl:aA C ρ s.heap xs vs)(h:cV .pop x xs Q m) :
  wpAny (mod C) A (call (.builtin "list.pop") (v::vs)) (Out C F ρ₀ s₀ Q) E s:=by
 replace h:=h.2
 obtain ⟨r,ys,hl,rfl,j1⟩:=jE h
 obtain ⟨y,hy,j2⟩:=b8 j1
 obtain ⟨a,items,k,rfl,rfl,g,hi,gi,ri,z⟩:=hE R.hp hx hl
 cases rl with | nil=>
 obtain ⟨w,hw,rw'⟩:=ri.get hy
 have hsz:items.toArray.size=ys.length:=by rw [List.size_toArray,ri.length]
 refine call_meets PySem.F.slot_list_pop ⟨_,gi,rfl⟩ PySem.F.entry_list_pop (PySem.F.args_list_pop_1 _) (PySem.MeetsSeq.list_pop_last a items.toArray k w (by rw [hsz];simpa using hw) (by rw [hsz];exact z)) ⟨gi,?_⟩
 have hs:=Heap.SameBut.update s.heap a (Obj.mapSeq fun xs=>xs.eraseIdxIfInBounds (items.toArray.size-1))
 have hg:=Heap.get?_update_self (Obj.mapSeq fun xs=>xs.eraseIdxIfInBounds (items.toArray.size-1)) gi rfl
 obtain ⟨k₂,e₂⟩:=ji (k:=k) (f:=fun xs=>xs.eraseIdxIfInBounds (items.toArray.size-1)) (pV items)
 refine j9 ok st₀ R g hi (t:=s.toks) (fun b ob q e=>(hs.2 b q).trans e) (items:=items.dropLast) (k:=k₂) (hg.trans (congrArg some e₂)) ?_ (Nat.le_trans (by rw [List.length_dropLast];exact Nat.sub_le ..) z) rw' j2
 rw [List.dropLast_eq_take,List.dropLast_eq_take,ri.length]
 exact ri.take _
end
end Internal
end
section
namespace Internal
open PySem PyProof.Rows
section
variable {C:Glo}{F:Fm}{X:XM}{ρ:List Addr}{m:MS}{s:Shared}{Q:PQ}{E:Value→Shared→Prop}{A:Around}{c:Cx}{n:Nat}
theorem uU (ok:aQ F){x:List Nat}{t:Tok}{ρ₀:List Addr}{s₀:Shared}(st₀:aq F.W ρ₀ s₀ ρ s)(R:Rel C F ρ m s){xs:List MV}{vs:List Value}(rl:aA C ρ s.heap xs vs)(h:cV .split (.str x) xs Q m) :
  wpAny (mod C) A (call (.builtin "str.split") (.str (str x) t::vs)) (Out C F ρ₀ s₀ Q) E s:=by
 exact absurd (show gT=true∧_ from h).1 (by decide)
theorem yg (ok:aQ F){x:List Nat}{t:Tok}{ρ₀:List Addr}{s₀:Shared}(st₀:aq F.W ρ₀ s₀ ρ s)(R:Rel C F ρ m s){xs:List MV}{vs:List Value}(rl:aA C ρ s.heap xs vs)(h:cV .join (.str x) xs Q m) :
  wpAny (mod C) A (call (.builtin "str.join") (.str (str x) t::vs)) (Out C F ρ₀ s₀ Q) E s:=by
 exact absurd (show gT=true∧_ from h).1 (by decide)
end
end Internal
end
section
namespace Internal
open PySem PyProof.Rows
section
variable {C:Glo}{F:Fm}{X:XM}{ρ:List Addr}{m:MS}{s:Shared}{Q:PQ}{E:Value→Shared→Prop}{A:Around}{c:Cx}{n:Nat}
noncomputable def yh:Me→String
 | .append=>"list.append"
 | .extend=>"list.extend"
 | .pop=>"list.pop"
 | .find=>"str.find"
 | .count=>"list.count"
 | .dpop=>"dict.pop"
 | .dclear=>"dict.clear"
 | .get=>"dict.get"
 | .join=>"str.join"
 | _=>"str.split"
noncomputable def yi:Me→String
 | .dpop=>"dict"
 | .dclear=>"dict"
 | .get=>"dict"
 | .join=>"str"
 | .find=>"str"
 | .split=>"str"
 | _=>"list"
inductive MeF (T:String)(name:Str)(id:String):Prop
 | mk (pa:PlainAttrs T) (sl:Slot T name id) (ty:typeOf (.builtin id)=pure (.type "method_descriptor"))
noncomputable def MeP (k:Me):Prop:=match uR k with
 | some name=>MeF (yi k) name (yh k)
 | none=>True
theorem Gb (k:Me):MeP k:=by
 cases k with
 | append=>exact ⟨PySem.F.plainAttrs_list,slot_list_append,rfl⟩
 | extend=>exact ⟨PySem.F.plainAttrs_list,PySem.F.slot_list_extend,rfl⟩
 | pop=>exact ⟨PySem.F.plainAttrs_list,PySem.F.slot_list_pop,rfl⟩
 | dpop=>exact ⟨PySem.F.plainAttrs_dict,PySem.F.slot_dict_pop,PySem.F.type_dict_pop⟩
 | dclear=>exact ⟨PySem.F.plainAttrs_dict,PySem.F.slot_dict_clear,PySem.F.type_dict_clear⟩
 | count=>exact ⟨PySem.F.plainAttrs_list,PySem.F.slot_list_count,PySem.F.type_list_count⟩
 | find=>exact ⟨PySem.F.plainAttrs_str,PySem.F.slot_str_find,PySem.F.type_str_find⟩
 | split=>exact ⟨PySem.F.plainAttrs_str,PySem.F.slot_str_split,PySem.F.type_str_split⟩
 | join=>exact ⟨PySem.F.plainAttrs_str,PySem.F.slot_str_join,PySem.F.type_str_join⟩
 | get=>exact ⟨PySem.F.plainAttrs_dict,PySem.F.slot_dict_get,PySem.F.type_dict_get⟩
 | _=>exact trivial
theorem BM (ok:aQ F){x:MV}{v:Value}{ρ₀:List Addr}{s₀:Shared}(st₀:aq F.W ρ₀ s₀ ρ s)(R:Rel C F ρ m s)(hx:Rep C ρ s.heap x v){xs:List MV}{vs:List Value}(rl:aA C ρ s.heap xs vs)(h:cV .append x xs Q m) :
  wpAny (mod C) A (call (.builtin "list.append") (v::vs)) (Out C F ρ₀ s₀ Q) E s:=by
 dsimp only [cV] at h
 obtain ⟨r,ys,hl,j1⟩:=jE h
 obtain ⟨y,rfl,h1,h2⟩:=jF j1
 obtain ⟨a,items,k,rfl,rfl,g,hi,gi,ri,z⟩:=hE R.hp hx hl
 obtain ⟨w1,rfl,ra⟩:=rl.one
 refine PySem.wpAny_list_append_plain ⟨_,gi⟩ (fun h' hl hs=>?_) (by rw [List.size_toArray,ri.length];exact z)
 obtain ⟨n,hl⟩:=hl
 exact j9 ok st₀ R g hi (t:=s.toks) (fun b ob q e=>(hs.2 b q).trans e) (items:=items++[_]) (k:=n) (by rw [hl];simp) (ri.append (.cons ra .nil)) (by rw [List.length_append];exact h1) .none h2
theorem BN (ok:aQ F){x:MV}{v:Value}{ρ₀:List Addr}{s₀:Shared}(st₀:aq F.W ρ₀ s₀ ρ s)(R:Rel C F ρ m s)(hx:Rep C ρ s.heap x v){xs:List MV}{vs:List Value}(rl:aA C ρ s.heap xs vs)(h:cV .extend x xs Q m) :
  wpAny (mod C) A (call (.builtin "list.extend") (v::vs)) (Out C F ρ₀ s₀ Q) E s:=by
 dsimp only [cV] at h
 obtain ⟨r,ys,hl,j1⟩:=jE h
 obtain ⟨y,rfl,j2⟩:=jF j1
 obtain ⟨r',zs,hl',h1,h2⟩:=jE j2
 obtain ⟨a,items,k,rfl,rfl,g,hi,gi,ri,z⟩:=hE R.hp hx hl
 obtain ⟨w1,rfl,ra⟩:=rl.one
 obtain ⟨a',items',k',rfl,rfl,g',hi',gi',ri',z'⟩:=hE R.hp ra hl'
 have hlen:items.toArray.size+items'.toArray.size≤sizeLine:=by rw [List.size_toArray,List.size_toArray,ri.length,ri'.length];exact h1
 have hlong:¬(!items.toArray.isEmpty&&Builtin.List.listTooLong (items.toArray.size+items'.toArray.size))=true:=by
  have:Builtin.List.listTooLong (items.toArray.size+items'.toArray.size)=false:=by
   unfold Builtin.List.listTooLong
   simpa using hlen
  rw [this,Bool.and_false];decide
 refine call_meets PySem.F.slot_list_extend ⟨_,gi,rfl⟩ PySem.F.entry_list_extend (PySem.F.args_list_extend_2 _ _) (PySem.AutoSeq1.list_extend_list_list_0 a items.toArray k a' items'.toArray k' hlong (Nat.le_trans (Nat.le_add_right ..) hlen) (Nat.le_succ_of_le hlen)) ⟨gi,gi',?_⟩
 have hs:=Heap.SameBut.update s.heap a (Obj.mapSeq fun x=>x++items'.toArray)
 have hg:=Heap.get?_update_self (Obj.mapSeq fun x=>x++items'.toArray) gi rfl
 have e:items.toArray++items'.toArray=(items++items').toArray:=List.append_toArray ..
 obtain ⟨k₂,e₂⟩:=ji (k:=k) (f:=fun x=>x++items'.toArray) e
 exact j9 ok st₀ R g hi (t:=s.toks) (fun b ob q e=>(hs.2 b q).trans e) (items:=items++items') (k:=k₂) (hg.trans (congrArg some e₂)) (ri.append ri') (by rw [List.length_append];exact h1) .none h2
theorem yj (ok:aQ F){x:List Nat}{t:Tok}{ρ₀:List Addr}{s₀:Shared}(st₀:aq F.W ρ₀ s₀ ρ s)(R:Rel C F ρ m s){xs:List MV}{vs:List Value}(rl:aA C ρ s.heap xs vs)(h:cV .find (.str x) xs Q m) :
  wpAny (mod C) A (call (.builtin "str.find") (.str (str x) t::vs)) (Out C F ρ₀ s₀ Q) E s:=by
 dsimp only [cV] at h
 obtain ⟨y,rfl,j1⟩:=jF h
 obtain ⟨z,rfl,j2⟩:=mQ j1
 obtain ⟨_,rfl,ra⟩:=rl.one
 obtain ⟨u,rfl,zu⟩:=ra.inv
 refine PySem.SC.find ?_
 obtain ⟨R₂,st₂⟩:=R.tok ok (s.toks+1)
 refine ⟨_,_,_,st₀.trans st₂,R₂,.int _ _,j2 _ ?_⟩
 unfold Txt.find
 split<;>exact Int.natCast_nonneg _
theorem yk (H:Hp C ρ m.heap s.heap){x:MV}{v:Value}(hx:Rep C ρ s.heap x v){r:Nat}{es:List (List Nat × MV)}(h:dct x m.heap=some (r,es)):Ga C ρ m.heap s.heap x v r es:=by
 obtain ⟨rfl,hi⟩:=xS h
 obtain ⟨a,rfl,g⟩:=hx.inv
 obtain ⟨kvs,dk,rk,z⟩:=H.objs _ _ _ hi g
 exact ⟨a,kvs,rfl,rfl,g,hi,dk,rk,z⟩
theorem uV {x:MV}{hp:List MO}(h:(dct x hp).isSome=true):∃r xs,dct x hp=some (r,xs):=by
 obtain ⟨⟨r,xs⟩,h⟩:=Option.isSome_iff_exists.mp h
 exact ⟨r,xs,h⟩
theorem Es (ok:aQ F){ρ₀:List Addr}{s₀:Shared}(st₀:aq F.W ρ₀ s₀ ρ s)(R:Rel C F ρ m s){r:Nat}{a:Addr}{xs ys:List (List Nat × MV)}{kvs:List (Str × Value)}(g:ρ[r]?=some a)(hi:m.heap[r]?=some (.dict xs)){h':Heap}{t:Nat}
  (hk:∀b ob,b≠a→s.heap.get? b=some ob→h'.get? b=some ob) (e:h'.DictOf (strKind C.prog C.w) a kvs) (hr:dX C ρ s.heap ys kvs) (hz:ys.length≤line) {z:MV}{w:Value}(hw:Rep C ρ s.heap z w) (hq:Q z (m.put r (.dict ys))) :
  Out C F ρ₀ s₀ Q w { s with heap:=h',toks:=t }:=by
 have hsol:aX s.heap h':=cc hk (bN (R.hp.objs _ _ _ hi g))
 obtain ⟨R₂,st₂⟩:=R.put (s':={ s with heap:=h',toks:=t }) ok g hi (o:=.dict ys) hk rfl rfl ⟨kvs,e,hr.up hsol (List.prefix_refl _),hz⟩
 exact ⟨_,_,z,st₀.trans st₂,R₂,hw.up hsol (List.prefix_refl _),hq⟩
end
end Internal
end
section
namespace Internal
open PySem PyProof.Rows
section
variable {C:Glo}{F:Fm}{X:XM}{ρ:List Addr}{m:MS}{s:Shared}{Q:PQ}{E:Value→Shared→Prop}{A:Around}{c:Cx}{n:Nat}
theorem ym (ok:aQ F){x:MV}{v:Value}{ρ₀:List Addr}{s₀:Shared}(st₀:aq F.W ρ₀ s₀ ρ s)(R:Rel C F ρ m s)(hx:Rep C ρ s.heap x v){xs:List MV}{vs:List Value}(rl:aA C ρ s.heap xs vs)(h:cV .dpop x xs Q m) :
  wpAny (mod C) A (call (.builtin "dict.pop") (v::vs)) (Out C F ρ₀ s₀ Q) E s:=by
 exact absurd (show iL=true∧_ from h).1 (by decide)
theorem sL (ok:aQ F){x:MV}{v:Value}{ρ₀:List Addr}{s₀:Shared}(st₀:aq F.W ρ₀ s₀ ρ s)(R:Rel C F ρ m s)(hx:Rep C ρ s.heap x v){xs:List MV}{vs:List Value}(rl:aA C ρ s.heap xs vs)(h:cV .dclear x xs Q m) :
  wpAny (mod C) A (call (.builtin "dict.clear") (v::vs)) (Out C F ρ₀ s₀ Q) E s:=by
 exact absurd (show iL=true∧_ from h).1 (by decide)
theorem uW (ok:aQ F){x:MV}{v:Value}{ρ₀:List Addr}{s₀:Shared}(st₀:aq F.W ρ₀ s₀ ρ s)(R:Rel C F ρ m s)(hx:Rep C ρ s.heap x v){xs:List MV}{vs:List Value}(rl:aA C ρ s.heap xs vs)(h:cV .count x xs Q m) :
  wpAny (mod C) A (call (.builtin "list.count") (v::vs)) (Out C F ρ₀ s₀ Q) E s:=by
 exact absurd (show iL=true∧_ from h).1 (by decide)
end
end Internal
end
section
namespace Internal
open PySem PyProof.Rows
section
variable {C:Glo}{F:Fm}{X:XM}{ρ:List Addr}{m:MS}{s:Shared}{Q:PQ}{E:Value→Shared→Prop}{A:Around}{c:Cx}{n:Nat}
theorem yn (G:GOk C)(ok:aQ F){x:MV}{v:Value}{ρ₀:List Addr}{s₀:Shared}(st₀:aq F.W ρ₀ s₀ ρ s)(R:Rel C F ρ m s)(hx:Rep C ρ s.heap x v){xs:List MV}{vs:List Value}(rl:aA C ρ s.heap xs vs)(h:cV .get x xs Q m) :
  wpAny (mod C) A (call (.builtin "dict.get") (v::vs)) (Out C F ρ₀ s₀ Q) E s:=absurd (show t5=true∧_ from h).1 (by decide)
end
end Internal
end
section
namespace Internal
open PySem PyProof.Rows
section
variable {C:Glo}{F:Fm}{X:XM}{ρ:List Addr}{m:MS}{s:Shared}{Q:PQ}{E:Value→Shared→Prop}{A:Around}{c:Cx}{n:Nat}
theorem uX (G:GOk C)(ok:aQ F){k:Me}{x:MV}{v:Value}{ρ₀:List Addr}{s₀:Shared}(st₀:aq F.W ρ₀ s₀ ρ s)(R:Rel C F ρ m s)(hx:Rep C ρ s.heap x v){xs:List MV}{vs:List Value}(rl:aA C ρ s.heap xs vs)(h:cV k x xs Q m)(hk:(uR k).isSome=true)
  (hs:meK k=.str→∃y,x=.str y) :
  wpAny (mod C) A (call (.builtin (yh k)) (v::vs)) (Out C F ρ₀ s₀ Q) E s:=by
 refine Classical.byContradiction fun hn=>?_
 cases k with
 | append=>exact hn (BM ok st₀ R hx rl h)
 | extend=>exact hn (BN ok st₀ R hx rl h)
 | pop=>exact hn (BL ok st₀ R hx rl h)
 | dpop=>exact hn (ym ok st₀ R hx rl h)
 | dclear=>exact hn (sL ok st₀ R hx rl h)
 | count=>exact hn (uW ok st₀ R hx rl h)
 | get=>exact hn (yn G ok st₀ R hx rl h)
 | find=>
  obtain ⟨y,rfl⟩:=hs rfl
  obtain ⟨t,rfl,_⟩:=hx.inv
  exact hn (yj ok st₀ R rl h)
 | split=>
  obtain ⟨y,rfl⟩:=hs rfl
  obtain ⟨t,rfl,_⟩:=hx.inv
  exact hn (uU ok st₀ R rl h)
 | join=>
  obtain ⟨y,rfl⟩:=hs rfl
  obtain ⟨t,rfl,_⟩:=hx.inv
  exact hn (yg ok st₀ R rl h)
 | _=>exact ff hk
theorem yo (k:Me):yi k=match meK k with
  | .list=>"list"
  | .dict=>"dict"
  | .str=>"str":=by cases k<;>rfl
theorem BO (G:GOk C)(ok:aQ F){k:Me}{x:MV}{v:Value}{name:Str}(hn:uR k=some name){ρ₀:List Addr}{s₀:Shared}(st₀:aq F.W ρ₀ s₀ ρ s)(R:Rel C F ρ m s)(hx:Rep C ρ s.heap x v)(hm:lQ k x m.heap=true){trees:List (Bool × Sem Value)}{pos:Pos}
  (hp:trees.any (·.1)=false)
  (h:wpAny (mod C) F.A (spliced trees) (fun vs s₁=>∃ρ₁ m₁ xs,aq F.W ρ s ρ₁ s₁∧Rel C F ρ₁ m₁ s₁∧aA C ρ₁ s₁.heap xs vs∧cV k x xs Q m₁) E s) :
  MethodOn C.prog C.w F.A name pos v trees (Out C F ρ₀ s₀ Q) E s:=by
 have hk:(uR k).isSome=true:=by rw [hn];rfl
 have hf:=Gb k
 unfold MeP at hf
 rw [hn] at hf
 obtain ⟨pa,sl,ty⟩:=hf
 have go:(meK k=.str→∃y,x=.str y)→wpAny (mod C) F.A (callWith pos (.builtin (yh k)) [v] trees []) (Out C F ρ₀ s₀ Q) E s:=fun hs=>uT hp (wpAny_mono h (fun vs s₁ hr=>by obtain ⟨ρ₁,m₁,xs,st,R₁,rl,hw⟩:=hr;exact uX G ok (st₀.trans st) R₁ (hx.step st) rl hw hk hs) fun _ _ e=>e)
 have key:s.TypeIs v (yi k)∧(∀a,v=.ref a→∃o,s.heap.get? a=some o∧o.dict=none)∧(meK k=.str→∃y,x=.str y):=by
  have ht:=yo k
  unfold lQ at hm
  cases q:meK k with
  | list=>
   rw [q] at hm ht
   obtain ⟨r,ys,e⟩:=uS hm
   obtain ⟨a,items,k,rfl,_,_,_,gi,_⟩:=hE R.hp hx e
   exact ⟨by rw [ht];exact ⟨_,gi,rfl⟩,fun b e=>(by cases e;exact ⟨_,gi,rfl⟩),fun q=>nomatch q⟩
  | dict=>
   rw [q] at hm ht
   obtain ⟨r,ys,e⟩:=uV hm
   obtain ⟨a,kvs,rfl,_,_,_,dk,_⟩:=yk R.hp hx e
   exact ⟨by rw [ht];exact dk.typeIs,dk.mapOf.noDict,fun q=>nomatch q⟩
  | str=>
   rw [q] at hm ht
   obtain ⟨y,rfl⟩:=pH hm
   obtain ⟨t,rfl,_⟩:=hx.inv
   exact ⟨by rw [ht];exact typeIs_str _ _ _,fun a e=>(nomatch e),fun _=>⟨y,rfl⟩⟩
 exact ⟨yi k,yh k,pa,sl,ty,key.1,key.2.1,go key.2.2⟩
end
end Internal
end
section
namespace Internal
open PySem PyProof.Rows
noncomputable def Et (v:MV)(k:Const):Bool:=match v with
 | .none=>match k with
  | .none=>true
  | _=>false
 | .bool b=>match k with
  | .bool c=>b==c
  | _=>false
 | .int i=>match k with
  | .int j=>i==j
  | _=>false
 | .str s=>match k with
  | .str x=>x.cps.toList==s&&decide (s.length≤1000)
  | _=>false
 | _=>false
theorem al {a b:Bool}(h:(a&&b)=true):a=true∧b=true:=by rwa [Bool.and_eq_true] at h
theorem yp {a b:Bool}(h:(!a||b)=true):¬ a=true∨b=true:=by
 cases a with
 | true=>exact .inr h
 | false=>exact .inl (by decide)
theorem jj {a:Bool}(h:(!a)=true):a=false:=by cases a with
 | true=>exact ff h
 | false=>rfl
noncomputable def cv (c:Cx)(x:Str):Bool:=c.kind x==some .globalImplicit&&!dbg x
noncomputable def ke (c:Cx)(t:TS)(e:Expr):Bool:=ao (dF e) fun x=>ao (jA t) fun T=>x==Str.ofString T&&c.kind x==some .globalImplicit&&!dbg x
noncomputable def lZ (c:Cx)(x:Str):Bool:=c.kind x==some .local||(c.wr&&!(c.kind x==some .free))
theorem hJ {c:Cx}{x:Str}(h:lZ c x=true):c.kind x=some .local∨(c.wr=true∧c.kind x≠some .free):=by
 simpa [lZ] using h
noncomputable def dp (c:Cx):List Nat→List Expr→Bool
 | [],xs=>xs.isEmpty
 | i::t,xs=>match xs with
  | []=>false
  | e::r=>ao (dF e) (fun x=>c.nm i==some x&&lZ c x)&&dp c t r
noncomputable def lH (c:Cx)(t:List Nat)(many:Bool)(e:Expr):Bool:=match many with
 | false=>ao (dF e) fun x=>ao (one t) fun i=>c.nm i==some x&&lZ c x
 | true=>ao (pS e) (dp c t)
noncomputable def bF (e:Expr):List Str:=match pS e with
 | some elts=>elts.filterMap dF
 | none=>(dF e).toList
noncomputable def kf (kind:Str→Option NameKind)(names:List (Str × NameKind)):List (Str × NameKind):=names.map fun (n,k)=>if (k==.free&&kind n==some .cell) then (n,.cell) else (n,k)
noncomputable def Ax (c:Cx)(sc:Scope)(i:Nat):Option Str:=match c.nm i with
 | some x=>if sc.names.lookup x==some .free then some x else none
 | none=>none
noncomputable def d0 (c:Cx)(sc:Scope)(t:List Nat)(tn:List Str):Cx where
 kind x:=(kf c.kind sc.names).lookup x
 nm i:=match (t.zip tn).lookup i with
  | some x=>some x
  | none=>Ax c sc i
 fn:=c.fn
 gl:=c.gl
 wr:=false
 fr i:=c.fr i&&!t.contains i
 nh:=c.nh
 hf:=c.hf
 cn:=c.cn
 xn:=c.xn
 mt:=c.mt
 at_:=c.at_
noncomputable def uY (c:Cx)(x:Str):Bool:=(List.range 64).any (fun i=>c.nm i==some x)&&c.kind x != some .local&&!cdc x
noncomputable def nn (c:Cx)(sc:Scope)(t:List Nat)(tn:List Str):Bool:=
 sc.kind==.function&&sc.names.all (fun p=>p.2 != .cell&&(p.2 != .local||sc.names.lookup p.1==some .local)&&(p.2 != .free||uY c p.1))&&
  decide (t.length=tn.length)&&decide t.Nodup&&decide tn.Nodup&&t.all c.fr&&tn.all (fun x=>sc.names.lookup x==some .local)
noncomputable def uZ:IK→Str
 | .enum=>"enumerate"
 | _=>"range"
noncomputable def qY:IK→Bool
 | .val=>true
 | .keys=>true
 | _=>false
noncomputable def kg:IK→Bool
 | .keys=>true
 | _=>false
noncomputable def vr:ME→Option Nat
 | .var i=>some i
 | _=>none
noncomputable def lt2:ME→Option (ME × ME)
 | .cmp .lt a b=>some (a,b)
 | _=>none
noncomputable def ix2:ME→Option (ME × ME)
 | .idx a b=>some (a,b)
 | _=>none
noncomputable def u0 (elt:ME)(t:List Nat)(many:Bool)(ifs:List ME):Bool:=!many&&ao (vr elt) fun i=>t==[i]&&ao (one ifs) fun e=>ao (lt2 e) fun p=>ao (ix2 p.1) fun q=>(vr q.1).isSome&&(vr q.2).isSome&&(vr p.2).isSome
noncomputable def kh (c:Cx)(k:IK)(e:Expr):Option (List Expr):=if qY k then some [e] else (xFn e).bind fun q=>if cv c q.1&&q.1==uZ k&&!q.2.1.isEmpty then some q.2.1 else none
noncomputable def BP:Bi→Str→Str→Bool
 | .sortedSet,x,y=>D9&&x==("sorted":Str)&&y==("set":Str)
 | .listRev,x,y=>AS&&x==("list":Str)&&y==("reversed":Str)
 | _,_,_=>false
noncomputable def xSS (c:Cx)(b:Bi)(e:Expr):Option Expr:=(xFn e).bind fun q=>(one q.2.1).bind fun y=>(xFn y).bind fun r=>if BP b q.1 r.1&&cv c q.1&&cv c r.1 then one r.2.1 else none
noncomputable def yq:Bi→Bool
 | .sortedSet=>true
 | .listRev=>true
 | _=>false
noncomputable def ki:IK→Bool
 | .enum=>true
 | _=>false
noncomputable abbrev GV:=Nat × Int × List (List Nat) × List (List Nat × Int)
noncomputable def mvC (v:MV):Option GV:=match v with
 | .int i=>some (0,i,[],[])
 | .str s=>some (1,0,[s],[])
 | .gt ss=>some (2,0,ss,[])
 | .cdict es=>some (3,0,[],es)
 | _=>none
noncomputable def mvB (q:GV):MV:=match q.1 with
 | 0=>.int q.2.1
 | 1=>.str (q.2.2.1.headD [])
 | 2=>.gt q.2.2.1
 | _=>.cdict q.2.2.2
theorem ox {v:MV}{q:GV}(h:mvC v=some q):v=mvB q:=by
 cases v with
 | int i=>obtain rfl:=Option.some.inj h;rfl
 | str s=>obtain rfl:=Option.some.inj h;rfl
 | gt ss=>obtain rfl:=Option.some.inj h;rfl
 | cdict es=>obtain rfl:=Option.some.inj h;rfl
 | _=>exact az h
noncomputable def Eu (c:Cx)(g:Nat)(v:MV)(x:Str):Bool:=ao (c.gl g) fun q=>q.1==x&&ao (mvC q.2) fun a=>mvC v==some a
noncomputable def cM:List Str:=["opens","secrets","rows","numbers","turns","said"]
noncomputable def d2:List Str:=["names","kind","told","block","many","do_rows","do_row","do_loop"]
noncomputable def Ay (c:Cx)(t:TS)(e:Expr):Bool:=match t with
 | .cls k=>ao (dF e) fun x=>cv c x&&c.xn k==some x
 | .valueError=>ao (dF e) fun x=>cv c x&&x==("ValueError":Str)
 | t=>ke c t e
noncomputable def Gc:TS→Bool
 | .cls _=>true
 | .valueError=>true
 | _=>false
noncomputable def u3 (c:Cx)(ts:List TS)(e:Expr):Bool:=match ts with
 | [t]=>Ay c t e
 | [t,u]=>ao (pS e) fun us=>ao (two us) fun w=>ke c t w.1&&ke c u w.2
 | _=>false
mutual
noncomputable def aI:Cx→ME→Expr→Bool
 | c,.cst v,e=>ao (m7 e) (Et v)
 | c,.var i,e=>ao (dF e) fun x=>c.nm i==some x&&!dbg x
 | c,.glob g v,e=>ao (dF e) fun x=>cv c x&&Eu c g v x
 | c,.bin op a b,e=>ao (El e) fun p=>p.2.1==sq op&&aI c a p.1&&aI c b p.2.2
 | c,.neg a,e=>ao (xUn e) fun p=>p.1==.USub&&aI c a p.2
 | c,.not a,e=>ao (xUn e) fun p=>p.1==.Not&&aI c a p.2
 | c,.and es,e=>ao (uq e) fun p=>p.1==.And&&bh c es p.2
 | c,.or es,e=>ao (uq e) fun p=>p.1==.Or&&bh c es p.2
 | c,.cmp op a b,e=>ao (x2 e) fun p=>ao (one p.2.1) fun o=>ao (one p.2.2) fun r=>o==gv op&&okX r&&aI c a p.1&&aI c b r
 | c,.cmp2 op op' a b d,e=>ao (x2 e) fun p=>ao (two p.2.1) fun o=>ao (two p.2.2) fun r=>o.1==gv op&&o.2==gv op'&&okX r.1&&okX r.2&&aI c a p.1&&aI c b r.1&&aI c d r.2
 | c,.isN q a,e=>ao (x2 e) fun p=>ao (one p.2.1) fun o=>ao (one p.2.2) fun r=>o==(if q then .Is else .IsNot)&&m7 r==some .none&&aI c a p.1
 | c,.call f args,e=>ao (xFn e) fun q=>cv c q.1&&c.fn f==some q.1&&!q.2.1.isEmpty&&(c.nh||c.hf f)&&bh c args q.2.1
 | c,.blt b args,e=>if yq b then ao (xSS c b e) fun z=>c.nh&&bh c args [z] else ao (xFn e) fun q=>(c.nh||jK b)&&cv c q.1&&ao (lG b) (fun p=>q.1==p.1)&&!q.2.1.isEmpty&&bh c args q.2.1
 | c,.mth k o args,e=>ao (lY e) fun q=>uR k==some q.1.2.1&&j6 q.1.1&&(q.1.2.2.endLine==q.2.2.line)&&decide (q.2.1.length<20)&&aI c o q.1.1&&bh c args q.2.1
 | c,.umth k f x o args,e=>ao (lY e) fun q=>q.1.2.1.cps.toList==x&&d2.contains q.1.2.1&&c.mt f==some (k,q.1.2.1)&&(view q.1.1).tag==1&&(q.1.2.2.endLine==q.2.2.line)&&decide (q.2.1.length<20)&&(c.nh||c.hf f)&&aI c o q.1.1&&bh c args q.2.1
 | c,.new k f args,e=>ao (xFn e) fun q=>cv c q.1&&c.cn k==some q.1&&c.mt f==some (k,("__init__":Str))&&!q.2.1.isEmpty&&c.nh&&bh c args q.2.1
 | c,.attr k o x,e=>ao (qV e) fun q=>q.2.1.cps.toList==x&&cM.contains q.2.1&&c.at_ k q.2.1&&(view q.1).tag==1&&aI c o q.1
 | c,.idx o i,e=>ao (x3 e) fun p=>okX p.2&&aI c o p.1&&aI c i p.2
 | c,.sl o lo hi,e=>ao (x3 e) fun p=>ao (ut p.2) fun q=>q.2.2.isNone&&aI c o p.1&&BQ c lo q.1&&BQ c hi q.2.1
 | c,.list es,e=>ao (Av e) fun xs=>decide (es.length≤1000)&&bh c es xs
 | c,.tup es,e=>ao (pS e) fun xs=>decide (es.length≤1000)&&bh c es xs
 | c,.dict0,e=>ao (Aw e) fun p=>p.1.isEmpty&&p.2.isEmpty
 | c,.comp elt t many k src ifs,e=>ao (xLC e) fun p=>ao (one p.2.1) fun g=>c.nh&&g.is_async==0&&okX g.iter&&(!ki k||many)&&(!kg k||(qO&&u0 elt t many ifs))&&nn c p.2.2 t (bF g.target)&&ao (kh c k g.iter) (fun xs=>bh c src xs)&&
   lH (d0 c p.2.2 t (bF g.target)) t many g.target&&bh (d0 c p.2.2 t (bF g.target)) ifs g.ifs&&aI (d0 c p.2.2 t (bF g.target)) elt p.1
 | c,.isi a ts,e=>ao (xFn e) fun q=>ao (two q.2.1) fun v=>cv c q.1&&q.1==("isinstance":Str)&&okX v.1&&aI c a v.1&&u3 c ts v.2
noncomputable def bh:Cx→List ME→List Expr→Bool
 | c,[],xs=>xs.isEmpty
 | c,e::es,xs=>match xs with
  | []=>false
  | x::xs=>okX x&&aI c e x&&bh c es xs
noncomputable def BQ:Cx→Option ME→Option Expr→Bool
 | c,none,x=>x.isNone
 | c,some e,x=>match x with
  | some x=>aI c e x
  | none=>false
end
noncomputable def Call (C:Glo):KT:=fun n f vs Q X h=>∀(F:Fm) (m:MS) (s:Shared) (ρ:List Addr) (ws:List Value) (a:Addr),aQ F→(F.A.handled=none∨C.hf f=true)→m.heap=h→Rel C F ρ m s→aA C ρ s.heap vs ws→
 F.A.depth+n≤999→F.A.units≤3 * F.A.depth+4→C.fa f=some a→
  wpAny (mod C) F.A (call (.ref a) ws) (Out C F ρ s (fun v m'=>m'.vars=m.vars∧Q v m'.heap)) (Er C F (fun c m'=>m'.vars=m.vars∧X c m'.heap) ρ s) s
section
variable {C:Glo}{F:Fm}{X:XM}{ρ ρ₀:List Addr}{m:MS}{s s₀:Shared}{Q:PQ}{E:Value→Shared→Prop}{A:Around}{c:Cx}{n:Nat}
theorem WPv.go {t:Sem Value}{P:Value→Shared→Prop}(h:WPv C F X t Q m)(R:Rel C F ρ m s)(st₀:aq F.W ρ₀ s₀ ρ s)
  (k:∀ρ₁ s₁ m₁ x v,aq F.W ρ s ρ₁ s₁→aq F.W ρ₀ s₀ ρ₁ s₁→Rel C F ρ₁ m₁ s₁→Rep C ρ₁ s₁.heap x v→Q x m₁→P v s₁):wpAny (mod C) F.A t P (Er C F X ρ₀ s₀) s:=
 wpAny_mono (h s ρ R) (fun v s₁ ⟨ρ₁,m₁,x,a,b,c,d⟩=>k ρ₁ s₁ m₁ x v a (st₀.trans a) b c d) (Er.back st₀)
inductive Ew (C:Glo)(F:Fm)(k:Nat)(ρ:List Addr)(s:Shared)(Q:List MV→MS→Prop)(vs:List Value)(s':Shared):Prop
 | mk (ρ':List Addr) (m':MS) (xs:List MV) (st:aq F.W ρ s ρ' s') (R:Rel C F ρ' m' s') (rl:aA C ρ' s'.heap xs vs) (hl:xs.length=k) (hq:Q xs m'):Ew C F k ρ s Q vs s'
noncomputable def WPl (C:Glo)(F:Fm)(X:XM)(k:Nat)(t:Sem (List Value))(Q:List MV→MS→Prop)(m:MS):Prop:=
 ∀s ρ,Rel C F ρ m s→wpAny (mod C) F.A t (Ew C F k ρ s Q) (Er C F X ρ s) s
theorem WPl.go {t:Sem (List Value)}{P:List Value→Shared→Prop}{Q:List MV→MS→Prop}{l:Nat}(h:WPl C F X l t Q m)(R:Rel C F ρ m s)(st₀:aq F.W ρ₀ s₀ ρ s)
  (k:∀ρ₁ s₁ m₁ xs vs,aq F.W ρ s ρ₁ s₁→aq F.W ρ₀ s₀ ρ₁ s₁→Rel C F ρ₁ m₁ s₁→aA C ρ₁ s₁.heap xs vs→xs.length=l→Q xs m₁→P vs s₁):wpAny (mod C) F.A t P (Er C F X ρ₀ s₀) s:=
 wpAny_mono (h s ρ R) (fun v s₁ ⟨ρ₁,m₁,x,a,b,c,e,d⟩=>k ρ₁ s₁ m₁ x v a (st₀.trans a) b c e d) (Er.back st₀)
inductive BR (C:Glo)(F:Fm)(ρ:List Addr)(s:Shared)(Q:Bool→MS→Prop)(b:Bool)(s':Shared):Prop
 | mk (ρ':List Addr) (m':MS) (st:aq F.W ρ s ρ' s') (R:Rel C F ρ' m' s') (hq:Q b m'):BR C F ρ s Q b s'
noncomputable def WPt (C:Glo)(F:Fm)(X:XM)(t:Sem Bool)(Q:Bool→MS→Prop)(m:MS):Prop:=
 ∀s ρ,Rel C F ρ m s→wpAny (mod C) F.A t (BR C F ρ s Q) (Er C F X ρ s) s
theorem WPt.go {t:Sem Bool}{P:Bool→Shared→Prop}{Q:Bool→MS→Prop}(h:WPt C F X t Q m)(R:Rel C F ρ m s)(st₀:aq F.W ρ₀ s₀ ρ s)
  (k:∀ρ₁ s₁ m₁ b,aq F.W ρ s ρ₁ s₁→aq F.W ρ₀ s₀ ρ₁ s₁→Rel C F ρ₁ m₁ s₁→Q b m₁→P b s₁):wpAny (mod C) F.A t P (Er C F X ρ₀ s₀) s:=
 wpAny_mono (h s ρ R) (fun v s₁ ⟨ρ₁,m₁,a,b,d⟩=>k ρ₁ s₁ m₁ v a (st₀.trans a) b d) (Er.back st₀)
theorem u4 (R:Rel C F ρ m s)(ok:aQ F){P:Bool→MS→Prop}{v:Value}{s':Shared}(h:fe s (fun b=>P b m) v s'):∃b,v=.bool b∧∃m',aq F.W ρ s ρ s'∧Rel C F ρ m' s'∧P b m':=by
 obtain ⟨b,t,rfl,rfl,h⟩:=h
 obtain ⟨R',st⟩:=R.tok ok t
 exact ⟨b,rfl,m,st,R',h⟩
theorem u5 (R:Rel C F ρ m s)(ok:aQ F){v:MV}{k:Const}(hc:Et v k=true)(hq:Q v m){env:Env}{kd:Nat}{p:Pos}:wpAny (mod C) A (eval (.Constant k kd p) env) (Out C F ρ s Q) E s:=by
 refine Classical.byContradiction fun hn=>?_
 cases v with
 | none=>
  cases k with
  | none=>exact hn (wpAny_Constant_none (bS R .none hq))
  | _=>exact ff hc
 | bool b=>
  cases k with
  | bool c=>obtain rfl:=eq_of_beq hc;exact hn (wpAny_Constant_bool (bS R (.bool _) hq))
  | _=>exact ff hc
 | int i=>
  cases k with
  | int j=>obtain rfl:=eq_of_beq hc;exact hn (wpAny_Constant_int (bC R ok (.int _ _) hq))
  | _=>exact ff hc
 | str s'=>
  cases k with
  | str x=>
   obtain ⟨e,hl⟩:=al hc
   obtain rfl:x=str s':=by rw [←eq_of_beq e]
   exact hn (wpAny_Constant_str (bC R ok (.str _ _ (Nat.le_trans (of_decide_eq_true hl) (by decide))) hq))
  | _=>exact ff hc
 | _=>exact ff hc
theorem bm {p:Str × Value}(i:Nat)(h:b0[i]?=some p):p∈b0:=List.mem_of_getElem? h
theorem BS {b:Bi}{x:Str}{f:Value}(h:lG b=some (x,f)):(x,f)∈b0:=by
 cases b<;>cases h<;>first | exact bm 0 rfl | exact bm 1 rfl | exact bm 2 rfl | exact bm 3 rfl | exact bm 4 rfl | exact bm 5 rfl | exact bm 12 rfl | exact bm 13 rfl | exact bm 14 rfl | exact bm 16 rfl | exact bm 10 rfl
theorem pW {t:TS}{T:String}(h:jA t=some T):(Str.ofString T,Value.type T)∈b0:=by
 cases t<;>(first | exact az h | obtain rfl:=Option.some.inj h)<;>first | exact bm 1 rfl | exact bm 2 rfl | exact bm 3 rfl | exact bm 4 rfl | exact bm 5 rfl | exact bm 6 rfl
theorem aK {x:Str}(h:cv c x=true):c.kind x=some .globalImplicit∧dbg x=false:=by
 obtain ⟨h1,h2⟩:=al h
 exact ⟨eq_of_beq h1,by cases e:dbg x with
  | true=>rw [e] at h2;exact ff h2
  | false=>rfl⟩
theorem BU {b:Bi}{x:Str}{f:Value}(h:lG b=some (x,f)):(∃id,f=.builtin id)∨∃T,f=.type T:=by
 cases b<;>cases h<;>first | exact .inl ⟨_,rfl⟩ | exact .inr ⟨_,rfl⟩
theorem bO {es:List ME}{xs:List Expr}(h:bh c es xs=true)(pos:Pos)(env:Env):(backTo pos (starEach xs env)).any (·.1)=false:=by
 induction es generalizing xs with
 | nil=>cases xs with
  | nil=>rfl
  | cons=>exact ff h
 | cons e es ih=>
  cases xs with
  | nil=>exact ff h
  | cons x xs=>
   obtain ⟨h1,h2⟩:=Bool.and_eq_true_iff.mp h
   rw [bp (Bool.and_eq_true_iff.mp h1).1]
   show (false||(backTo pos (starEach xs env)).any (·.1))=false
   rw [ih h2];rfl
theorem d4 {f:Value}{trees:List (Bool × Sem Value)}{pos:Pos}{s:Shared}{A:Around}{E:Value→Shared→Prop}{P:Value→Shared→Prop}(hf:(∃id,f=.builtin id)∨∃T,f=.type T)(hp:trees.any (·.1)=false)(hne:trees≠[])
  (h:wpAny (mod C) A (spliced trees) (fun vs s₁=>wpAny (mod C) A (call f vs) P E s₁) E s):wpAny (mod C) A (callWith pos f [] trees []) P E s:=by
 obtain ⟨⟨b,t⟩,trees,rfl⟩:=List.exists_cons_of_ne_nil hne
 simp only [List.any_cons,Bool.or_eq_false_iff] at hp
 obtain ⟨rfl,hp⟩:=hp
 rcases hf with ⟨id,rfl⟩ | ⟨T,rfl⟩
 ·exact Calls.callWith_builtin (by simp [hp]) (Calls.evalArgs_plain h)
 ·exact PyProof.Rows.callWith_type (by simp [hp]) (Calls.evalArgs_plain h)
theorem Ex {v:Value}{s:Shared}{A:Around}{E:Value→Shared→Prop}{P:Bool→Shared→Prop}(h:∃b,v=.bool b∧P b s):wpAny (mod C) A (truthy v) P E s:=by
 obtain ⟨b,rfl,h⟩:=h;exact wpAny_truthy_bool h
end
end Internal
end
section
namespace Internal
open PySem PyProof.Rows
noncomputable def Shp (h:Heap)(a:Addr):Prop:=∃o,h.get? a=some o∧¬ gq o∧¬ IsD o
noncomputable def cI (C:Glo)(F:Fm)(ρ:List Addr)(h:Heap)(S:List Addr):Prop:=
 ∀a∈S,a∉ρ∧a∉F.W++F.V∧C.base.get? a=none∧Shp h a
noncomputable def dQ (S:List Addr)(s s':Shared):Prop:=(∀b o,b∉S→s.heap.get? b=some o→s'.heap.get? b=some o)∧s'.gens=s.gens∧s'.os=s.os
section
variable {C:Glo}{F:Fm}{X:XM}{c:Cx}{n:Nat}{ρ ρ' ρ₀:List Addr}{m:MS}{s s' s₀:Shared}{S:List Addr}{A:Around}
theorem dQ.trans {s'':Shared}(x:dQ S s s')(y:dQ S s' s''):dQ S s s'':=
 ⟨fun b o hb e=>y.1 b o hb (x.1 b o hb e),y.2.1.trans x.2.1,y.2.2.trans x.2.2⟩
theorem aq.side {W:List Addr}(x:aq W ρ₀ s₀ ρ s)(y:dQ S s s')(hS:∀a∈S,s₀.heap.get? a=none):aq W ρ₀ s₀ ρ s' where
 pre:=x.pre
 new:=x.new
 keep:=fun a o e h1 h2=>by
  have ha:a∉S:=fun h=>by rw [hS a h] at e;exact az e
  rcases x.keep a o e h1 h2 with e1 | ⟨hc,sl,e1⟩
  ·exact .inl (y.1 a _ ha e1)
  ·exact .inr ⟨hc,sl,y.1 a _ ha e1⟩
 solid:=fun a o e h=>y.1 a o (fun q=>by rw [hS a q] at e;exact az e) (x.solid a o e h)
 alive:=fun a o e=>let ⟨o',e'⟩:=x.alive a o e;⟨o',y.1 a o' (fun q=>by rw [hS a q] at e;exact az e) e'⟩
 gens:=y.2.1.trans x.gens
 os:=y.2.2.trans x.os
theorem dq (x:∀a∈S,Shp s.heap a)(y:dQ S s s'):aX s.heap s'.heap:=fun a o e h=>y.1 a o (fun q=>by
 obtain ⟨o',e',h',_⟩:=x a q
 obtain rfl:=same e e';exact h' h) e
theorem cI.solids (x:cI C F ρ s.heap S)(y:dQ S s s'):aX s.heap s'.heap:=dq (fun a ha=>(x a ha).2.2.2) y
theorem Rel.side0 (R:Rel C F ρ m s)(ok:aQ F)(hs:aX s.heap s'.heap)(x:∀a∈S,a∉ρ∧a∉F.W++F.V∧C.base.get? a=none)(hout:∀L∈F.frs,L∉S)(y:dQ S s s'):Rel C F ρ m s':=
 R.up ok hs (List.prefix_refl _) (R.hp.up hs (fun a ha o e=>y.1 a o (fun q=>(x a q).1 ha) e) fun b o e=>y.1 b o (fun q=>by rw [(x b q).2.2] at e;exact az e) (R.hp.base b o e)) (fun a h=>.inl h)
  (fun a ha o e=>⟨o,y.1 a o (fun q=>(x a q).2.1 ha) e,rfl,rfl⟩) (fun L hL o eo=>⟨o,y.1 L o (hout L hL) eo,rfl,rfl⟩) y.2.1
theorem sM (R:Rel C F ρ m s)(x:∀a∈S,Shp s.heap a):∀L∈F.frs,L∉S:=fun L hL q=>by
 obtain ⟨_,_,o,h1,h2⟩:=R.out L hL
 obtain ⟨o2,g1,_,g2⟩:=x L q
 obtain rfl:=same h1 g1
 exact g2 h2
theorem Rel.side (R:Rel C F ρ m s)(ok:aQ F)(x:cI C F ρ s.heap S)(y:dQ S s s'):Rel C F ρ m s':=
 R.side0 ok (x.solids y) (fun a ha=>⟨(x a ha).1,(x a ha).2.1,(x a ha).2.2.1⟩) (sM R fun a ha=>(x a ha).2.2.2) y
theorem cI.step (x:cI C F ρ s.heap S)(st:aq F.W ρ s ρ' s'):cI C F ρ' s'.heap S∧∀a∈S,∀o,s.heap.get? a=some o→s'.heap.get? a=some o:=by
 have keep:∀a∈S,∀o,s.heap.get? a=some o→s'.heap.get? a=some o:=fun a ha o e=>by
  obtain ⟨h1,h2,h3,o',e',h4,h6⟩:=x a ha
  obtain rfl:=same e e'
  rcases st.keep a o e h1 (fun q=>h2 (List.mem_append_left _ q)) with q | ⟨q,_⟩
  ·exact q
  ·exact absurd q h6
 refine ⟨fun a ha=>?_,keep⟩
 obtain ⟨h1,h2,h3,o',e',h4,h6⟩:=x a ha
 refine ⟨fun q=>(st.new a q).elim h1 fun q=>?_,h2,h3,o',keep a ha _ e',h4,h6⟩
 exact ba q e'
theorem cI.shape {h h':Heap}(x:cI C F ρ h S)(y:∀a∈S,Shp h' a):cI C F ρ h' S:=fun a ha=>⟨(x a ha).1,(x a ha).2.1,(x a ha).2.2.1,y a ha⟩
structure nq (C:Glo)(A:Around)(target:Expr)(itv:Value)(items:List MV)(g:Gd)(S U:List Addr)(It:Nat→List Addr→Shared→Prop):Prop where
 shape:∀i ρ s,It i ρ s→∀a∈S,Shp s.heap a
 keep:∀i ρ ρ' s s',It i ρ s→ρ<+:ρ'→aX s.heap s'.heap→(∀a∈S++U,∀o,s.heap.get? a=some o→s'.heap.get? a=some o)→It i ρ' s'
 item:∀i ρ hp s x,Hp C ρ hp s.heap→aO g hp→It i ρ s→items[i]?=some x→∀(E:Value→Shared→Prop) (N:Shared→Prop) (P:Value→Shared→Prop),
  (∀v s₂,dQ S s s₂→It (i+1) ρ s₂→Rep C ρ s₂.heap x v→P v s₂)→
   wpAny (mod C) A (pyNext itv) (fun r s₁=>match r with
    | none=>N s₁
    | some v=>wpAny (mod C) A (letOwnedTupleGo target itv v) (fun _ s₂=>P v s₂) E s₁) E s
 done:∀i ρ hp s,Hp C ρ hp s.heap→aO g hp→It i ρ s→items[i]?=none→∀(E:Value→Shared→Prop) (P:Shared→Prop),
  (∀s₂,dQ S s s₂→P s₂)→wpAny (mod C) A (pyNext itv) (fun r s₁=>r=none∧P s₁) E s
 self:∀i ρ s,It i ρ s→∀(E:Value→Shared→Prop) (P:Value→Shared→Prop),P itv s→wpAny (mod C) A (pyIter itv) P E s
theorem l7 {h:Heap}{o:Obj}{a:Addr}(R:Rel C F ρ m s)(ha:s.heap.get? a=none)(e:h.get? a=some o)(h1:¬ gq o)(h3:¬ IsD o) :
  a∉ρ∧a∉F.W++F.V∧C.base.get? a=none∧Shp h a:=by
 refine ⟨fun q=>?_,fun q=>?_,bM R.hp ha,o,e,h1,h3⟩
 ·obtain ⟨o',e'⟩:=R.hp.there q;exact ba ha e'
 ·obtain ⟨_,_,o',e',_⟩:=R.w a q;exact ba ha e'
theorem d5 {T:String}{o:Obj}(hc:o.cls=.type T)(hT:T≠"tuple"):¬ gq o:=fun h=>by
 unfold gq at h
 rw [hc] at h
 have hs:∀d,gJ (.type T) d=true→T="tuple":=fun d h=>by
  cases d with
  | seq=>exact eq_of_beq h
  | _=>exact ff h
 exact hT (hs _ h)
theorem cw {h:Heap}{a:Addr}{o:Obj}{T:String}(e:h.get? a=some o)(hc:o.cls=.type T)(hT:T≠"tuple")(hF:¬ IsD o):∀b∈[a],Shp h b:=by
 intro b hb
 have:b=a:=by exact List.mem_singleton.mp hb
 subst this
 exact ⟨o,e,d5 hc hT,hF⟩
noncomputable def BV (it l:Addr)(r:Nat):Nat→List Addr→Shared→Prop:=fun i ρ s=>s.heap.IsListIter it l i∧ρ[r]?=some l
theorem fU {a:Addr}{h':Heap}{t:Nat}(hs:Heap.SameBut a s.heap h'):dQ [a] s { s with heap:=h',toks:=t }:=⟨fun b o hb e=>(hs.2 b (by exact fun q=>hb (List.mem_singleton.mpr q))).trans e,rfl,rfl⟩
theorem hY {a:Addr}{h':Heap}{t:Nat}(hs:Heap.ExtBut a s.heap h'):dQ [a] s { s with heap:=h',toks:=t }:=⟨fun b o hb e=>hs b o (by exact fun q=>hb (List.mem_singleton.mpr q)) e,rfl,rfl⟩
noncomputable def bq (e:Expr):Bool:=(dF e).isSome||(pS e).isSome
theorem dH {target:Expr}(ht:bq target=true){it:Addr}{v:Value}{o:Obj}{A:Around}{E:Value→Shared→Prop}{P:Unit→Shared→Prop}(e:s.heap.get? it=some o){T:String}(hc:o.cls=.type T)
  (hT:(["enumerate","zip","dict_itemiterator","dict_reverseitemiterator","odict_iterator","itertools.zip_longest","itertools.pairwise"].contains T)=false) (h:P () s):wpAny (mod C) A (letOwnedTupleGo target (.ref it) v) P E s:=by
 unfold bq at ht
 rw [Bool.or_eq_true,Option.isSome_iff_exists,Option.isSome_iff_exists] at ht
 rcases ht with ⟨x,hx⟩ | ⟨xs,hx⟩
 ·obtain ⟨p,rfl⟩:=bZ hx
  exact wpAny_pure h
 ·obtain ⟨k,p,rfl⟩:=g8 hx
  unfold letOwnedTupleGo
  cases v with
  | ref a=>
   refine wpAny_bind (wpAny_load e ?_)
   rw [hc]
   cases o.data with
   | fields vs=>
    simp only [hT,Bool.false_and,Bool.false_eq_true,if_false]
    exact wpAny_pure h
   | _=>exact wpAny_pure h
  | _=>exact wpAny_pure h
theorem sN (hn:A.handled=none){target:Expr}(ht:bq target=true){it l:Addr}{r:Nat}{xs:List MV}:nq C A target (.ref it) xs (some (r,.list xs)) [it] [] (BV it l r) where
 shape:=fun i ρ s h=>by obtain ⟨⟨o,e,hc,hd⟩,_⟩:=h;exact cw e hc (by decide) (fun ⟨_,_,q⟩=>by rw [hd] at q;cases q)
 keep:=fun i ρ ρ' s s' h hp hs k=>by
  obtain ⟨⟨o,e,r1,r2⟩,e2⟩:=h
  exact ⟨⟨o,k it (by exact List.mem_singleton.mpr rfl) o e,r1,r2⟩,fK hp e2⟩
 item:=fun i ρ hp s x R hg h hx E N P k=>by
  obtain ⟨hit,e2⟩:=h
  obtain ⟨items,c,gi,rl,z⟩:=R.objs _ _ _ hg e2
  obtain ⟨v,hv,rv⟩:=rl.get hx
  have sh:∀a∈[it],Shp s.heap a:=by obtain ⟨o,e,hc,hd⟩:=id hit;exact cw e hc (by decide) (fun ⟨_,_,q⟩=>by rw [hd] at q;cases q)
  refine wpAny_pyNext_list_item hit ⟨_,gi,rfl,_,rfl⟩ (by exact (List.getElem?_toArray ..).trans hv) fun h' hit' hs=>?_
  have sd:=fU (t:=s.toks) hs
  obtain ⟨o,eo,hc,hd⟩:=id hit'
  refine dH ht (s:={ s with heap:=h' }) eo hc (by decide) (k v _ sd ⟨hit',e2⟩ (rv.up (dq sh sd) (List.prefix_refl _)))
 done:=fun i ρ hp s R hg h hx E P k=>by
  obtain ⟨hit,e2⟩:=h
  obtain ⟨items,c,gi,rl,z⟩:=R.objs _ _ _ hg e2
  refine wpAny_pyNext_list_end hn hit ⟨_,gi,rfl,_,rfl⟩ (i:=i) ?_ fun h' he=>⟨rfl,k _ (hY (t:=s.toks) he)⟩
  rw [List.getElem?_eq_none_iff] at hx
  simp [rl.length,hx]
 self:=fun i ρ s h E P hp=>wpAny_pyIter_listiter h.1 hp
noncomputable def Ey (C:Glo)(it t:Addr)(xs:List MV):Nat→List Addr→Shared→Prop:=
 fun i ρ s=>s.heap.IsTupleIter it t i∧∃items n,s.heap.get? t=some (mW items n)∧aA C ρ s.heap xs items
theorem u6 (hn:A.handled=none){target:Expr}(ht:bq target=true){it t:Addr}{xs:List MV}:nq C A target (.ref it) xs none [it] [] (Ey C it t xs) where
 shape:=fun i ρ s h=>by obtain ⟨⟨o,e,hc,hd⟩,_⟩:=h;exact cw e hc (by decide) (fun ⟨_,_,q⟩=>by rw [hd] at q;cases q)
 keep:=fun i ρ ρ' s s' h hp hs k=>by
  obtain ⟨⟨o,e,r1,r2⟩,items,n,e2,rl⟩:=h
  exact ⟨⟨o,k it (by exact List.mem_singleton.mpr rfl) o e,r1,r2⟩,items,n,hs _ _ e2 fJ,rl.up hs hp⟩
 item:=fun i ρ hp s x R hg h hx E N P k=>by
  obtain ⟨hit,items,n,e2,rl⟩:=h
  obtain ⟨v,hv,rv⟩:=rl.get hx
  have sh:∀a∈[it],Shp s.heap a:=by obtain ⟨o,e,hc,hd⟩:=id hit;exact cw e hc (by decide) (fun ⟨_,_,q⟩=>by rw [hd] at q;cases q)
  refine wpAny_pyNext_tuple_item hit ⟨_,e2,rfl,_,rfl⟩ (by exact (List.getElem?_toArray ..).trans hv) fun h' hit' hs=>?_
  have sd:=fU (t:=s.toks) hs
  have hsol:=dq sh sd
  obtain ⟨o,eo,hc,hd⟩:=id hit'
  refine dH ht (s:={ s with heap:=h' }) eo hc (by decide) (k v _ sd ⟨hit',items,n,hsol _ _ e2 fJ,rl.up hsol (List.prefix_refl _)⟩ (rv.up hsol (List.prefix_refl _)))
 done:=fun i ρ hp s R hg h hx E P k=>by
  obtain ⟨hit,items,n,e2,rl⟩:=h
  refine wpAny_pyNext_tuple_end hn hit ⟨_,e2,rfl,_,rfl⟩ (i:=i) ?_ fun h' he=>⟨rfl,k _ (hY (t:=s.toks) he)⟩
  rw [List.getElem?_eq_none_iff] at hx
  simp [rl.length,hx]
 self:=fun i ρ s h E P hp=>wpAny_pyIter_tupleiter h.1 hp
noncomputable def yr (it:Addr)(a:Int)(k:Nat):Nat→List Addr→Shared→Prop:=fun i ρ s=>IsRangeIter s.heap it (a+i) ((k:Int)-i) 1
theorem pX (hn:A.handled=none){target:Expr}(ht:bq target=true){it:Addr}{a:Int}{k:Nat}:nq C A target (.ref it) ((List.range k).map (fun (i:Nat)=>.int (a+i))) none [it] [] (yr it a k) where
 shape:=fun i ρ s h=>cw h rfl (by decide) (fun ⟨_,_,q⟩=>by cases q)
 keep:=fun i ρ ρ' s s' h hp hs k=>k it (by exact List.mem_singleton.mpr rfl) _ h
 item:=fun i ρ hp s x R hg hit hx E N P kk=>by
  simp only [List.getElem?_map,Option.map_eq_some_iff] at hx
  obtain ⟨j,hj,rfl⟩:=hx
  obtain ⟨hlt,hj⟩:=List.getElem?_eq_some_iff.mp hj
  simp at hj hlt;subst hj
  refine wpAny_pyNext_range_item hit (by lia) fun h' hit' hs=>?_
  have sd:=fU (t:=s.toks+1) hs
  have hit'':IsRangeIter h' it (a+((i+1:Nat):Int)) ((k:Int)-((i+1:Nat):Int)) 1:=by
   have e1:a+((i+1:Nat):Int)=a+i+1:=by lia
   have e2:(k:Int)-((i+1:Nat):Int)=k-i-1:=by lia
   rw [e1,e2];exact hit'
  exact dH ht (s:={ s with heap:=h',toks:=s.toks+1 }) hit' rfl (by decide) (kk _ _ sd hit'' (.int _ _))
 done:=fun i ρ hp s R hg hit hx E P kk=>by
  have hit:IsRangeIter s.heap it (a+i) ((k:Int)-i) 1:=hit
  rw [List.getElem?_eq_none_iff] at hx
  simp at hx
  exact wpAny_pyNext_range_end hn hit (by lia) fun h' he=>⟨rfl,kk _ (hY (t:=s.toks) he)⟩
 self:=fun i ρ s h E P hp=>wpAny_pyIter_rangeiter h hp
noncomputable def BW (e it l:Addr)(r:Nat):Nat→List Addr→Shared→Prop:=
 fun i ρ s=>(∃old,IsEnum s.heap e it i old)∧s.heap.IsListIter it l i∧ρ[r]?=some l
theorem nt {h':Heap}{e it l:Addr}{i:Nat}{j:Int}{old:Value}(h1:IsEnum h' e it j old)(h2:h'.IsListIter it l i):∀a∈[e,it],Shp h' a:=by
 intro a ha
 have:a=e∨a=it:=by simpa using ha
 rcases this with rfl | rfl
 ·exact cw h1 rfl (by decide) (fun ⟨_,_,q⟩=>by cases q) a (by exact List.mem_singleton.mpr rfl)
 ·obtain ⟨o,e1,e2,e3⟩:=h2
  exact cw e1 e2 (by decide) (fun ⟨_,_,q⟩=>by rw [e3] at q;cases q) a (by exact List.mem_singleton.mpr rfl)
theorem sP (hn:A.handled=none){elts:List Expr}{x1}{pos:Pos}{e it l:Addr}{r:Nat}{xs:List MV}(hne:e≠it):nq C A (.Tuple elts x1 pos) (.ref e) (xs.zipIdx.map (fun p=>.tup [.int p.2,p.1])) (some (r,.list xs)) [e,it] [] (BW e it l r) where
 shape:=fun i ρ s h=>by obtain ⟨⟨old,h1⟩,h2,_⟩:=h;exact nt h1 h2
 keep:=fun i ρ ρ' s s' h hp hs k=>by
  obtain ⟨⟨old,h1⟩,⟨o,e',r1,r2⟩,e2⟩:=h
  exact ⟨⟨old,k e (by exact List.mem_cons_self ..) _ h1⟩,⟨o,k it (by exact List.mem_cons_of_mem _ (List.mem_cons_self ..)) o e',r1,r2⟩,fK hp e2⟩
 item:=fun i ρ hp s x R hg h hx E N P kk=>by
  obtain ⟨⟨old,h1⟩,hit,e2⟩:=h
  have sh:=nt h1 hit
  obtain ⟨items,c,gi,rl,z⟩:=R.objs _ _ _ hg e2
  simp only [List.getElem?_map,Option.map_eq_some_iff] at hx
  obtain ⟨⟨y,j⟩,hj,rfl⟩:=hx
  rw [List.getElem?_zipIdx] at hj
  simp only [Option.map_eq_some_iff,Nat.zero_add] at hj
  obtain ⟨y',hy,hj⟩:=hj
  cases hj
  obtain ⟨v,hv,rv⟩:=rl.get hy
  refine wpAny_pyNext_enum_item h1 hit ⟨_,gi,rfl,_,rfl⟩ (by exact (List.getElem?_toArray ..).trans hv) hne fun h' he hit' ht hsz hk=>?_
  refine wpAny_letOwnedTupleGo_enum (s:={ s with heap:=h',toks:=s.toks+1 }) he fun h2 he2 hs2=>?_
  have hlt:s.heap.objs.size≠e:=fun q=>absurd (Heap.lt_size h1) (by rw [←q];exact Nat.lt_irrefl _)
  have ht2:h2.get? s.heap.objs.size=some (mW [.int i s.toks,v] 0):=(hs2.2 _ hlt).trans ht
  have hit2:h2.IsListIter it l (i+1):=by
   obtain ⟨o,e1,r⟩:=hit'
   exact ⟨o,(hs2.2 it (fun q=>hne q.symm)).trans e1,r⟩
  have sd:dQ [e,it] s { s with heap:=h2,toks:=s.toks+1 }:=⟨fun b o hb eb=>by
   simp at hb
   exact (hs2.2 b hb.1).trans (hk b o hb.1 hb.2 eb),rfl,rfl⟩
  refine kk _ _ sd ⟨⟨v,?_⟩,hit2,e2⟩ (.tup ht2 (.cons (.int _ _) (.cons (rv.up (dq sh sd) (List.prefix_refl _)) .nil)) (by unfold line;simp))
  have:(((i+1:Nat)):Int)=(i:Int)+1:=rfl
  rw [this];exact he2
 done:=fun i ρ hp s R hg h hx E P kk=>by
  obtain ⟨⟨old,h1⟩,hit,e2⟩:=h
  obtain ⟨items,c,gi,rl,z⟩:=R.objs _ _ _ hg e2
  rw [List.getElem?_eq_none_iff] at hx
  simp at hx
  refine wpAny_pyNext_enum_end hn h1 hit ⟨_,gi,rfl,_,rfl⟩ (by simp [rl.length,hx]) fun h' he=>⟨rfl,kk _ ⟨fun b o hb eb=>he b o (by simp at hb;exact hb.2) eb,rfl,rfl⟩⟩
 self:=fun i ρ s h E P hp=>by obtain ⟨⟨old,h1⟩,_⟩:=h;exact wpAny_pyIter_enum h1 hp
noncomputable def Ez (it:Addr)(x:List Nat)(t:Tok):Nat→List Addr→Shared→Prop:=fun i ρ s=>s.heap.IsStrIter it "str_ascii_iterator" (str x) t i
theorem u7 (hn:A.handled=none){target:Expr}(ht:bq target=true){it:Addr}{x:List Nat}{t:Tok}:nq C A target (.ref it) (x.map (fun c=>.str [c])) none [it] [] (Ez it x t) where
 shape:=fun i ρ s h=>by obtain ⟨o,e,hc,hd⟩:=h;exact cw e hc (by decide) (fun ⟨_,_,q⟩=>by rw [hd] at q;cases q)
 keep:=fun i ρ ρ' s s' h hp hs k=>by
  obtain ⟨o,e,r⟩:=h
  exact ⟨o,k it (by exact List.mem_singleton.mpr rfl) _ e,r⟩
 item:=fun i ρ hp s y R hg hit hx E N P kk=>by
  simp only [List.getElem?_map,Option.map_eq_some_iff] at hx
  obtain ⟨j,hj,rfl⟩:=hx
  refine wpAny_pyNext_ascii_item hit (c:=j) (by exact (List.getElem?_toArray ..).trans hj) fun h' hit' hs=>?_
  have sd:=fU (t:=s.toks+1) hs
  obtain ⟨o,eo,hc,hd⟩:=id hit'
  exact dH ht (s:={ s with heap:=h',toks:=s.toks+1 }) eo hc (by decide) (kk _ _ sd hit' (.str [j] _ (by unfold line;simp)))
 done:=fun i ρ hp s R hg hit hx E P kk=>by
  rw [List.getElem?_eq_none_iff] at hx
  simp at hx
  exact wpAny_pyNext_ascii_end hn hit (by simp [hx]) fun h' he=>⟨rfl,kk _ (hY (t:=s.toks) he)⟩
 self:=fun i ρ s h E P hp=>wpAny_pyIter_striter_ascii h hp
end
end Internal
end
section
namespace Internal
open PySem PyProof.Rows
noncomputable def SV (C:Glo)(X:XM)(n:Nat)(c:Cx)(F:Fm)(me:ME):Prop:=
 ∀(e:Expr),aI c me e=true→∀(Q:PQ) (m:MS),wpE (Call C) n me Q X m→WPv C F X (eval e F.env) Q m
section
variable {C:Glo}{F:Fm}{X:XM}{c:Cx}{n:Nat}{ρ ρ' ρ₀:List Addr}{m:MS}{s s' s₀:Shared}{A:Around}{E:Value→Shared→Prop}
theorem jk {t:List Nat}{many:Bool}{e:Expr}(h:lH c t many e=true):bq e=true:=by
 unfold bq
 cases many with
 | false=>obtain ⟨x,hx,_⟩:=ae h;rw [hx];rfl
 | true=>obtain ⟨x,hx,_⟩:=ae h;rw [hx];exact Bool.or_true _
theorem fV {t:List Nat}{e:Expr}(h:lH c t true e=true):∃elts k p,e=.Tuple elts k p∧dp c t elts=true:=by
 obtain ⟨elts,hx,h⟩:=ae h
 obtain ⟨k,p,e⟩:=g8 hx
 exact ⟨elts,k,p,e,h⟩
theorem oy {t:List Nat}{e:Expr}(h:lH c t false e=true):∃i x p,t=[i]∧e=.Name x p∧c.nm i=some x∧lZ c x=true:=by
 obtain ⟨x,hx,h⟩:=ae h
 obtain ⟨i,hi,h⟩:=ae h
 obtain ⟨p,e⟩:=bZ hx
 rw [Bool.and_eq_true,beq_iff_eq] at h
 exact ⟨i,x,p,bU hi,e,h.1,h.2⟩
inductive lI (kd:Bool)(C:Glo)(F:Fm)(target:Expr)(ρ:List Addr)(s:Shared)(P:List MV→Gd→MS→Prop)(itv:Value)(s₂:Shared):Prop
 | mk (ρ₂:List Addr) (m₂:MS) (items:List MV) (g:Gd) (S U:List Addr) (It:Nat→List Addr→Shared→Prop) (st:aq F.W ρ s ρ₂ s₂) (R:Rel C F ρ₂ m₂ s₂) (wk:nq C F.A target itv items g S U It) (h0:It 0 ρ₂ s₂) (as:cI C F ρ₂ s₂.heap S) (hS:∀a∈S,s.heap.get? a=none) (hl:items.length≤line) (hp:P items g m₂) (hU:kd=false→U=[]) (hUr:∀a∈U,a∈ρ₂):lI kd C F target ρ s P itv s₂
theorem cN {W:List Addr}(st:aq W ρ s ρ' s'){a:Addr}(h:s'.heap.get? a=none):s.heap.get? a=none:=by
 cases e:s.heap.get? a with
 | none=>rfl
 | some o=>obtain ⟨o',e'⟩:=st.alive a o e;exact ba h e'
theorem yt {kd:Bool}{U:List Addr}{target:Expr}{P:List MV→Gd→MS→Prop}{o:Obj}{items:List MV}{g:Gd}{It:Nat→List Addr→Shared→Prop}{T:String}(cx:av C c F n)(R:Rel C F ρ m s)(st₀:aq F.W ρ₀ s₀ ρ s)
  (hc:o.cls=.type T) (hT:T≠"tuple") (hF:¬ IsD o) (hf:o.isFreed=false) (wk:nq C F.A target (.ref s.heap.objs.size) items g [s.heap.objs.size] U It) (h0:∀s₂:Shared,s₂.heap=s.heap.push o→It 0 ρ s₂) (hl:items.length≤line) (hp:P items g m) (hU:kd=false→U=[]:=by exact fun _=>rfl) (hUr:∀a∈U,a∈ρ:=by exact fun _ h=>aN h) {tk:Nat} :
  lI kd C F target ρ₀ s₀ P (.ref s.heap.objs.size) { s with heap:=s.heap.push o,toks:=tk }:=by
 have hk:∀q ob,s.heap.get? q=some ob→(s.heap.push o).get? q=some ob:=fun q ob e=>Heap.get?_push_of_some _ e
 obtain ⟨R',st⟩:=R.grow (s':={ s with heap:=s.heap.push o,toks:=tk }) cx.fm hk rfl rfl
 have hnew:s.heap.get? s.heap.objs.size=none:=bB (Nat.le_refl _)
 refine ⟨ρ,m,items,g,_,U,It,st₀.trans st,R',wk,h0 _ rfl,?_,fun q hq=>?_,hl,hp,hU,hUr⟩
 ·intro q hq
  have:q=s.heap.objs.size:=by exact List.mem_singleton.mp hq
  subst this
  exact l7 R hnew (Heap.get?_push_size _ hf) (d5 hc hT) hF
 ·have:q=s.heap.objs.size:=by exact List.mem_singleton.mp hq
  subst this
  exact cN st₀ hnew
theorem u9 {kd:Bool}(cx:av C c F n)(hnh:c.nh=true)(R:Rel C F ρ m s)(st₀:aq F.W ρ₀ s₀ ρ s){target:Expr}(ht:bq target=true){a b:Int}{r:Addr}{t u v:Tok}(hr:IsRange s.heap r a b 1 t u v)
  (h1:-16777216≤a) (h2:a≤16777216) (h3:-16777216≤b) (h4:b≤16777216) (h5:(b-a).toNat≤line) {P:List MV→Gd→MS→Prop}(h:P ((List.range (b-a).toNat).map (fun (i:Nat)=>.int (a+i))) none m) :
  wpAny (mod C) A (pyIter (.ref r)) (lI kd C F target ρ₀ s₀ P) E s:=by
 refine wpAny_pyIter_range hr (small_one (by lia) (by lia) (by lia) (by lia)) ?_
 refine yt cx R st₀ (T:="range_iterator") rfl (by decide) (fun ⟨_,_,q⟩=>by cases q) rfl (pX (a:=a) (k:=(b-a).toNat) (cx.hn hnh) ht) (fun s₂ e=>?_) (by simpa using h5) h
 have e1:a+((0:Nat):Int)=a:=by lia
 have e2:(((b-a).toNat:Nat):Int)-((0:Nat):Int)=Builtin.Range.rangeSize a b 1:=by rw [rangeSize_one];split<;>lia
 show IsRangeIter _ _ _ _ _
 rw [e1,e2,e]
 exact Heap.get?_push_size _ rfl
theorem aW {e:ME}{es:List ME}{x:Expr}{xs:List Expr}(h:bh c (e::es) (x::xs)=true):(okX x=true∧aI c e x=true)∧bh c es xs=true:=by
 have h:(okX x&&aI c e x&&bh c es xs)=true:=h
 rwa [Bool.and_eq_true,Bool.and_eq_true] at h
theorem pY {src:List ME}{y:Expr}(h:bh c src [y]=true):∃a,src=[a]∧okX y=true∧aI c a y=true:=by
 cases src with
 | nil=>exact ff h
 | cons a r=>
  have h:=aW h
  cases r with
  | nil=>exact ⟨a,rfl,h.1⟩
  | cons=>cases h.2
theorem Ge {src:List ME}{y z:Expr}(h:bh c src [y,z]=true):∃a b,src=[a,b]∧(okX y=true∧aI c a y=true)∧okX z=true∧aI c b z=true:=by
 cases src with
 | nil=>exact ff h
 | cons a r=>
  have h:=aW h
  obtain ⟨b,rfl,hb⟩:=pY h.2
  exact ⟨a,b,rfl,h.1,hb⟩
theorem nu (G:GOk C)(cx:av C c F n):∀{es:List ME},(∀a∈es,SV C X n c F a)→∀(xs:List Expr),bh c es xs=true→∀(Q:List MV→MS→Prop) (m:MS),gk (Call C) n es Q X m→∀pos,WPl C F X es.length (spliced (backTo pos (starEach xs F.env))) Q m
 | [],ih,xs,hc,Q,m,h,pos=>by
  cases xs with
  | nil=>intro s ρ R;exact wpAny_items_nil ⟨_,_,_,.refl _ _ _,R,.nil,rfl,h⟩
  | cons=>exact ff hc
 | e::es,ih,xs,hc,Q,m,h,pos=>by
  cases xs with
  | nil=>exact ff hc
  | cons x xs=>
   obtain ⟨⟨hx,he⟩,hes⟩:=aW hc
   intro s ρ R
   refine wpAny_items_cons ((ih e (by exact List.mem_cons_self ..) x he _ m h).go R (.refl _ _ _) fun ρ₁ s₁ m₁ x v st t1 R₁ rx h₁=>?_) (bp hx _ _)
   refine (nu G cx (fun a ha=>ih a (List.mem_cons_of_mem _ ha)) xs hes _ m₁ h₁ pos).go R₁ t1 fun ρ₂ s₂ m₂ ys vs st2 t2 R₂ rl el h₂=>?_
   exact ⟨_,_,_,t2,R₂,.cons (rx.step st2) rl,by simp [el],h₂⟩
theorem fW {es:List ME}{xs:List Expr}(h:bh c es xs=true)(hn:xs.isEmpty=false)(pos:Pos)(env:Env):backTo pos (starEach xs env)≠[]:=by
 cases xs with
 | nil=>exact tf hn
 | cons x xs=>
  cases es with
  | nil=>exact ff h
  | cons e es=>
   rw [bp (aW h).1.1]
   exact List.cons_ne_nil _ _
theorem ma {hp:List MO}{r:Nat}{f:List MV→Its}{q:List MV × Gd}(h:(match hp[r]? with
  | some (.list xs)=>f xs
  | _=>none)=some q):∃xs,hp[r]?=some (.list xs)∧f xs=some q:=by
 cases e:hp[r]? with
 | none=>rw [e] at h;exact az h
 | some o=>
  rw [e] at h
  cases o with
  | list xs=>exact ⟨xs,rfl,h⟩
  | _=>exact az h
theorem mc {α:Type}{b:Bool}{x y:α}(h:(match b with
  | true=>some x
  | false=>none)=some y):b=true∧x=y:=by
 cases b with
 | true=>exact ⟨rfl,Option.some.inj h⟩
 | false=>exact az h
theorem vc {kd:Bool}(cx:av C c F n)(hnh:c.nh=true)(R:Rel C F ρ m s)(st₀:aq F.W ρ₀ s₀ ρ s){target:Expr}(ht:bq target=true){x:MV}{v:Value}(rx:Rep C ρ s.heap x v){items:List MV}{g:Gd}(hi:Ap m.heap x=some (items,g))
  {P:List MV→Gd→MS→Prop}(h:P items g m):wpAny (mod C) A (pyIter v) (lI kd C F target ρ₀ s₀ P) E s:=by
 have noD:∀{o:Obj} {vs:Array Value},o.data=.fields vs→¬ IsD o:=fun e ⟨_,_,q⟩=>nomatch e.symm.trans q
 refine Classical.byContradiction fun hn=>?_
 cases x with
 | ref r=>
  obtain ⟨la,rfl,gr⟩:=rx.inv
  obtain ⟨xs,hj,e⟩:=ma (r:=r) (f:=fun xs=>some (xs,some (r,.list xs))) hi
  cases e
  obtain ⟨items,n',gi,rl,z⟩:=R.hp.objs _ _ _ hj gr
  refine hn (wpAny_pyIter_list ⟨_,gi,rfl,_,rfl⟩ ?_)
  exact yt cx R st₀ (T:="list_iterator") rfl (by decide) (noD rfl) rfl (sN (cx.hn hnh) ht) (fun s₂ e=>⟨⟨_,by rw [e];exact Heap.get?_push_size _ rfl,rfl,rfl⟩,gr⟩) z h
 | tup xs=>
  obtain ⟨ta,k,its,rfl,gi,rl,z⟩:=rx.inv
  cases hi
  refine hn (wpAny_pyIter_tuple ⟨_,gi,rfl,_,rfl⟩ ?_)
  have hk:∀q ob,s.heap.get? q=some ob→(s.heap.push { cls:=.type "tuple_iterator",data:=.fields #[.ref ta,.int 0 0] }).get? q=some ob:=fun q o e=>Heap.get?_push_of_some _ e
  exact yt cx R st₀ (T:="tuple_iterator") rfl (by decide) (noD rfl) rfl (u6 (cx.hn hnh) ht) (fun s₂ e=>⟨⟨_,by rw [e];exact Heap.get?_push_size _ rfl,rfl,rfl⟩,_,_,by rw [e];exact hk _ _ gi,by rw [e];exact rl.up (fun a o e _=>hk a o e) (List.prefix_refl _)⟩) z h
 | str y=>
  obtain ⟨u,rfl,z⟩:=rx.inv
  obtain ⟨ha,e⟩:=mc hi
  cases e
  refine hn (wpAny_pyIter_ascii (by rw [←ha];simp) ?_)
  exact yt cx R st₀ (T:="str_ascii_iterator") rfl (by decide) (noD rfl) rfl (u7 (cx.hn hnh) ht) (fun s₂ e=>⟨_,by rw [e];exact Heap.get?_push_size _ rfl,rfl,rfl⟩) (by rw [List.length_map];exact z) h
 | _=>exact az hi
noncomputable def pZ:IK→Value
 | .enum=>.type "enumerate"
 | _=>.type "range"
theorem vd {x:MV}{q:List MV × Gd}(h:Bd x=some q):∃i,x=.int i:=by
 cases x with
 | int i=>exact ⟨i,rfl⟩
 | _=>exact az h
theorem yu {kd:Bool}(cx:av C c F n)(hnh:c.nh=true)(R:Rel C F ρ m s)(st₀:aq F.W ρ₀ s₀ ρ s){target:Expr}(ht:bq target=true){x:MV}{v:Value}(rx:Rep C ρ s.heap x v){items:List MV}{g:Gd}(hi:Bd x=some (items,g))
  {P:List MV→Gd→MS→Prop}(h:P items g m):wpAny (mod C) A (call (.type "range") [v]) (fun xv s₁=>wpAny (mod C) A (pyIter xv) (lI kd C F target ρ₀ s₀ P) E s₁) E s:=by
 obtain ⟨i,rfl⟩:=vd hi
 obtain ⟨t,rfl⟩:=rx.inv
 obtain ⟨hd,e⟩:=mc hi
 cases e
 have hd:=of_decide_eq_true hd
 refine call_range_1 ?_
 have hk:∀q o,s.heap.get? q=some o→(s.heap.push { cls:=.type "range",data:=.fields #[.int 0 s.toks,.int i t,.int 1 (s.toks+1)] }).get? q=some o:=fun q o e=>Heap.get?_push_of_some _ e
 obtain ⟨R',st'⟩:=R.grow (s':={ s with heap:=s.heap.push { cls:=.type "range",data:=.fields #[.int 0 s.toks,.int i t,.int 1 (s.toks+1)] },toks:=s.toks+1+1 }) cx.fm hk rfl rfl
 refine u9 cx hnh R' (st₀.trans st') ht (IsRange.new _ _ _ _ _ _ _) (by decide) (by decide) hd.1 hd.2 (by unfold line;lia) ?_
 simpa using h
theorem p8 {hp:List MO}{x:MV}{q:List MV × Gd}(h:pI hp x=some q):∃i,x=.ref i:=by
 cases x with
 | ref i=>exact ⟨i,rfl⟩
 | _=>exact az h
theorem sQ {kd:Bool}(cx:av C c F n)(hnh:c.nh=true)(R:Rel C F ρ m s)(st₀:aq F.W ρ₀ s₀ ρ s){elts:List Expr}{k':Nat}{p':Pos}{x:MV}{v:Value}(rx:Rep C ρ s.heap x v){items:List MV}{g:Gd}(hi:pI m.heap x=some (items,g))
  {P:List MV→Gd→MS→Prop}(h:P items g m):wpAny (mod C) A (call (.type "enumerate") [v]) (fun xv s₁=>wpAny (mod C) A (pyIter xv) (lI kd C F (.Tuple elts k' p') ρ₀ s₀ P) E s₁) E s:=by
 have hnew:s.heap.get? s.heap.objs.size=none:=bB (Nat.le_refl _)
 have hnew':s.heap.get? (s.heap.objs.size+1)=none:=bB (Nat.le_succ _)
 obtain ⟨r,rfl⟩:=p8 hi
 obtain ⟨la,rfl,gr⟩:=rx.inv
 obtain ⟨xs,hj,e⟩:=ma (r:=r) (f:=fun xs=>some (xs.zipIdx.map (fun (p:MV × Nat)=>.tup [.int p.2,p.1]),some (r,.list xs))) hi
 cases e
 obtain ⟨items,n',gi,rl,z⟩:=R.hp.objs _ _ _ hj gr
 refine call_enumerate_1 gi fun h' he hit hsz hk=>?_
 obtain ⟨R',st'⟩:=R.grow (s':={ s with heap:=h' }) cx.fm hk rfl rfl
 refine wpAny_pyIter_enum he ?_
 have hne:s.heap.objs.size+1≠s.heap.objs.size:=Nat.succ_ne_self _
 have hmem:∀q∈[s.heap.objs.size+1,s.heap.objs.size],s.heap.get? q=none:=fun q hq=>by
  rcases List.mem_cons.mp hq with rfl | hq
  ·exact hnew'
  ·rw [List.mem_singleton.mp hq];exact hnew
 refine ⟨ρ,m,_,_,_,[],_,st₀.trans st',R',sP (e:=s.heap.objs.size+1) (it:=s.heap.objs.size) (cx.hn hnh) hne,⟨⟨_,he⟩,hit,gr⟩,fun q hq=>?_,fun q hq=>cN st₀ (hmem q hq),by rw [List.length_map,List.length_zipIdx];exact z,h,fun _=>rfl,fun _ h=>aN h⟩
 obtain ⟨o,e1,e2,e3⟩:=nt he hit q hq
 exact l7 R (hmem q hq) e1 e2 e3
end
end Internal
end
section
namespace Internal
open PySem PyProof.Rows
section
variable {C:Glo}{F:Fm}{X:XM}{c:Cx}{n:Nat}{ρ ρ' ρ₀:List Addr}{m:MS}{s s' s₀:Shared}{A:Around}{E:Value→Shared→Prop}
theorem yw {kd:Bool}(cx:av C c F n)(hnh:c.nh=true)(R:Rel C F ρ m s)(st₀:aq F.W ρ₀ s₀ ρ s){target:Expr}(ht:bq target=true){x y:MV}{v w:Value}(rx:Rep C ρ s.heap x v)(ry:Rep C ρ s.heap y w){items:List MV}{g:Gd}(hi:DR x y=some (items,g))
  {P:List MV→Gd→MS→Prop}(h:P items g m):wpAny (mod C) A (call (.type "range") [v,w]) (fun xv s₁=>wpAny (mod C) A (pyIter xv) (lI kd C F target ρ₀ s₀ P) E s₁) E s:=by
 exact az hi
end
end Internal
end
section
namespace Internal
open PySem PyProof.Rows
section
variable {C:Glo}{F:Fm}{X:XM}{c:Cx}{n:Nat}{ρ ρ' ρ₀:List Addr}{m:MS}{s s' s₀:Shared}{A:Around}{E:Value→Shared→Prop}
theorem sR (G:GOk C)(cx:av C c F n)(hnh:c.nh=true)(R:Rel C F ρ m s)(st₀:aq F.W ρ₀ s₀ ρ s){target:Expr}(ht:bq target=true){x:MV}{v:Value}(rx:Rep C ρ s.heap x v){items:List MV}{g:Gd}(hi:cR .keys [x] m.heap=some (items,g))
  {P:List MV→Gd→MS→Prop}(h:P items g m):wpAny (mod C) A (pyIter v) (lI true C F target ρ₀ s₀ P) E s:=az hi
end
end Internal
end
section
namespace Internal
open PySem PyProof.Rows
section
variable {C:Glo}{F:Fm}{X:XM}{c:Cx}{n:Nat}{ρ ρ' ρ₀:List Addr}{m:MS}{s s' s₀:Shared}{A:Around}{E:Value→Shared→Prop}
theorem sS {kd:Bool}(cx:av C c F n)(hnh:c.nh=true)(R:Rel C F ρ m s)(st₀:aq F.W ρ₀ s₀ ρ s){k:IK}(hk:qY k=false){target:Expr}(ht:bq target=true)(hm:ki k=true→∃elts k p,target=.Tuple elts k p∧True){xs:List MV}{vs:List Value}(rl:aA C ρ s.heap xs vs){items:List MV}{g:Gd}
  (hi:cR k xs m.heap=some (items,g)) {P:List MV→Gd→MS→Prop}(h:P items g m):wpAny (mod C) A (call (pZ k) vs) (fun xv s₁=>wpAny (mod C) A (pyIter xv) (lI kd C F target ρ₀ s₀ P) E s₁) E s:=by
 refine Classical.byContradiction fun hn=>?_
 rcases xs with _ | ⟨x,_ | ⟨y,_ | ⟨z,r⟩⟩⟩
 ·exact az hi
 ·obtain ⟨v,rfl,rx⟩:=rl.one
  cases k with
  | val=>exact tf hk
  | range1=>exact hn (yu cx hnh R st₀ ht rx hi h)
  | range2=>exact az hi
  | enum=>obtain ⟨_,_,_,rfl,_⟩:=hm rfl;exact hn (sQ cx hnh R st₀ rx hi h)
  | keys=>exact tf hk
 ·obtain ⟨v,w,rfl,rx,ry⟩:=rl.two
  cases k with
  | range2=>exact hn (yw cx hnh R st₀ ht rx ry hi h)
  | _=>exact az hi
 ·exact az hi
theorem BX {k:IK}(hk:qY k=false):(uZ k,pZ k)∈b0:=by
 cases k with
 | val=>exact tf hk
 | range1=>exact bm 8 rfl
 | range2=>exact bm 8 rfl
 | enum=>exact bm 9 rfl
 | keys=>exact tf hk
theorem yx (k:IK):∃T,pZ k=.type T:=by
 cases k<;>exact ⟨_,rfl⟩
set_option tactic.hygienic true in
theorem qZ (G:GOk C)(cx:av C c F n)(hnh:c.nh=true){k:IK}{src:List ME}{e target:Expr}(hsrc:∀a∈src,SV C X n c F a){xs:List Expr}(hxs:kh c k e=some xs)(hc:bh c src xs=true)(htt:bq target=true)
  (hm:ki k=true→∃elts k p,target=.Tuple elts k p∧True)
  {P:List MV→Gd→MS→Prop}(h:gk (Call C) n src (fun vs m=>ue (cR k vs m.heap) fun items g=>P items g m) X m) (R:Rel C F ρ m s) :
  wpAny (mod C) F.A (eval e F.env) (fun xv s₁=>wpAny (mod C) F.A (pyIter xv) (lI (kg k) C F target ρ s P) (Er C F X ρ s) s₁) (Er C F X ρ s) s:=by
 unfold kh at hxs
 cases hv:qY k with
 | true=>
  rw [hv] at hxs
  obtain rfl:=Option.some.inj hxs
  obtain ⟨a,rfl,hx,hc⟩:=pY hc
  refine (hsrc a (.head _) e hc _ m h).go R (.refl _ _ _) fun ρ₁ s₁ m₁ x v st t1 R₁ rx h₁=>?_
  obtain ⟨items,g,hi,hp⟩:=n7 h₁
  cases k with
  | val=>exact vc cx hnh R₁ t1 htt rx hi hp
  | keys=>exact sR G cx hnh R₁ t1 htt rx hi hp
  | _=>exact ff hv
 | false=>
  rw [hv] at hxs
  obtain ⟨⟨x,ys,pos⟩,hx,hq⟩:=Option.bind_eq_some_iff.mp hxs
  obtain ⟨px,rfl⟩:=gK hx
  split at hq
  ·rename_i hg
   obtain rfl:=Option.some.inj hq
   simp only [Bool.and_eq_true,beq_iff_eq,Bool.not_eq_true'] at hg
   obtain ⟨⟨hg,rfl⟩,hne⟩:=hg
   refine PyProof.Rows.Call_Name rfl (cu cx R (BX hv) (aK hg).1 (aK hg).2 ?_)
   refine d4 (.inr (yx k)) (bO hc _ _) (fW hc hne _ _) ?_
   refine (nu G cx hsrc _ hc _ m h pos).go R (.refl _ _ _) fun ρ₁ s₁ m₁ xs vs st t1 R₁ rl el h₁=>?_
   obtain ⟨items,g,hi,hp⟩:=n7 h₁
   exact sS cx hnh R₁ t1 hv htt hm rl hi hp
  ·exact az hq
end
end Internal
end
section
set_option backward.match.sparseCases true
namespace Internal
open PySem PyProof.Rows
section
variable {C:Glo}{F:Fm}{X:XM}{c:Cx}{n:Nat}
theorem eu {Q:Bool→MS→Prop}{x:MV}{m:MS}(h:cS Q x m):∃b,x=.bool b∧Q b m:=by
 cases x with
 | bool b=>exact ⟨b,rfl,h⟩
 | _=>exact h.elim
theorem yy {K:KT}{i:Nat}{Q:PQ}{m:MS}(h:wpE K n (.var i) Q X m):∃v,m.get i=some v∧Q v m:=by
 have h:(match m.get i with | some v=>Q v m | none=>False):=h
 cases hv:m.get i with
 | some v=>rw [hv] at h;exact ⟨v,rfl,h⟩
 | none=>rw [hv] at h;exact h.elim
theorem svO (G:GOk C)(cx:av C c F n):∀{o:Option ME},(∀a,o=some a→SV C X n c F a)→∀(x:Option Expr),BQ c o x=true→∀(Q:Option MV→MS→Prop) (m:MS),wpO (Call C) n o Q X m→∀(s:Shared) (ρ:List Addr),Rel C F ρ m s→
  ∀(s₀:Shared) (ρ₀:List Addr) (P:Value→Shared→Prop),aq F.W ρ₀ s₀ ρ s→(∀ρ₁ s₁ m₁ x v,aq F.W ρ s ρ₁ s₁→aq F.W ρ₀ s₀ ρ₁ s₁→Rel C F ρ₁ m₁ s₁→g9 C ρ₁ s₁.heap x v→Q x m₁→P v s₁)→
   wpAny (mod C) F.A (evalPart x F.env) P (Er C F X ρ₀ s₀) s
 | none,ih,x,hc,Q,m,h,s,ρ,R,s₀,ρ₀,P,st,k=>by
  cases x with
  | none=>rw [evalPart_none];exact wpAny_pure (k ρ s m none .none (.refl _ _ _) st R rfl h)
  | some=>exact ff hc
 | some e,ih,x,hc,Q,m,h,s,ρ,R,s₀,ρ₀,P,st,k=>by
  cases x with
  | some x=>
   rw [evalPart_some]
   exact (ih e rfl _ hc _ m h).go R st fun ρ₁ s₁ m₁ x v st1 t1 R₁ rx h₁=>k ρ₁ s₁ m₁ (some x) v st1 t1 R₁ rx h₁
  | none=>exact ff hc
theorem Az (G:GOk C)(cx:av C c F n):∀{es:List ME},(∀a∈es,SV C X n c F a)→∀(xs:List Expr),bh c es xs=true→∀(Q:PQ) (m:MS),qR (Call C) n es Q X m→∀pos,WPv C F X (boolOp pos .And (evalEach xs F.env)) Q m
 | [],ih,xs,hc,Q,m,h,pos=>h.elim
 | [e],ih,xs,hc,Q,m,h,pos=>by
  cases xs with
  | nil=>exact ff hc
  | cons x xs=>
   replace hc:=aW hc
   cases xs with
   | nil=>exact ih e (by simp) x hc.1.2 Q m h
   | cons=>cases hc.2
 | e::e'::es,ih,xs,hc,Q,m,h,pos=>by
  cases xs with
  | nil=>exact ff hc
  | cons x xs=>
   replace hc:=aW hc
   cases xs with
   | nil=>cases hc.2
   | cons x' xs=>
    intro s ρ R
    show wpAny (mod C) F.A (do let v ←eval x F.env;standAt pos;let t ←holding [v] (truthy v);match BoolOp.And,t with | .And,false | .Or,true=>pure v | _,_=>boolOp pos .And (evalEach (x'::xs) F.env)) _ _ s
    refine wpAny_bind ((ih e (by simp) x hc.1.2 _ m h).go R (.refl _ _ _) fun ρ₁ s₁ m₁ y v st t1 R₁ rx h₁=>?_)
    obtain ⟨b,rfl,h₁⟩:=eu h₁
    ·obtain rfl:=rx.inv
     refine wpAny_bind (wpAny_standAt (wpAny_bind (wpAny_holding (wpAny_truthy_bool ?_))))
     cases b with
     | true=>exact wpAny_mono (Az G cx (fun a ha=>ih a (List.mem_cons_of_mem _ ha)) (x'::xs) hc.2 Q m₁ h₁ pos s₁ ρ₁ R₁) (Out.back t1) (Er.back t1)
     | false=>exact wpAny_pure (Out.back t1 _ _ (bS R₁ (.bool _) h₁))
theorem EA (G:GOk C)(cx:av C c F n):∀{es:List ME},(∀a∈es,SV C X n c F a)→∀(xs:List Expr),bh c es xs=true→∀(Q:PQ) (m:MS),xW (Call C) n es Q X m→∀pos,WPv C F X (boolOp pos .Or (evalEach xs F.env)) Q m
 | [],ih,xs,hc,Q,m,h,pos=>h.elim
 | [e],ih,xs,hc,Q,m,h,pos=>by
  cases xs with
  | nil=>exact ff hc
  | cons x xs=>
   replace hc:=aW hc
   cases xs with
   | nil=>exact ih e (by simp) x hc.1.2 Q m h
   | cons=>cases hc.2
 | e::e'::es,ih,xs,hc,Q,m,h,pos=>by
  cases xs with
  | nil=>exact ff hc
  | cons x xs=>
   replace hc:=aW hc
   cases xs with
   | nil=>cases hc.2
   | cons x' xs=>
    intro s ρ R
    show wpAny (mod C) F.A (do let v ←eval x F.env;standAt pos;let t ←holding [v] (truthy v);match BoolOp.Or,t with | .And,false | .Or,true=>pure v | _,_=>boolOp pos .Or (evalEach (x'::xs) F.env)) _ _ s
    refine wpAny_bind ((ih e (by simp) x hc.1.2 _ m h).go R (.refl _ _ _) fun ρ₁ s₁ m₁ y v st t1 R₁ rx h₁=>?_)
    obtain ⟨b,rfl,h₁⟩:=eu h₁
    ·obtain rfl:=rx.inv
     refine wpAny_bind (wpAny_standAt (wpAny_bind (wpAny_holding (wpAny_truthy_bool ?_))))
     cases b with
     | false=>exact wpAny_mono (EA G cx (fun a ha=>ih a (List.mem_cons_of_mem _ ha)) (x'::xs) hc.2 Q m₁ h₁ pos s₁ ρ₁ R₁) (Out.back t1) (Er.back t1)
     | true=>exact wpAny_pure (Out.back t1 _ _ (bS R₁ (.bool _) h₁))
theorem BZ (G:GOk C)(cx:av C c F n){v:MV} :SV C X n c F (.cst v):=by
 intro e hc Q m h
 replace hc:=ae hc
 obtain ⟨k,hx,hc⟩:=hc
 obtain ⟨_,_,rfl⟩:=iQ hx
 intro s ρ R;exact u5 R cx.fm hc h
theorem B1 (G:GOk C)(cx:av C c F n){i:Nat} :SV C X n c F (.var i):=by
 intro e hc Q m h
 replace hc:=ae hc
 obtain ⟨x,hx,hc⟩:=hc
 obtain ⟨_,rfl⟩:=bZ hx
 simp only [Bool.and_eq_true,beq_iff_eq,Bool.not_eq_true'] at hc
 obtain ⟨v,hv,h⟩:=yy h
 intro s ρ R;exact uO cx R hc.1 hv hc.2 h
theorem yz (G:GOk C)(cx:av C c F n){g:Nat}{v:MV} :SV C X n c F (.glob g v):=by
 intro e hc Q m h
 replace hc:=ae hc
 obtain ⟨x,hx,hc⟩:=hc
 obtain ⟨_,rfl⟩:=bZ hx
 simp only [Bool.and_eq_true] at hc
 obtain ⟨h1,h2⟩:=hc
 unfold Eu at h2
 replace h2:=ae h2
 obtain ⟨⟨y,w⟩,hg,h2⟩:=h2
 rw [Bool.and_eq_true] at h2
 obtain ⟨h3,h4⟩:=h2
 obtain ⟨a,ha,h4⟩:=ae h4
 cases eq_of_beq h3
 have e:v=w:=(ox (eq_of_beq h4)).trans (ox ha).symm
 subst e
 intro s ρ R;exact yf cx R hg (aK h1).1 (aK h1).2 h
theorem B2 (G:GOk C)(cx:av C c F n){op:Op}{a:ME}{b:ME}(ia:SV C X n c F a)(ib:SV C X n c F b):SV C X n c F (.bin op a b):=by
 intro e hc Q m h
 replace hc:=ae hc
 obtain ⟨⟨l,o,r⟩,hx,hc⟩:=hc
 obtain ⟨p,rfl⟩:=x4 hx
 simp only [Bool.and_eq_true,beq_iff_eq] at hc
 obtain ⟨⟨rfl,ha⟩,hb⟩:=hc
 intro s ρ R
 refine wpAny_BinOp ((ia l ha _ m h).go R (.refl _ _ _) fun ρ₁ s₁ m₁ x v st t1 R₁ rx h₁=>?_)
 refine (ib r hb _ m₁ h₁).go R₁ t1 fun ρ₂ s₂ m₂ y w st' t2 R₂ ry h₂=>?_
 exact wpAny_mono (Br R₂ cx.fm (rx.step st') ry h₂) (Out.back t2) fun _ _ x=>x
theorem B3 (G:GOk C)(cx:av C c F n){a:ME}(ia:SV C X n c F a):SV C X n c F (.neg a):=by
 intro e hc Q m h
 replace hc:=ae hc
 obtain ⟨⟨o,x⟩,hx,hc⟩:=hc
 obtain ⟨p,rfl⟩:=m8 hx
 simp only [Bool.and_eq_true,beq_iff_eq] at hc
 obtain ⟨rfl,hc⟩:=hc
 intro s ρ R
 refine wpAny_UnaryOp ((ia _ hc _ m h).go R (.refl _ _ _) fun ρ₁ s₁ m₁ x v st t1 R₁ rx h₁=>?_)
 obtain ⟨i,rfl,h₁⟩:=mR h₁
 obtain ⟨t,rfl⟩:=rx.inv
 exact PyProof.Rows.neg_int (Out.back t1 _ _ (bC R₁ cx.fm (.int _ _) h₁))
theorem B4 (G:GOk C)(cx:av C c F n){a:ME}(ia:SV C X n c F a):SV C X n c F (.not a):=by
 intro e hc Q m h
 replace hc:=ae hc
 obtain ⟨⟨o,x⟩,hx,hc⟩:=hc
 obtain ⟨p,rfl⟩:=m8 hx
 simp only [Bool.and_eq_true,beq_iff_eq] at hc
 obtain ⟨rfl,hc⟩:=hc
 intro s ρ R
 refine wpAny_UnaryOp ((ia _ hc _ m h).go R (.refl _ _ _) fun ρ₁ s₁ m₁ x v st t1 R₁ rx h₁=>?_)
 obtain ⟨b,rfl,h₁⟩:=eu h₁
 obtain rfl:=rx.inv
 exact not_value (wpAny_truthy_bool (Out.back t1 _ _ (bS R₁ (.bool _) h₁)))
theorem B6 (G:GOk C)(cx:av C c F n){es:List ME}(ies:∀a∈es,SV C X n c F a):SV C X n c F (.and es):=by
 intro e hc Q m h
 replace hc:=ae hc
 obtain ⟨⟨o,xs⟩,hx,hc⟩:=hc
 obtain ⟨p,rfl⟩:=g6 hx
 simp only [Bool.and_eq_true,beq_iff_eq] at hc
 obtain ⟨rfl,hc⟩:=hc
 exact Az G cx ies _ hc Q m h _
theorem EB (G:GOk C)(cx:av C c F n){es:List ME}(ies:∀a∈es,SV C X n c F a):SV C X n c F (.or es):=by
 intro e hc Q m h
 replace hc:=ae hc
 obtain ⟨⟨o,xs⟩,hx,hc⟩:=hc
 obtain ⟨p,rfl⟩:=g6 hx
 simp only [Bool.and_eq_true,beq_iff_eq] at hc
 obtain ⟨rfl,hc⟩:=hc
 exact EA G cx ies _ hc Q m h _
theorem nv (G:GOk C)(cx:av C c F n){op:Cmp}{x y:MV}{v w:Value}{ρ ρ₀:List Addr}{s s₀:Shared}{m:MS}{A:Around}(hA:A.units+1001<cLine){E:Value→Shared→Prop}{P:Bool→MS→Prop}{Q:Value→Shared→Prop}(R:Rel C F ρ m s)(t:aq F.W ρ₀ s₀ ρ s)(rx:Rep C ρ s.heap x v)(ry:Rep C ρ s.heap y w)(h:jd op x y P m)
  (k:∀b ρ' m' s',aq F.W ρ s ρ' s'→aq F.W ρ₀ s₀ ρ' s'→Rel C F ρ' m' s'→P b m'→Q (.bool b) s'):wpAny (mod C) A (compareOp (gv op) v w) Q E s:=
 wpAny_mono (Bw G R.hp rx ry hA h) (fun v s' hv=>by
  obtain ⟨b,rfl,m',st,R',hq⟩:=u4 R cx.fm hv
  exact k b _ m' s' st (t.trans st) R' hq) fun _ _ x=>x
theorem mf (G:GOk C)(cx:av C c F n){op:Cmp}{a b:ME}(ia:SV C X n c F a)(ib:SV C X n c F b){l r:Expr}(ha:aI c a l=true)(hb:aI c b r=true){P:Bool→MS→Prop}{m:MS}{s:Shared}{ρ:List Addr}(R:Rel C F ρ m s)
  (h:wpE (Call C) n a (fun x m=>wpE (Call C) n b (fun y m=>jd op x y P m) X m) X m) {Q:Value→Shared→Prop}(k:∀b ρ' m' s',aq F.W ρ s ρ' s'→Rel C F ρ' m' s'→P b m'→Q (.bool b) s') :
  wpAny (mod C) F.A (eval l F.env) (fun v s₁=>wpAny (mod C) F.A (eval r F.env) (fun w s₂=>wpAny (mod C) F.A (compareOp (gv op) v w) Q (Er C F X ρ s) s₂) (Er C F X ρ s) s₁) (Er C F X ρ s) s:=by
 refine (ia l ha _ m h).go R (.refl _ _ _) fun ρ₁ s₁ m₁ x v st t1 R₁ rx h₁=>?_
 refine (ib r hb _ m₁ h₁).go R₁ t1 fun ρ₂ s₂ m₂ y w st' t2 R₂ ry h₂=>?_
 exact nv G cx cx.u R₂ t2 (rx.step st') ry h₂ fun b ρ' m' s' _ st R' hq=>k b ρ' m' s' st R' hq
theorem B7 (G:GOk C)(cx:av C c F n){op:Cmp}{a:ME}{b:ME}(ia:SV C X n c F a)(ib:SV C X n c F b):SV C X n c F (.cmp op a b):=by
 intro e hc Q m h
 replace hc:=ae hc
 obtain ⟨⟨l,os,rs⟩,hxx,hc⟩:=hc
 replace hc:=ae hc
 obtain ⟨o,ho,hc⟩:=hc
 replace hc:=ae hc
 obtain ⟨r,hr,hc⟩:=hc
 cases bU ho
 cases bU hr
 obtain ⟨p,rfl⟩:=g7 hxx
 simp only [Bool.and_eq_true,beq_iff_eq] at hc
 obtain ⟨⟨⟨rfl,hx⟩,ha⟩,hb⟩:=hc
 intro s ρ R
 exact wpAny_Compare1 (mf G cx ia ib ha hb R h fun b ρ' m' s' st R' hq=>⟨_,_,_,st,R',.bool b,hq⟩) (fN hx _)
theorem yA {p:Bool}{ρ:List Addr}{h:Heap}{x:MV}{v:Value}(rx:Rep C ρ h x v):uh p x=(if p then (v==Value.none) else !(v==Value.none)):=by
 cases p with
 | true=>exact Rep.casesOn (motive_1:=fun x v _=>uh true x=(v==Value.none)) rx rfl (fun _=>rfl) (fun _ _=>rfl) (fun _ _ _=>rfl) (fun _ _ _=>rfl) (fun _=>rfl) (fun _ _ _=>rfl) (fun _ _ _ _=>rfl) (fun _ _ _=>rfl) (fun _ _ _=>rfl)
 | false=>exact Rep.casesOn (motive_1:=fun x v _=>uh false x=!(v==Value.none)) rx rfl (fun _=>rfl) (fun _ _=>rfl) (fun _ _ _=>rfl) (fun _ _ _=>rfl) (fun _=>rfl) (fun _ _ _=>rfl) (fun _ _ _ _=>rfl) (fun _ _ _=>rfl) (fun _ _ _=>rfl)
theorem oA (G:GOk C)(cx:av C c F n){p:Bool}{a:ME}(ia:SV C X n c F a){l:Expr}(ha:aI c a l=true){P:Bool→MS→Prop}{m:MS}{s:Shared}{ρ:List Addr}(R:Rel C F ρ m s)(h:wpE (Call C) n a (fun x m=>P (uh p x) m) X m){Q:Value→Shared→Prop}
  (k:∀b ρ' m' s',aq F.W ρ s ρ' s'→Rel C F ρ' m' s'→P b m'→Q (.bool b) s') {j:Nat}{q:Pos} :
  wpAny (mod C) F.A (eval l F.env) (fun v s₁=>wpAny (mod C) F.A (eval (.Constant .none j q) F.env) (fun w s₂=>wpAny (mod C) F.A (compareOp (if p then .Is else .IsNot) v w) Q (Er C F X ρ s) s₂) (Er C F X ρ s) s₁) (Er C F X ρ s) s:=by
 refine (ia l ha _ m h).go R (.refl _ _ _) fun ρ₁ s₁ m₁ x v st t1 R₁ rx h₁=>wpAny_Constant_none ?_
 rw [yA rx] at h₁
 have h₂:=k _ ρ₁ m₁ s₁ t1 R₁ h₁
 cases p with
 | true=>exact is_none h₂
 | false=>exact isNot_none h₂
theorem B8 (G:GOk C)(cx:av C c F n){p:Bool}{a:ME}(ia:SV C X n c F a):SV C X n c F (.isN p a):=by
 intro e hc Q m h
 replace hc:=ae hc
 obtain ⟨⟨l,os,rs⟩,hxx,hc⟩:=hc
 replace hc:=ae hc
 obtain ⟨o,ho,hc⟩:=hc
 replace hc:=ae hc
 obtain ⟨r,hr,hc⟩:=hc
 cases bU ho
 cases bU hr
 obtain ⟨p2,rfl⟩:=g7 hxx
 simp only [Bool.and_eq_true,beq_iff_eq] at hc
 obtain ⟨⟨rfl,hn⟩,ha⟩:=hc
 obtain ⟨_,_,rfl⟩:=iQ hn
 intro s ρ R
 exact wpAny_Compare1 (oA (P:=fun b m=>Q (.bool b) m) G cx ia ha R h fun b ρ' m' s' st R' hq=>⟨_,_,_,st,R',.bool b,hq⟩) rfl
theorem yB (G:GOk C)(cx:av C c F n){f:Nat}{args:List ME}(iargs:∀a∈args,SV C X n c F a):SV C X n c F (.call f args):=by
 intro e hc Q m h
 replace hc:=ae hc
 obtain ⟨⟨x,ys,pos⟩,hx,hc⟩:=hc
 obtain ⟨px,rfl⟩:=gK hx
 simp only [Bool.and_eq_true,beq_iff_eq,Bool.not_eq_true'] at hc
 obtain ⟨⟨⟨⟨hg,hf⟩,hne⟩,hnh⟩,ha⟩:=hc
 have hh:F.A.handled=none∨C.hf f=true:=by
  rcases Bool.or_eq_true_iff.mp hnh with q | q
  ·exact .inl (cx.hn q)
  ·exact .inr (cx.hf▸q)
 intro s ρ R
 refine PyProof.Rows.Call_Name rfl (ye cx R hf (aK hg).1 (aK hg).2 fun a hfa=>?_)
 have ha':=nu G cx iargs ys ha _ m h pos
 have hp:=bO ha pos F.env
 have hn:=fW ha hne pos F.env
 obtain ⟨⟨b,t⟩,trees,et⟩:=List.exists_cons_of_ne_nil hn
 rw [et] at ha' hp ⊢
 simp only [List.any_cons,Bool.or_eq_false_iff] at hp
 obtain ⟨rfl,hp⟩:=hp
 obtain ⟨o,fd,ho,hd⟩:=G.fns f a hfa
 refine Calls.callWith_function (o:=o) (fd:=fd) (Calls.evalArgs_plain (ha'.go R (.refl _ _ _) fun ρ₁ s₁ m₁ xs vs st t1 R₁ rl el h₁=>⟨⟨R₁.hp.base _ _ ho,hd⟩,?_⟩))
 refine wpAny_mono (h₁ F m₁ s₁ ρ₁ vs a cx.fm hh rfl R₁ rl cx.room cx.units hfa) (fun v s₂ hv=>?_) fun e s' x=>Er.back t1 e s' (Er.mono (fun k m' ⟨q1,q2⟩=>by rw [←q1] at q2;exact q2) e s' x)
 obtain ⟨ρ₂,m₂,x,st2,R₂,rx,e,hq⟩:=hv
 refine ⟨ρ₂,m₂,x,t1.trans st2,R₂,rx,?_⟩
 rw [←e] at hq;exact hq
theorem B9 (G:GOk C)(cx:av C c F n){k:Me}{o:ME}{args:List ME}(io:SV C X n c F o)(iargs:∀a∈args,SV C X n c F a):SV C X n c F (.mth k o args):=by
 intro e hc Q m h
 replace hc:=ae hc
 obtain ⟨⟨⟨ov,name,apos⟩,ys,pos⟩,hx,hc⟩:=hc
 have ee:=oj hx
 subst ee
 simp only [Bool.and_eq_true,beq_iff_eq,decide_eq_true_eq] at hc
 obtain ⟨⟨⟨⟨⟨hn,h0⟩,hl⟩,hz⟩,ho⟩,ha⟩:=hc
 intro s ρ R
 have hp:=bO ha pos F.env
 refine wpAny_Call_method_late (lD h0 _ _) ?_ (by simp [hl]) rfl ((io ov ho _ m h).go R (.refl _ _ _) fun ρ₁ s₁ m₁ x v st t1 R₁ rx h₁=>?_)
 ·rw [Bool.and_eq_true,Bool.and_eq_true]
  refine ⟨⟨?_,rfl⟩,?_⟩
  ·rw [List.all_eq_true];intro q hq
   rw [List.any_eq_false] at hp
   simpa using hp q hq
  ·simp;exact Nat.le_trans hz (nb rfl)
 ·obtain ⟨hm,h₁⟩:=gV h₁
  refine BO G cx.fm hn t1 R₁ rx hm hp ?_
  exact (nu G cx iargs ys ha _ m₁ h₁ pos).go R₁ t1 fun ρ₂ s₂ m₂ xs vs st2 t2 R₂ rl _ h₂=>⟨ρ₂,m₂,xs,st2,R₂,rl,h₂⟩
theorem Ca (G:GOk C)(cx:av C c F n){o:ME}{i:ME}(io:SV C X n c F o)(ii:SV C X n c F i):SV C X n c F (.idx o i):=by
 intro e hc Q m h
 replace hc:=ae hc
 obtain ⟨⟨v,sl⟩,hxx,hc⟩:=hc
 obtain ⟨p,rfl⟩:=m9 hxx
 simp only [Bool.and_eq_true] at hc
 obtain ⟨⟨hx,ho⟩,hi⟩:=hc
 intro s ρ R
 refine PyProof.Rows.Subscript_ ((io v ho _ m h).go R (.refl _ _ _) fun ρ₁ s₁ m₁ x v st t1 R₁ rx h₁=>?_)
 refine (ii sl hi _ m₁ h₁).go R₁ t1 fun ρ₂ s₂ m₂ y w st' t2 R₂ ry h₂=>?_
 exact wpAny_mono (Bx G R₂ (rx.step st') ry hx h₂) (fun v s' o=>Out.back t2 v s' (o.out R₂ cx.fm)) fun _ _ x=>x
theorem EC (G:GOk C)(cx:av C c F n){o:ME}{lo:Option ME}{hi:Option ME}(io:SV C X n c F o)(ilo:∀a,lo=some a→SV C X n c F a)(ihi:∀a,hi=some a→SV C X n c F a):SV C X n c F (.sl o lo hi):=by
 intro e hc Q m h
 replace hc:=ae hc
 obtain ⟨⟨v,sl⟩,hxx,hc⟩:=hc
 replace hc:=ae hc
 obtain ⟨⟨l,u,stp⟩,hx,hc⟩:=hc
 obtain ⟨p1,rfl⟩:=sv hx
 obtain ⟨p2,rfl⟩:=m9 hxx
 simp only [Bool.and_eq_true] at hc
 obtain ⟨⟨⟨hs,ho⟩,hlo⟩,hhi⟩:=hc
 cases stp with
 | some=>exact ff hs
 | none=>
 intro s ρ R
 refine PyProof.Rows.Subscript_ ((io v ho _ m h).go R (.refl _ _ _) fun ρ₁ s₁ m₁ x v st t1 R₁ rx h₁=>?_)
 refine wpAny_Slice ?_
 refine (svO G cx ilo l hlo _ m₁ h₁) s₁ ρ₁ R₁ _ _ _ t1 fun ρ₂ s₂ m₂ a va st2 t2 R₂ ra h₂=>?_
 refine (svO G cx ihi u hhi _ m₂ h₂) s₂ ρ₂ R₂ _ _ _ t2 fun ρ₃ s₃ m₃ b vb st3 t3 R₃ rb h₃=>?_
 rw [evalPart_none]
 refine wpAny_pure ?_
 have ra':g9 C ρ₃ s₃.heap a va:=by
  cases a with
  | none=>exact ra
  | some a=>exact ra.step st3
 exact wpAny_mono (Em R₃ cx.fm ((rx.step st2).step st3) ra' rb h₃) (Out.back t3) fun _ _ x=>x
theorem yC (G:GOk C)(cx:av C c F n){es:List ME}(ies:∀a∈es,SV C X n c F a):SV C X n c F (.list es):=by
 intro e hc Q m h
 replace hc:=ae hc
 obtain ⟨xs,hxx,hc⟩:=hc
 obtain ⟨p,rfl⟩:=uu hxx
 simp only [Bool.and_eq_true,decide_eq_true_eq] at hc
 intro s ρ R
 refine wpAny_List ((nu G cx ies xs hc.2 _ m h _).go R (.refl _ _ _) fun ρ₁ s₁ m₁ xs vs st t1 R₁ rl el h₁=>?_)
 have hz:xs.length≤line:=el▸Nat.le_trans hc.1 (by decide)
 exact ⟨by rw [rl.length];exact hz,Out.back t1 _ _ (jI R₁ cx.fm rl hz h₁)⟩
theorem Cb (G:GOk C)(cx:av C c F n){es:List ME}(ies:∀a∈es,SV C X n c F a):SV C X n c F (.tup es):=by
 intro e hc Q m h
 replace hc:=ae hc
 obtain ⟨xs,hxx,hc⟩:=hc
 obtain ⟨k,p,rfl⟩:=g8 hxx
 simp only [Bool.and_eq_true,decide_eq_true_eq] at hc
 intro s ρ R
 refine wpAny_Tuple ((nu G cx ies xs hc.2 _ m h _).go R (.refl _ _ _) fun ρ₁ s₁ m₁ xs vs st t1 R₁ rl el h₁=>?_)
 have hz:xs.length≤line:=el▸Nat.le_trans hc.1 (by decide)
 exact ⟨by rw [rl.length];exact hz,Out.back t1 _ _ (mX R₁ cx.fm rl hz h₁)⟩
theorem ve (G:GOk C)(cx:av C c F n)  :SV C X n c F (.dict0):=by
 intro e hc Q m h
 replace hc:=ae hc
 obtain ⟨⟨ks,vs⟩,hxx,hc⟩:=hc
 obtain ⟨p,rfl⟩:=uw hxx
 simp only [Bool.and_eq_true,List.isEmpty_iff] at hc
 obtain ⟨rfl,rfl⟩:=hc
 intro s ρ R
 refine wpAny_Dict_empty ?_
 have hk:∀a o,s.heap.get? a=some o→(s.heap.push { cls:=.type "dict",data:=.dict #[] }).get? a=some o:=fun a o e=>Heap.get?_push_of_some _ e
 obtain ⟨R',st⟩:=R.alloc (s':={ s with heap:=s.heap.push { cls:=.type "dict",data:=.dict #[] } }) cx.fm hk rfl rfl (o:=.dict []) (a:=s.heap.objs.size) (bB (Nat.le_refl _))
  ⟨[],Heap.DictOf.new _,.nil,Nat.zero_le _⟩
 exact ⟨_,_,_,st,R',.ref (i:=m.heap.length) (by rw [←R.hp.len,List.getElem?_append_right (Nat.le_refl _)];simp),h⟩
end
end Internal
end
section
namespace Internal
theorem jL:∀(a b:List Nat),slt a b=true↔a<b
 | [],[]=>⟨fun h=>ff h,fun h=>absurd h (List.lt_irrefl _)⟩
 | [],_::_=>⟨fun _=>List.nil_lt_cons ..,fun _=>rfl⟩
 | _::_,[]=>⟨fun h=>ff h,fun h=>absurd h (List.not_lt_nil _)⟩
 | a::x,b::y=>by
  rw [List.cons_lt_cons_iff]
  show (match decide (a<b),a==b with
   | true,_=>true
   | false,true=>slt x y
   | false,false=>false)=true↔_
  by_cases h:a<b
  ·rw [decide_eq_true h];exact ⟨fun _=>.inl h,fun _=>rfl⟩
  ·rw [decide_eq_false h]
   by_cases e:a=b
   ·subst e
    rw [beq_self_eq_true]
    exact ⟨fun q=>.inr ⟨rfl,(jL x y).mp q⟩,fun q=>q.elim (fun q=>absurd q h) fun q=>(jL x y).mpr q.2⟩
   ·rw [beq_false_of_ne e]
    exact ⟨fun q=>ff q,fun q=>q.elim (fun q=>absurd q h) fun q=>absurd q.1 e⟩
theorem kj {s x:List Nat}:∀{l:List (List Nat)},x∈pE s l↔x=s∨x∈l
 | []=>⟨fun h=>.inl (List.mem_singleton.mp h),fun h=>h.elim (fun h=>List.mem_singleton.mpr h) fun h=>aN h⟩
 | t::r=>by
  show x∈(match slt s t,s==t with
   | true,_=>s::t::r
   | false,true=>t::r
   | false,false=>t::pE s r)↔_
  cases h1:slt s t with
  | true=>simp
  | false=>
   cases h2:s==t with
   | true=>
    have:s=t:=by simpa using h2
    subst this
    simp
   | false=>
    simp only [List.mem_cons,kj (l:=r)]
    constructor
    ·rintro (h | h | h)
     ·exact .inr (.inl h)
     ·exact .inl h
     ·exact .inr (.inr h)
    ·rintro (h | h | h)
     ·exact .inr (.inl h)
     ·exact .inl h
     ·exact .inr (.inr h)
theorem aE {x:List Nat}:∀{l:List (List Nat)},x∈aS l↔x∈l
 | []=>Iff.rfl
 | s::r=>by show x∈pE s (aS r)↔_;rw [kj,aE,List.mem_cons]
theorem q6 {s:List Nat}:∀{l:List (List Nat)},l.Pairwise (· < ·)→(pE s l).Pairwise (· < ·)
 | [],_=>List.pairwise_singleton _ _
 | t::r,h=>by
  obtain ⟨h1,h2⟩:=List.pairwise_cons.mp h
  show (match slt s t,s==t with
   | true,_=>s::t::r
   | false,true=>t::r
   | false,false=>t::pE s r).Pairwise (· < ·)
  cases e1:slt s t with
  | true=>
   have hst:=(jL s t).mp e1
   exact List.pairwise_cons.mpr ⟨fun x hx=>by
    rcases List.mem_cons.mp hx with rfl | hx
    ·exact hst
    ·exact List.lt_trans hst (h1 x hx),h⟩
  | false=>
   cases e2:s==t with
   | true=>exact h
   | false=>
    have hne:s≠t:=by simpa using e2
    have hle:¬ s<t:=fun q=>by rw [(jL s t).mpr q] at e1;exact tf e1
    have hts:t<s:=by
     refine Or.elim (Classical.em (t<s)) (fun q=>?_) fun q=>?_
     ·exact q
     ·exact absurd (List.le_antisymm (List.not_lt.mp q) (List.not_lt.mp hle)) hne
    refine List.pairwise_cons.mpr ⟨fun x hx=>?_,q6 h2⟩
    rcases kj.mp hx with rfl | hx
    ·exact hts
    ·exact h1 x hx
theorem fX:∀(l:List (List Nat)),(aS l).Pairwise (· < ·)
 | []=>.nil
 | s::r=>q6 (fX r)
theorem vf:∀{l m:List (List Nat)},l.Pairwise (· < ·)→m.Pairwise (· < ·)→(∀x,x∈l↔x∈m)→l=m
 | [],[],_,_,_=>rfl
 | [],b::m,_,_,h=>by have:=(h b).mpr (List.mem_cons_self ..);exact aN this
 | a::l,[],_,_,h=>by have:=(h a).mp (List.mem_cons_self ..);exact aN this
 | a::l,b::m,hl,hm,h=>by
  obtain ⟨l1,l2⟩:=List.pairwise_cons.mp hl
  obtain ⟨m1,m2⟩:=List.pairwise_cons.mp hm
  have hab:a=b:=by
   refine Or.elim (List.mem_cons.mp ((h a).mp (List.mem_cons_self ..))) (fun q=>?_) fun q=>?_
   ·exact q
   ·rcases List.mem_cons.mp ((h b).mpr (List.mem_cons_self ..)) with q' | q'
    ·exact q'.symm
    ·exact absurd (List.lt_trans (m1 a q) (l1 b q')) (List.lt_irrefl _)
  subst hab
  congr 1
  refine vf l2 m2 fun x=>⟨fun hx=>?_,fun hx=>?_⟩
  ·refine Or.elim (List.mem_cons.mp ((h x).mp (List.mem_cons_of_mem _ hx))) (fun q=>?_) fun q=>?_
   ·subst q;exact absurd (l1 _ hx) (List.lt_irrefl _)
   ·exact q
  ·refine Or.elim (List.mem_cons.mp ((h x).mpr (List.mem_cons_of_mem _ hx))) (fun q=>?_) fun q=>?_
   ·subst q;exact absurd (m1 _ hx) (List.lt_irrefl _)
   ·exact q
end Internal
end
section
set_option maxRecDepth 100000
namespace Internal
open PySem PyProof.Rows
noncomputable abbrev fg (es:Array (Int × Value)) (ep:Nat) (t:SetTable):Obj:={ cls:=.type "set",dict:=none,data:=.set es ep t,slots:=#[] }
noncomputable abbrev bV (w:World):Bool:=w.params.followText "set-order"
theorem sW (t:SetTable)(j:Nat):(t.put j).1.led=t.led∧(t.put j).1.plain=t.plain:=by cases t;exact ⟨rfl,rfl⟩
theorem bv (t:SetTable)(n:Nat):(t.standIn n).led=t.led∧(t.standIn n).plain=false:=by cases t;exact ⟨rfl,rfl⟩
theorem jB (t:SetTable)(n:Nat):(t.orStandIn n).led=t.led∧((t.orStandIn n).plain=true→t.plain=true):=by
 unfold SetTable.orStandIn
 split
 ·exact ⟨rfl,id⟩
 ·exact ⟨(bv t n).1,fun h=>by rw [(bv t n).2] at h;exact ff h⟩
set_option tactic.hygienic true in
theorem p9 (t:SetTable)(es:Array (Int × Value))(h:Int)(x:Value):(layNew t es h x).2.1.led=t.led:=by
 unfold layNew
 split
 ·rename_i slot wd _
  show ((t.put slot).1.orStandIn _).led=_
  rw [(jB _ _).1,(sW t slot).1]
 ·exact (bv t _).1
theorem nw {t t':SetTable}{hs:Array Int}{w:Nat}{o:Array Nat}(h:t.relaid hs w=some (t',o)):t'.led=t.led∧t'.plain=t.plain:=by
 unfold SetTable.relaid SetTable.laid at h
 simp only [Option.bind_eq_bind,Option.bind_eq_some_iff,Option.pure_def,Option.some.injEq,Prod.mk.injEq] at h
 obtain ⟨_,_,rfl,_⟩:=h
 exact ⟨rfl,rfl⟩
set_option tactic.hygienic true in
theorem km (t:SetTable)(es:Array (Int × Value))(n:Nat):(relayAll t es n).2.1.led=t.led∧((relayAll t es n).2.1.plain=true→t.plain=true):=by
 unfold relayAll
 split
 ·rename_i t' order h
  obtain ⟨h1,h2⟩:=nw h
  dsimp only
  split
  ·exact ⟨h1,fun h=>by rw [←h2];exact h⟩
  ·exact ⟨(bv t _).1,fun h=>by rw [show _=false from (bv t _).2] at h;exact ff h⟩
 ·exact ⟨(bv t _).1,fun h=>by rw [show _=false from (bv t _).2] at h;exact ff h⟩
noncomputable def fh (prog:Program)(w:World)(h:Heap)(a:Addr)(ks:List Str):Prop:=
 ∃es ep t,h.get? a=some (fg es ep t)∧t.fits es.size=true∧t.led=!bV w∧(es.size=0∨t.plain=false)∧ElemsOf (PySem.strKind prog w) es.toList∧(es.toList.map (fun e=>strOf e.2)).Perm ks∧ks.Nodup
noncomputable def hZ (ks:List Str)(k:Str):List Str:=if k∈ks then ks else ks++[k]
theorem vg (ks:List Str)(k:Str):(hZ ks k).length≤ks.length+1:=by unfold hZ;split<;>simp
section
variable {prog:Program}{w:World}{A:Around}{E:Value→Shared→Prop}{s:Shared}{a:Addr}
theorem oB {l:List (Int × Value)}(h:ElemsOf (PySem.strKind prog w) l):∀e∈l,∃k t,e.2=.str k t:=fun e he=>by
 obtain ⟨⟨k,hk,_⟩,_⟩:=h e he
 obtain ⟨t,ht⟩:=Value.isStrOf_shape hk
 exact ⟨k,t,ht⟩
theorem oC {l:List (Int × Value)}(h:ElemsOf (PySem.strKind prog w) l)(k:Str):(∃e∈l,(PySem.strKind prog w).is k e.2=true)↔k∈l.map (fun e=>strOf e.2):=by
 constructor
 ·rintro ⟨e,he,hk⟩
  obtain ⟨t,ht⟩:=Value.isStrOf_shape hk
  exact List.mem_map.mpr ⟨e,he,by rw [ht];rfl⟩
 ·intro hk
  obtain ⟨e,he,hk⟩:=List.mem_map.mp hk
  obtain ⟨x,t,ht⟩:=oB h e he
  refine ⟨e,he,?_⟩
  rw [ht] at hk ⊢
  subst hk
  exact strKind_is _ _ _ _
theorem q7 {es:Array (Int × Value)}{ep:Nat}{t:SetTable}{es':Array (Int × Value)}{t':SetTable}(ho:s.heap.get? a=some (fg es ep t)) :
  (s.heap.update a (Obj.putSet es' t')).get? a=some (fg es' (ep+1) t'):=by
 have:=Heap.get?_update_self (Obj.putSet es' t') ho (by rw [putSet_of es' t' rfl];rfl)
 rw [putSet_of es' t' rfl] at this;exact this
theorem mh {g:Bool→Sem Unit}(hg:∀(b:Bool) (s₁:Shared) (Q':Unit→Shared→Prop),Q' () s₁→wpAny (model prog w) A (g b) Q' E s₁)
  {es:Array (Int × Value)}{ep:Nat}{t:SetTable}(ho:s.heap.get? a=some (fg es ep t)) {es1:Array (Int × Value)}{t2:SetTable}{ks:List Str}(hel1:ElemsOf (PySem.strKind prog w) es1.toList) (hb1:es1.size<scanBound) (hf2:t2.fits es1.size=true)
  (hled:t2.led=!bV w) (hpl:t2.plain=false) (hp1:(es1.toList.map (fun e=>strOf e.2)).Perm ks) (hn:ks.Nodup) {wasDummy:Bool}{R:Option Bool→Shared→Prop}
  (h:∀h',Heap.SameBut a s.heap h'→fh prog w h' a ks→R (some true) { s with heap:=h' }) :
  wpAny (model prog w) A (do
    storeSet a es1 t2
    if (!wasDummy&&t2.tooFull)=true then do
      g (relayAll t2 es1 (SetTable.grown es1.size)).2.2
      storeSet a (relayAll t2 es1 (SetTable.grown es1.size)).1 (relayAll t2 es1 (SetTable.grown es1.size)).2.1
      pure (some true)
     else pure (some true)) R E s:=by
 refine wpAny_bind (wpAny_storeSet_of ho rfl ?_ (fits_of_scanBound hb1))
 have ho1:=q7 (s:=s) (es':=es1) (t':=t2) ho
 have hsb1:=Heap.SameBut.update s.heap a (Obj.putSet es1 t2)
 split
 ·have hp:=relayAll_perm t2 es1 (SetTable.grown es1.size)
  have hfr:=relayAll_fits t2 es1 (SetTable.grown es1.size)
  have hmk:=km t2 es1 (SetTable.grown es1.size)
  generalize relayAll t2 es1 (SetTable.grown es1.size)=Rl at hp hfr hmk ⊢
  obtain ⟨es2,t3,gave2⟩:=Rl
  dsimp only at hp hfr hmk ⊢
  have hsz:es2.size=es1.size:=by rw [←Array.length_toList,hp.length_eq,Array.length_toList]
  refine wpAny_bind (hg _ _ _ (wpAny_bind (wpAny_storeSet_of ho1 rfl ?_ (fits_of_scanBound (by rw [hsz];exact hb1)))))
  have ho2:=q7 (s:={ s with heap:=s.heap.update a (Obj.putSet es1 t2) }) (es':=es2) (t':=t3) ho1
  refine wpAny_pure (h _ (hsb1.trans (Heap.SameBut.update _ a _)) ⟨es2,_,t3,ho2,hfr,hmk.1.trans hled,.inr ?_,hel1.perm hp,(hp.map _).trans hp1,hn⟩)
  cases q:t3.plain with
  | false=>rfl
  | true=>rw [hpl] at hmk;exact absurd (hmk.2 q) (by decide)
 ·exact wpAny_pure (h _ hsb1 ⟨es1,_,t2,ho1,hf2,hled,.inr hpl,hel1,hp1,hn⟩)
set_option tactic.hygienic true in
theorem ED {ks:List Str}{k:Str}{tk:Tok}{Q:Bool→Shared→Prop}(hS:fh prog w s.heap a ks)(hroom:ks.length+1<scanBound)
  (h:∀b h',Heap.SameBut a s.heap h'→fh prog w h' a (hZ ks k)→Q b { s with heap:=h' }):wpAny (model prog w) A (setAddHashed a (.str k tk) ((PySem.strKind prog w).hash k)) Q E s:=by
 obtain ⟨es,ep,t,ho,hf,hled,hpl,hel,hp,hn⟩:=hS
 have hlen:es.size=ks.length:=by rw [←hp.length_eq,List.length_map,Array.length_toList]
 have hb:es.size<scanBound:=by rw [hlen];exact n1 hroom (by simp +arith only)
 have hkey:(PySem.strKind prog w).is k (.str k tk)=true:=strKind_is _ _ _ _
 unfold setAddHashed setAddHashedIn
 refine wpAny_holding (wpAny_bind (wpAny_setState_of ho rfl hf ?_))
 dsimp only
 rw [byScan_of (knd:=PySem.strKind prog w) (x:=.str k tk) rfl hb hel]
 simp only [↓reduceIte]
 unfold setAddByScan
 refine wpAny_bind (wpAny_bind (wpAny_rule (wpAny_bind (wpAny_setScan_of hkey ho rfl hf hel ?_))))
 cases hr:List.findIdx? (fun e=>(PySem.strKind prog w).is k e.2) es.toList with
 | some j=>
  dsimp only
  obtain ⟨hj,hpj,_⟩:=List.findIdx?_eq_some_iff_getElem.mp hr
  have hk:k∈ks:=hp.mem_iff.mp ((oC hel k).mp ⟨_,List.getElem_mem hj,hpj⟩)
  refine wpAny_pure (wpAny_pure ?_)
  have:=h false s.heap (Heap.SameBut.refl a s.heap) (by rw [hZ,if_pos hk];exact ⟨es,ep,t,ho,hf,hled,hpl,hel,hp,hn⟩)
  cases s;exact this
 | none=>
  dsimp only
  have hk:k∉ks:=fun q=>by
   obtain ⟨e,he,hpe⟩:=(oC hel k).mpr (hp.mem_iff.mpr q)
   have:=List.findIdx?_eq_none_iff.mp hr e he
   rw [hpe] at this;cases this
  have hgw:∀(b:Bool) {s₁:Shared} {Q':Unit→Shared→Prop},Q' () s₁→wpAny (model prog w) A (match b with | true=>rule "set.scan.the-table-gave-way" | false=>pure ()) Q' E s₁:=
   fun b s₁ Q' hq=>by cases b<;>first | exact wpAny_pure hq | exact wpAny_rule hq
  have hperm:=layNew_perm t es ((PySem.strKind prog w).hash k) (.str k tk)
  have hfits:=layNew_fits t es ((PySem.strKind prog w).hash k) (.str k tk)
  have hll:=p9 t es ((PySem.strKind prog w).hash k) (.str k tk)
  generalize layNew t es ((PySem.strKind prog w).hash k) (.str k tk)=L at hperm hfits hll ⊢
  obtain ⟨es1,t1,wasDummy,gave⟩:=L
  dsimp only at hperm hfits hll ⊢
  rw [Array.toList_push] at hperm
  have hel1:ElemsOf (PySem.strKind prog w) es1.toList:=(hel.push hkey rfl).perm hperm
  have hb1':es1.size<scanBound:=by rw [←Array.length_toList,hperm.length_eq,List.length_append,Array.length_toList,hlen];exact hroom
  have hp1:(es1.toList.map (fun e=>strOf e.2)).Perm (ks++[k]):=(hperm.map _).trans (by rw [List.map_append];exact hp.append_right _)
  have hn1:(ks++[k]).Nodup:=by
   rw [List.nodup_append]
   exact ⟨hn,by simp,fun x hx y hy=>by
    have:y=k:=by exact List.mem_singleton.mp hy
    subst this;intro q;subst q;exact hk hx⟩
  have hend:∀h',Heap.SameBut a s.heap h'→fh prog w h' a (ks++[k])→Q true { s with heap:=h' }:=fun h' hsb hS'=>h true h' hsb (by rw [hZ,if_neg hk];exact hS')
  refine wpAny_bind (hgw _ ?_)
  split
  ·refine wpAny_bind ?_
   rw [hashByValue_scannable 8 rfl]
   refine wpAny_pure ?_
   refine mh (t2:={ t1 with plain:=false }) ?_ ho hel1 hb1' (SetTable.fits_plain_off hfits) (hll.trans hled) rfl hp1 hn1 ?_
   ·intro b s₁ Q' hq;cases b<;>first | exact wpAny_pure hq | exact wpAny_rule hq
   ·intro h' hsb hS';dsimp only;exact wpAny_pure (hend h' hsb hS')
  ·rename_i hpf
   refine wpAny_bind (wpAny_pure ?_)
   simp only [↓reduceIte]
   refine mh ?_ ho hel1 hb1' hfits (hll.trans hled) (by simpa using hpf) hp1 hn1 ?_
   ·intro b s₁ Q' hq;cases b<;>first | exact wpAny_pure hq | exact wpAny_rule hq
   ·intro h' hsb hS';dsimp only;exact wpAny_pure (hend h' hsb hS')
end
end Internal
end
section
set_option maxRecDepth 100000
namespace Internal
open PySem PyProof.Rows
noncomputable def bP (ss:List Str):List Str:=ss.foldl hZ []
set_option tactic.hygienic true in
theorem vh {ks:List Str}{k x:Str}:x∈hZ ks k↔x∈ks∨x=k:=by
 unfold hZ
 split
 ·rename_i h
  exact ⟨.inl,fun q=>q.elim id fun e=>e▸h⟩
 ·simp
theorem mi {x:Str}:∀{ss ks:List Str},x∈ss.foldl hZ ks↔x∈ks∨x∈ss
 | [],ks=>by simp
 | s::r,ks=>by
  rw [List.foldl_cons,mi,vh,List.mem_cons,or_assoc]
theorem dt {x:Str}{ss:List Str}:x∈bP ss↔x∈ss:=by unfold bP;rw [mi];simp
theorem mj:∀(ss ks:List Str),(ss.foldl hZ ks).length≤ks.length+ss.length
 | [],ks=>by simp
 | s::r,ks=>by
  rw [List.foldl_cons]
  have:=mj r (hZ ks s)
  have:=vg ks s
  simp only [List.length_cons];lia
section
variable {prog:Program}{w:World}{A:Around}{R:Result→Shared→Prop}{E:Value→Shared→Prop}{s:Shared}
theorem kn {h h':Heap}{S:Addr}{ks:List Str}(x:fh prog w h S ks)(k:∀o,h.get? S=some o→h'.get? S=some o):fh prog w h' S ks:=by
 obtain ⟨es,ep,t,ho,r⟩:=x
 exact ⟨es,ep,t,k _ ho,r⟩
theorem oD {I:Addr}{fp wr:List Addr}{G:Array GenState→Array GenState→Prop}{n:Nat}{P:Nat→Value→Prop}{St:Nat→Shared→Prop}(W:WalksS prog w A.in1 I fp wr G n P St)(S:Addr)(hSf:S∉fp)
  (ss:List Str) (hlen:ss.length=n) (hval:∀i v,P i v→∃x t,ss[i]?=some x∧v=.str x t) (hb:n+1<scanBound) :
  ∀(k i:Nat) (s:Shared),n-i=k→i≤n→St i s→fh prog w s.heap S (bP (ss.take i))→
   (∀s',Moved (S::wr) G s s'→fh prog w s'.heap S (bP ss)→R (.ok (.ret .none)) s')→
   codeAny (model prog w) A (.builtin "set.update.loop" ⟨[.ref S,.ref I],[]⟩) R s:=by
 have hSw:S∉wr:=fun h=>hSf (W.sub _ h)
 have hsub:∀b∈wr,b∈S::wr:=fun b hb=>List.mem_cons_of_mem _ hb
 intro k
 induction k with
 | zero=>
  intro i s hk hi hst hS hR
  have hin:i=n:=Nat.le_antisymm hi (Nat.le_of_sub_eq_zero hk)
  subst hin
  refine codeAny_builtin PyProof.Rows.F.entry_set_update_loop ?_
  rw [Around.under_plainId PyProof.Rows.F.plain_set_update_loop _]
  show wpAny _ A.in1 (pyNext (.ref I) >>= _) _ _ s
  refine wpAny_bind (W.done s _ _ hst fun s' hm=>?_)
  show wpAny _ A.in1 (ret Value.none) _ _ s'
  rw [List.take_of_length_le (n1 (Nat.le_of_eq hlen) (by simp +arith only))] at hS
  exact wpAny_pure (hR s' (hm.mono hsub) (kn hS fun o e=>hm.heap S _ hSw e))
 | succ k ih=>
  intro i s hk hi hst hS hR
  have hlt:i<n:=Nat.lt_of_sub_eq_succ hk
  refine codeAny_builtin PyProof.Rows.F.entry_set_update_loop ?_
  rw [Around.under_plainId PyProof.Rows.F.plain_set_update_loop _]
  show wpAny _ A.in1 (pyNext (.ref I) >>= _) _ _ s
  refine wpAny_bind (W.item i s _ _ hlt hst fun v s' hP hst' hm=>?_)
  obtain ⟨x,t,hx,rfl⟩:=hval i v hP
  have hS':=kn (h':=s'.heap) hS fun o e=>hm.heap S _ hSw e
  show wpAny _ A.in1 (holding [Value.str x t] (setAdd S (.str x t)) >>= _) _ _ s'
  refine wpAny_bind (wpAny_holding ?_)
  unfold setAdd
  refine wpAny_holding (wpAny_bind ((PySem.strKind prog w).pyHash (k:=x) (strKind_is _ _ _ _) ?_))
  have hroom:(bP (ss.take i)).length+1<scanBound:=by
   have:=mj (ss.take i) []
   unfold bP
   rw [List.length_take] at this
   simp at this;lia
  refine ED (s:={ s' with toks:=s'.toks+1 }) hS' hroom fun b h' hsb hS2=>?_
  have e:hZ (bP (ss.take i)) x=bP (ss.take (i+1)):=by
   obtain ⟨hl,hx⟩:=List.getElem?_eq_some_iff.mp hx
   unfold bP
   rw [List.take_succ_eq_append_getElem hl,List.foldl_append,hx];rfl
  rw [e] at hS2
  refine wpAny_pure ⟨plainId_quiet PyProof.Rows.F.plain_set_update_loop _,ih (i+1) _ (by rw [Nat.sub_succ,hk];rfl) hlt (W.frame _ s' _ _ hst' (Nat.le_succ _) fun b hb o e=>?_) hS2 fun s'' hm'' hS''=>?_⟩
  ·rw [hsb.2 b (fun h:b=S=>hSf (by rw [←h];exact hb))];exact e
  ·refine hR s'' (Moved.trans W.gtrans ((hm.mono hsub).then_heap (Nat.le_succ _) fun b o hb e=>?_) hm'') hS''
   rw [hsb.2 b (fun h:b=S=>hb (by rw [h];exact List.mem_cons_self))];exact e
theorem EE (a:Value){Q₁:Value→Shared→Prop}
  (h:Q₁ (.ref s.heap.objs.size) { s with heap:=s.heap.push { cls:=.type "set",dict:=none,data:=.set #[] 0 (.fresh 0 0 (!bV w)) } }) :
  codeAny (model prog w) A (.call (.builtin "set.__new__") ⟨[.type "set",a],[]⟩) (wants Q₁ E) s:=by
 refine codeAny_of_tree ?_
 show wpAny _ A.in1 (do checkBuiltinCall "set.__new__" ⟨[.type "set",a],[]⟩;again (.builtin "set.__new__" ⟨[.type "set",a],[]⟩)) _ _ s
 refine wpAny_bind (wpAny_of_eq (PySem.F.newCall_set_1 a) (wpAny_pure ⟨plainId_quiet PySem.F.plain_set_new _,codeAny_builtin PySem.F.entry_set_new ?_⟩))
 rw [Around.under_plainId PySem.F.plain_set_new _]
 unfold Builtin.«set.__new__» Builtin.Frozenset.newClass
 have hsub:=sub_set_self
 obtain ⟨hp,g,d,tk,os⟩:=s
 dsimp only
 wp_walk
 refine wpAny_askSetting (wpAny_pure ?_)
 dsimp only
 simp only [newObj]
 refine wpAny_bind (wpAny_alloc (wpAny_pure ?_))
 exact wpAny_pure h
end
end Internal
end
section
namespace Internal
open PySem PyProof.Rows
section
variable {prog:Program}{w:World}{A:Around}{E:Value→Shared→Prop}{s:Shared}
theorem yD {vs:List Value}{ss:List Str}(r:StrsAre vs ss)(i:Nat)(v:Value)(h:vs[i]?=some v):∃x t,ss[i]?=some x∧v=.str x t:=by
 induction r generalizing i with
 | nil=>exact az h
 | cons x t r ih=>
  cases i with
  | zero=>exact ⟨x,t,rfl,(Option.some.inj h).symm⟩
  | succ i=>exact ih i h
theorem ko {vs:List Value}{ss:List Str}(r:StrsAre vs ss):ss.length=vs.length:=by
 induction r with
 | nil=>rfl
 | cons x t r ih=>exact congrArg (·+1) ih
theorem qa {l S:Addr}{items:Array Value}{ss:List Str}{Q:Fin→Shared→Prop}(hh:A.handled=none)(hl:s.heap.IsList l items)(hi:StrsAre items.toList ss)(hb:items.size+1<scanBound)(hSe:s.heap.get? S=some (fg #[] 0 (.fresh 0 0 (!bV w))))
  (h:∀h' tk,fh prog w h' S (bP ss)→(∀b o,b≠S→s.heap.get? b=some o→h'.get? b=some o)→Q (.done (.ret .none)) { s with heap:=h',toks:=tk }) :
  wpAny (model prog w) A.in1 (Builtin.«set.__init__» ⟨[.ref S,.ref l],[]⟩) Q E s:=by
 obtain ⟨ol,hol,hcl,nl,hdl⟩:=id hl
 obtain ⟨ocls,odict,odata,oslots⟩:=ol
 simp only at hcl hdl
 subst hcl;subst hdl
 have hsls:=PySem.F.sub_list_set
 have hslf:=PySem.F.sub_list_frozenset
 have hne:(Value.type "list"==Value.type "dict")=false:=by decide
 have hT:s.TypeIs (.ref S) "set":=⟨_,hSe,rfl⟩
 unfold Builtin.«set.__init__» noKeywords Builtin.Frozenset.updateFrom
 generalize hPI:pyIter=PI
 wp_walk
 subst hPI
 refine wpAny_pyIter_list hl ?_
 refine wpAny_bind (wpAny_runValue ?_)
 have hlS:l<s.heap.objs.size:=Heap.lt_size hol
 have hSS:S<s.heap.objs.size:=Heap.lt_size hSe
 have hlneS:l≠S:=fun q=>by
  rw [q,hSe] at hol
  have:=congrArg Obj.cls (Option.some.inj hol)
  simp at this
 have hh3:A.in1.in1.handled=none:=by simp [hh]
 have hSf:S∉[s.heap.objs.size,l]:=by
  simp only [List.mem_cons,List.not_mem_nil,or_false,not_or]
  exact ⟨Nat.ne_of_lt hSS,fun q=>hlneS q.symm⟩
 have hk:∀b o,s.heap.get? b=some o→(s.heap.push { cls:=.type "list_iterator",data:=.fields #[.ref l,.int 0 0] }).get? b=some o:=fun b o e=>Heap.get?_push_of_some _ e
 refine oD ((Walks.list hh3 _ l (Nat.ne_of_lt hlS) items).toS) S hSf ss (by rw [ko hi,Array.length_toList]) (fun i v hv=>yD hi i v (by rw [Array.getElem?_toList];exact hv)) hb (items.size-0) 0 { s with heap:=s.heap.push { cls:=.type "list_iterator",data:=.fields #[.ref l,.int 0 0] } } (rfl) (Nat.zero_le _)
  ⟨⟨_,Heap.get?_push_size _ rfl,rfl,rfl⟩,hl.push _⟩ ?hS0 ?hR
 case hS0=>exact ⟨#[],0,_,hk _ _ hSe,rfl,rfl,.inl rfl,fun e he=>(by simp at he),List.Perm.refl _,List.nodup_nil⟩
 case hR=>
  intro s' hm hS'
  obtain ⟨h',g',d',tk',os'⟩:=s'
  have eg:g'=s.gens:=hm.gens
  have ed:d'=s.drawn:=hm.drawn
  have eo:os'=s.os:=hm.os
  subst eg;subst ed;subst eo
  show wpAny _ _ _ _ _ _
  refine wpAny_pure ?_
  show wpAny _ _ (ret Value.none) _ _ _
  refine wpAny_pure (h h' tk' hS' fun b o hb e=>hm.heap b o ?_ (hk b o e))
  simp only [List.mem_cons,List.not_mem_nil,or_false,not_or]
  exact ⟨hb,Nat.ne_of_lt (Heap.lt_size e)⟩
set_option maxRecDepth 100000 in
set_option maxHeartbeats 3200000 in
theorem qb {l:Addr}{items:Array Value}{ss:List Str}{Q:Value→Shared→Prop}(hh:A.handled=none)(hl:s.heap.IsList l items)(hi:StrsAre items.toList ss)(hb:items.size+1<scanBound)
  (h:∀h' tk,fh prog w h' s.heap.objs.size (bP ss)→(∀b o,s.heap.get? b=some o→h'.get? b=some o)→Q (.ref s.heap.objs.size) { s with heap:=h',toks:=tk }) :
  wpAny (model prog w) A (call (.type "set") [.ref l]) Q E s:=by
 obtain ⟨c,tl,hmro⟩:=PySem.F.called_set.mro
 have hmade:=PySem.F.called_set.made
 have hsub:=PySem.F.called_set.sub
 refine wpAny_call (codeAny_of_tree ?_)
 show wpAny _ _ (callAny (.type "set") _) _ _ _
 refine wpAny_pure ⟨Code.quiet_builtin _ (by decide +kernel),codeAny_builtin PySem.F.entry_type_call ?_⟩
 rw [Around.under_plain (weight_type_call_type "set" [.ref l] []) rfl]
 have h1:=PySem.F.called_set.notType
 have h2:=PySem.F.called_set.canCreate
 have hct:=PySem.F.typeCall_set_1 (.ref l)
 repeat (any_goals (first | assumption | wp_step))
 refine codeAny_mono (EE (w:=w) (.ref l) (E:=E) (Q₁:=fun obj s₁=>obj=.ref s.heap.objs.size∧s₁={ s with heap:=s.heap.push { cls:=.type "set",dict:=none,data:=.set #[] 0 (.fresh 0 0 (!bV w)) } }) ⟨rfl,rfl⟩) fun r s₁ hr=>?_
 cases r with
 | error e=>exact hr
 | ok fl=>
  cases fl with
  | ret obj=>
   obtain ⟨rfl,rfl⟩:=hr
   have hS:(s.heap.push { cls:=.type "set",dict:=none,data:=.set #[] 0 (.fresh 0 0 (!bV w)) }).get? s.heap.objs.size=some (fg #[] 0 (.fresh 0 0 (!bV w))):=Heap.get?_push_size _ rfl
   have hT:Shared.TypeIs { s with heap:=s.heap.push { cls:=.type "set",dict:=none,data:=.set #[] 0 (.fresh 0 0 (!bV w)) } } (.ref s.heap.objs.size) "set":=⟨_,hS,rfl⟩
   have hli:=PySem.F.called_set.init.lookup
   have hbi:=PySem.F.called_set.init.bind (.ref s.heap.objs.size)
   repeat (any_goals (first | assumption | wp_step))
   refine codeAny_mono (codeAny_call_builtin (R:=wants (fun r s₂=>r=.none∧∃h' tk,s₂={ s with heap:=h',toks:=tk }∧fh prog w h' s.heap.objs.size (bP ss)∧(∀b o,s.heap.get? b=some o→h'.get? b=some o)) E)
    PySem.F.called_set.init.plain PySem.F.entry_set_init (check_set_init_1 hT ?_)) fun r₂ s₂ hr₂=>?_
   ·refine qa (by simp [hh]) (hl.push _) hi hb hS fun h' tk hS' hk'=>⟨rfl,h',tk,rfl,hS',fun b o e=>hk' b o (Nat.ne_of_lt (Heap.lt_size e)) (Heap.get?_push_of_some _ e)⟩
   ·cases r₂ with
    | error e=>exact hr₂
    | ok fl₂=>
     cases fl₂ with
     | ret r=>
      obtain ⟨rfl,h',tk,rfl,hS',hk'⟩:=hr₂
      repeat (any_goals (first | assumption | wp_step))
      exact h _ _ hS' hk'
     | _=>exact hr₂.elim
  | _=>exact hr.elim
end
end Internal
end
section
set_option maxRecDepth 100000
namespace Internal
open PySem
theorem aB:Slot "set_iterator" "__next__" "set_iterator.__next__":=
 .of (owner:="set_iterator") (n:="__next__") (by rw [typeLookup_type,builtinLookup_eq_fast];kernel_rfl) (by decide +kernel) (by decide +kernel) (by decide +kernel)
  (by first | exact .inl (by decide +kernel) | exact .inr (by decide +kernel)) (by rw [isSubtype_type];kernel_rfl)
theorem dI:Slot "set_iterator" "__iter__" "set_iterator.__iter__":=
 .of (owner:="set_iterator") (n:="__iter__") (by rw [typeLookup_type,builtinLookup_eq_fast];kernel_rfl) (by decide +kernel) (by decide +kernel) (by decide +kernel)
  (by first | exact .inl (by decide +kernel) | exact .inr (by decide +kernel)) (by rw [isSubtype_type];kernel_rfl)
theorem bG:entryFor table "set_iterator.__next__"=some Builtin.«set_iterator.__next__»:=entryFor_of_tree (by kernel_rfl)
theorem gL:entryFor table "set_iterator.__iter__"=some Builtin.«dict_keyiterator.__iter__»:=
 entryFor_alias (id':="dict_keyiterator.__iter__") (by kernel_rfl) rfl (by decide +kernel) (by kernel_rfl)
theorem kp:entryFor table "set.__iter__"=some Builtin.«frozenset.__iter__»:=
 entryFor_alias (id':="frozenset.__iter__") (by kernel_rfl) rfl (by decide +kernel) (by kernel_rfl)
theorem gw:Manifest.owners.lookup (String.ofList ['r','o','t','a','r','e','t','i','_','t','e','s'].reverse)=some Manifest.sig_set_iterator:=by kernel_rfl
theorem bK (a:Value):argsOk "set_iterator.__next__" ⟨[a],[]⟩:=by
 unfold argsOk;rw [signature?_of (id:="set_iterator.__next__") (n:=['_','_','t','x','e','n','_','_']) (o:=['r','o','t','a','r','e','t','i','_','t','e','s']) (by kernel_rfl) gw];kernel_rfl
theorem ie (a:Value):argsOk "set_iterator.__iter__" ⟨[a],[]⟩:=by
 unfold argsOk;rw [signature?_of (id:="set_iterator.__iter__") (n:=['_','_','r','e','t','i','_','_']) (o:=['r','o','t','a','r','e','t','i','_','t','e','s']) (by kernel_rfl) gw];kernel_rfl
end Internal
end
section
set_option maxRecDepth 100000
namespace Internal
open PySem PyProof.Rows
noncomputable abbrev jC (first:Value) (i:Nat) (S:Addr) (n ep:Nat):Obj:={ cls:=.type "set_iterator",data:=.fields #[first,.int i 0,.ref S,.int n 0,.int ep 0] }
section
variable {prog:Program}{w:World}{A:Around}{E:Value→Shared→Prop}{s:Shared}{I S:Addr}{es:Array (Int × Value)}{ep:Nat}{t:SetTable}{i:Nat}{Q:Option Value→Shared→Prop}
theorem vi {slot slot':Nat}{x:Value}(hI:s.heap.get? I=some (jC (.int slot 0) i S es.size ep))(hS:s.heap.get? S=some (fg es ep t))(hf:t.fits es.size=true)
  (hnext:∀(A:Around) (Q:Option (Value × Nat)→Shared→Prop) (E:Value→Shared→Prop),Q (some (x,slot')) s→wpAny (model prog w) A (setNext S slot i ep) Q E s)
  (hQ:∀h',h'.get? I=some (jC (.int slot' 0) (i+1) S es.size ep)→Heap.SameBut I s.heap h'→Q (some x) { s with heap:=h' }):wpAny (model prog w) A (pyNext (.ref I)) Q E s:=by
 have hT:s.TypeIs (.ref I) "set_iterator":=⟨_,hI,rfl⟩
 unfold pyNext
 refine wpAny_bind (wpAny_attempt (wpAny_callSpecial?_slot (name:=Str.ofString "__next__") hT aB (wpAny_call_entry aB hT bG ?_ (bK _))))
 unfold Builtin.«set_iterator.__next__»
 refine wpAny_bind (wpAny_pure ?_)
 refine wpAny_bind (wpAny_fieldsOf hI rfl ?_)
 dsimp only
 refine wpAny_bind (wpAny_setEntries_of hS rfl hf ?_)
 rw [if_neg (by simp)]
 refine wpAny_bind ?_
 simp only [Int.toNat_natCast]
 refine hnext _ _ _ ?_
 dsimp only
 refine wpAny_bind (wpAny_setField hI rfl (by simp) ?_)
 have hI1:(s.heap.update I (Obj.mapFields (·.setIfInBounds 0 (rawInt slot')))).get? I=some (jC (.int slot' 0) i S es.size ep):=Heap.get?_update_self _ hI rfl
 refine wpAny_bind (wpAny_setField (s:={ s with heap:=s.heap.update I (Obj.mapFields (·.setIfInBounds 0 (rawInt slot'))) }) hI1 rfl (by simp) (wpAny_pure ⟨x,rfl,wpAny_pure (hQ _ ?_ ((Heap.SameBut.update ..).trans (Heap.SameBut.update ..)))⟩))
 exact Heap.get?_update_self _ hI1 rfl
theorem vj {k:Nat}(hh:A.handled=none){first:Value}(hI:s.heap.get? I=some (jC first i S es.size ep))(hk:k<5)(hQ:∀h',Heap.ExtBut I s.heap h'→Q none { s with heap:=h' }) :
  wpAny (model prog w) A.in1 (do
   setField (.ref I) k Value.none
   let e ←newExc (Value.type "StopIteration") []
   raiseNew e:Sem PySem.Fin) (fun fin s'=>∃v,fin=Fin.done (Flow.ret v)∧wpAny (model prog w) A (pure (some v)) Q E s') (fun e s'=>
   wpAny (model prog w) A (do
     let b ←isInstance e (Value.type "StopIteration")
     if b=true then pure none else throw e) Q E s') s:=by
 refine wpAny_bind (wpAny_setField hI rfl (by simpa using hk) ?_)
 refine wpAny_bind ?_
 simp only [newExc,newTuple]
 refine wpAny_bind (wpAny_newObj_type ?_ (by size_fits))
 refine wpAny_bind (m:=firstArgMember _ _) (wpAny_of_eq (a:=Value.none) (by first | rfl | (simp only [firstArgMember];rfl)) ?_)
 refine wpAny_newObj_type ?_ (by size_fits)
 refine wpAny_raiseNew_none (show A.in1.handled=none from hh) ?_
 refine wpAny_bind (wpAny_isInstance (T:="StopIteration") (b:=true) ⟨_,Heap.get?_push_size _ rfl,rfl⟩ isSubtype_stop ?_)
 exact wpAny_pure (hQ _ (((Heap.SameBut.update ..).extBut.push _).push _))
theorem vk {slot:Nat}(hh:A.handled=none)(hI:s.heap.get? I=some (jC (.int slot 0) i S es.size ep))(hS:s.heap.get? S=some (fg es ep t))(hf:t.fits es.size=true)
  (hnext:∀(A:Around) (Q:Option (Value × Nat)→Shared→Prop) (E:Value→Shared→Prop),Q none s→wpAny (model prog w) A (setNext S slot i ep) Q E s)
  (hQ:∀h',Heap.ExtBut I s.heap h'→Q none { s with heap:=h' }):wpAny (model prog w) A (pyNext (.ref I)) Q E s:=by
 have hT:s.TypeIs (.ref I) "set_iterator":=⟨_,hI,rfl⟩
 unfold pyNext
 refine wpAny_bind (wpAny_attempt (wpAny_callSpecial?_slot (name:=Str.ofString "__next__") hT aB (wpAny_call_entry aB hT bG ?_ (bK _))))
 unfold Builtin.«set_iterator.__next__»
 refine wpAny_bind (wpAny_pure ?_)
 refine wpAny_bind (wpAny_fieldsOf hI rfl ?_)
 dsimp only
 refine wpAny_bind (wpAny_setEntries_of hS rfl hf ?_)
 rw [if_neg (by simp)]
 refine wpAny_bind ?_
 simp only [Int.toNat_natCast]
 refine hnext _ _ _ ?_
 dsimp only
 exact vj hh hI (by decide) hQ
theorem qc {T:Addr}{places:List Value}{k:Nat}{h:Int}{x:Value}{n':Nat}(hI:s.heap.get? I=some (jC (.ref T) i S es.size ep))(hS:s.heap.get? S=some (fg es ep t))(hf:t.fits es.size=true)
  (hTT:s.heap.get? T=some { cls:=.type "tuple",dict:=none,data:=.seq places.toArray n',slots:=#[] }) (hp:places[i]?=some (.int k 0)) (hx:es[k]?=some (h,x))
  (hQ:∀h',h'.get? I=some (jC (.ref T) (i+1) S es.size ep)→Heap.SameBut I s.heap h'→Q (some x) { s with heap:=h' }):wpAny (model prog w) A (pyNext (.ref I)) Q E s:=by
 have hT:s.TypeIs (.ref I) "set_iterator":=⟨_,hI,rfl⟩
 unfold pyNext
 refine wpAny_bind (wpAny_attempt (wpAny_callSpecial?_slot (name:=Str.ofString "__next__") hT aB (wpAny_call_entry aB hT bG ?_ (bK _))))
 unfold Builtin.«set_iterator.__next__»
 refine wpAny_bind (wpAny_pure ?_)
 refine wpAny_bind (wpAny_fieldsOf hI rfl ?_)
 dsimp only
 refine wpAny_bind (wpAny_setEntries_of hS rfl hf ?_)
 rw [if_neg (by simp)]
 refine wpAny_bind (wpAny_seqItems hTT rfl ?_)
 dsimp only
 have hp':places.toArray[(i:Int).toNat]?=some (.int k 0):=by simpa using hp
 rw [hp']
 dsimp only
 unfold setNextDrawn
 refine wpAny_bind (wpAny_bind (wpAny_setState_of hS rfl hf ?_))
 dsimp only
 rw [if_neg (by simp)]
 simp only [Int.toNat_natCast,hx]
 refine wpAny_pure ?_
 refine wpAny_bind (wpAny_setField hI rfl (by simp) (wpAny_pure ⟨x,rfl,wpAny_pure (hQ _ ?_ (Heap.SameBut.update ..))⟩))
 exact Heap.get?_update_self _ hI rfl
theorem qd {T:Addr}{places:List Value}{n':Nat}(hh:A.handled=none)(hI:s.heap.get? I=some (jC (.ref T) i S es.size ep))(hS:s.heap.get? S=some (fg es ep t))(hf:t.fits es.size=true)
  (hTT:s.heap.get? T=some { cls:=.type "tuple",dict:=none,data:=.seq places.toArray n',slots:=#[] }) (hp:places[i]?=none)
  (hQ:∀h',Heap.ExtBut I s.heap h'→Q none { s with heap:=h' }):wpAny (model prog w) A (pyNext (.ref I)) Q E s:=by
 have hT:s.TypeIs (.ref I) "set_iterator":=⟨_,hI,rfl⟩
 unfold pyNext
 refine wpAny_bind (wpAny_attempt (wpAny_callSpecial?_slot (name:=Str.ofString "__next__") hT aB (wpAny_call_entry aB hT bG ?_ (bK _))))
 unfold Builtin.«set_iterator.__next__»
 refine wpAny_bind (wpAny_pure ?_)
 refine wpAny_bind (wpAny_fieldsOf hI rfl ?_)
 dsimp only
 refine wpAny_bind (wpAny_setEntries_of hS rfl hf ?_)
 rw [if_neg (by simp)]
 refine wpAny_bind (wpAny_seqItems hTT rfl ?_)
 dsimp only
 have hp':places.toArray[(i:Int).toNat]?=none:=by simpa using hp
 rw [hp']
 dsimp only
 refine wpAny_bind (wpAny_setField hI rfl (by simp) ?_)
 have hI1:(s.heap.update I (Obj.mapFields (·.setIfInBounds 0 (rawInt 0)))).get? I=some (jC (.int 0 0) i S es.size ep):=Heap.get?_update_self _ hI rfl
 exact vj (s:={ s with heap:=s.heap.update I (Obj.mapFields (·.setIfInBounds 0 (rawInt 0))) }) hh hI1 (by decide) fun h' he=>hQ h' fun b o hb e=>he b o hb (((Heap.SameBut.update ..).2 b hb).trans e)
end
end Internal
end
section
set_option maxRecDepth 100000
namespace Internal
open PySem PyProof.Rows
section
variable {prog:Program}{w:World}{A:Around}{E:Value→Shared→Prop}{s:Shared}
theorem yE {M:Model}{src:Source}{n:Nat}{Q:Nat→Shared→Prop}(hn:n≠0)(h:∀k d,k<n→Q k { s with drawn:=d }):wpAny M A (choose src n) Q E s:=fun _ _ _=>by
 show Sem.wp _ _ (.choose src n _) _ _ _ _
 rw [Sem.wp_choose]
 exact ⟨hn,h _ _ (Nat.mod_lt _ (Nat.pos_of_ne_zero hn))⟩
theorem gM {α:Type}:∀{xs:List α}{i:Nat}{x:α},xs[i]?=some x→(x::xs.eraseIdx i).Perm xs
 | [],_,_,h=>by simp at h
 | a::r,0,x,h=>by simp at h;subst h;simp
 | a::r,i+1,x,h=>by
  simp at h
  have:=gM h
  simp only [List.eraseIdx_cons_succ]
  exact (List.Perm.swap a x _).trans (this.cons a)
theorem kq {α:Type}{M:Model}:∀(n:Nat) (xs:List α) (s:Shared) {Q:List α→Shared→Prop},xs.length=n→(∀ys d,ys.Perm xs→Q ys { s with drawn:=d })→wpAny M A (drawOrder n xs) Q E s
 | 0,[],s,Q,_,h=>wpAny_pure (h [] s.drawn (.refl _))
 | 0,_::_,_,_,hl,_=>by cases hl
 | n+1,[],_,_,hl,_=>by cases hl
 | n+1,x::xs,s,Q,hl,h=>by
  refine wpAny_bind (yE (by simp) fun k d hk=>?_)
  have hy:=List.getElem?_eq_getElem hk
  simp only [hy]
  refine wpAny_bind (kq n _ _ ?_ fun ys d' hp=>wpAny_pure ?_)
  ·rw [List.length_eraseIdx_of_lt hk];simp at hl ⊢;exact hl
  ·exact h _ d' ((hp.cons _).trans (gM hy))
theorem q8 {α:Type}(next:Nat→Nat):∀(fuel k:Nat) (left:List α) (out:Array α),left.length=fuel→(pickOrder.go next fuel k left out).toList.Perm (out.toList++left)
 | 0,k,[],out,_=>by rw [List.append_nil];exact .refl _
 | 0,k,_::_,out,h=>by cases h
 | n+1,k,left,out,h=>by
  show (match left[next k % left.length]? with
   | some x=>pickOrder.go next n (k+1) (left.eraseIdx (next k % left.length)) (out.push x)
   | none=>out).toList.Perm _
  have hlt:next k % left.length<left.length:=Nat.mod_lt _ (n1 (Nat.le_of_eq h.symm) (by simp +arith only))
  have hy:=List.getElem?_eq_getElem hlt
  rw [hy]
  refine (q8 next n (k+1) _ _ (by rw [List.length_eraseIdx_of_lt hlt];lia)).trans ?_
  rw [Array.toList_push,List.append_assoc]
  exact (gM hy).append_left _
theorem ml {α:Type}(next:Nat→Nat)(xs:Array α):(pickOrder next xs).toList.Perm xs.toList:=by
 have:=q8 next xs.size 0 xs.toList #[] (by exact rfl)
 simpa [pickOrder] using this
theorem vm {I S:Addr}{first:Value}{i n ep:Nat}{Q:Value→Shared→Prop}(hI:s.heap.get? I=some (jC first i S n ep))(h:Q (.ref I) s):wpAny (model prog w) A (pyIter (.ref I)) Q E s:=by
 have hT:s.TypeIs (.ref I) "set_iterator":=⟨_,hI,rfl⟩
 refine wpAny_pyIter_slot hT dI (wpAny_call_entry dI hT gL ?_ (ie _))
 show wpAny _ _ (ret (.ref I)) _ _ s
 exact wpAny_pure ⟨_,rfl,"set_iterator",_,hT,aB.lookup,h⟩
theorem kr {I:Addr}{h':Heap}(hs:Heap.SameBut I s.heap h'):Moved [I] (fun a b=>b=a) s { s with heap:=h' }:=⟨fun b o hb e=>(hs.2 b (by exact fun q=>hb (List.mem_singleton.mpr q))).trans e,rfl,rfl,rfl,Nat.le_refl _⟩
theorem mn {I:Addr}{h':Heap}(hs:Heap.ExtBut I s.heap h'):Moved [I] (fun a b=>b=a) s { s with heap:=h' }:=⟨fun b o hb e=>hs b o (by exact fun q=>hb (List.mem_singleton.mpr q)) e,rfl,rfl,rfl,Nat.le_refl _⟩
theorem oE {I S:Addr}{es:Array (Int × Value)}{ep:Nat}{t:SetTable}{vs:List Value}{sl:Nat→Nat}(hh:A.handled=none)(hIS:I≠S)(hf:t.fits es.size=true)(hlen:vs.length=es.size)
  (hn:∀(s:Shared),s.heap.get? S=some (fg es ep t)→∀i v,vs[i]?=some v→∀(A:Around) (Q:Option (Value × Nat)→Shared→Prop) (E:Value→Shared→Prop),Q (some (v,sl (i+1))) s→wpAny (model prog w) A (setNext S (sl i) i ep) Q E s)
  (hd:∀(s:Shared),s.heap.get? S=some (fg es ep t)→∀(A:Around) (Q:Option (Value × Nat)→Shared→Prop) (E:Value→Shared→Prop),Q none s→wpAny (model prog w) A (setNext S (sl vs.length) vs.length ep) Q E s) :
  WalksS prog w A I [I,S] [I] (fun a b=>b=a) vs.length (fun i v=>vs[i]?=some v) (fun i s=>s.heap.get? I=some (jC (.int (sl i) 0) i S es.size ep)∧s.heap.get? S=some (fg es ep t)) where
 sub:=fun b hb=>by simp at hb;subst hb;simp
 grefl:=fun _=>rfl
 gtrans:=fun _ _ _ h1 h2=>h2.trans h1
 frame:=fun i s h' tk st _ hk=>⟨hk I (by exact List.mem_cons_self ..) _ st.1,hk S (by exact List.mem_cons_of_mem _ (List.mem_cons_self ..)) _ st.2⟩
 item:=fun i s Q E hi st hQ=>by
  have hv:=List.getElem?_eq_getElem hi
  exact vi st.1 st.2 hf (hn s st.2 i _ hv) fun h' hI' hs=>hQ _ _ hv ⟨hI',(hs.2 S (Ne.symm hIS)).trans st.2⟩ (kr hs)
 done:=fun s Q E st hQ=>vk hh st.1 st.2 hf (hd s st.2) fun h' he=>hQ _ (mn he)
 self:=fun i s Q E st hQ=>vm st.1 hQ
theorem qe {I S T:Addr}{es:Array (Int × Value)}{ep n':Nat}{t:SetTable}{vs:List Value}{ks:List Nat}(hh:A.handled=none)(hIS:I≠S)(hIT:I≠T)(hf:t.fits es.size=true)(hlen:ks.length=vs.length)
  (hn:∀(i:Nat) (v:Value),vs[i]?=some v→∃(k:Nat) (h:Int),ks[i]?=some k∧es[k]?=some (h,v)) :
  WalksS prog w A I [I,S,T] [I] (fun a b=>b=a) vs.length (fun i v=>vs[i]?=some v) (fun i s=>s.heap.get? I=some (jC (.ref T) i S es.size ep)∧s.heap.get? S=some (fg es ep t)∧
   s.heap.get? T=some { cls:=.type "tuple",dict:=none,data:=.seq (ks.map (fun (k:Nat)=>rawInt k)).toArray n',slots:=#[] }) where
 sub:=fun b hb=>by simp at hb;subst hb;simp
 grefl:=fun _=>rfl
 gtrans:=fun _ _ _ h1 h2=>h2.trans h1
 frame:=fun i s h' tk st _ hk=>⟨hk I (by exact List.mem_cons_self ..) _ st.1,hk S (by exact List.mem_cons_of_mem _ (List.mem_cons_self ..)) _ st.2.1,hk T (by simp) _ st.2.2⟩
 item:=fun i s Q E hi st hQ=>by
  have hv:=List.getElem?_eq_getElem hi
  obtain ⟨k,h,hk,hx⟩:=hn i _ hv
  exact qc (k:=k) st.1 st.2.1 hf st.2.2 (by rw [List.getElem?_map,hk];rfl) hx fun h' hI' hs=>hQ _ _ hv ⟨hI',(hs.2 S (Ne.symm hIS)).trans st.2.1,(hs.2 T (Ne.symm hIT)).trans st.2.2⟩ (kr hs)
 done:=fun s Q E st hQ=>qd hh st.1 st.2.1 hf st.2.2 (by rw [List.getElem?_map,List.getElem?_eq_none (n1 (Nat.le_of_eq hlen) (by simp +arith only))];rfl) fun h' he=>hQ _ (mn he)
 self:=fun i s Q E st hQ=>vm st.1 hQ
end
end Internal
end
section
set_option backward.match.sparseCases true
set_option maxRecDepth 100000
namespace Internal
open PySem PyProof.Rows
section
variable {prog:Program}{w:World}{A:Around}{E:Value→Shared→Prop}{s:Shared}
theorem mo {S:Addr}{es:Array (Int × Value)}{ep:Nat}{t:SetTable}(hb:bV w=true)(hS:s.heap.get? S=some (fg es ep t))(hf:t.fits es.size=true){slot i:Nat}{Q:Option (Value × Nat)→Shared→Prop}
  (h:Q (((pickOrder (w.params.setOrder S ep) es)[i]?).map fun e=>(e.2,slot)) s):wpAny (model prog w) A (setNext S slot i ep) Q E s:=by
 unfold setNext
 refine wpAny_bind (wpAny_setState_of hS rfl hf ?_)
 dsimp only
 unfold setsByText
 refine wpAny_bind (wpAny_bind (wpAny_askSetting (wpAny_pure ?_)))
 show wpAny _ _ (if bV w=true then _ else _) _ _ _
 rw [hb,if_pos rfl]
 rw [if_neg (by simp)]
 unfold setWalk
 refine wpAny_bind (wpAny_bind (wpAny_setState_of hS rfl hf ?_))
 dsimp only
 unfold setsByText
 refine wpAny_bind (wpAny_bind (wpAny_askSetting (wpAny_pure ?_)))
 show wpAny _ _ (if bV w=true then _ else _) _ _ _
 rw [hb,if_pos rfl]
 refine wpAny_bind (wpAny_askSetting (wpAny_pure (wpAny_pure ?_)))
 exact h
theorem oG {S:Addr}{es:Array (Int × Value)}{ep:Nat}{t:SetTable}(hb:bV w=false)(hS:s.heap.get? S=some (fg es ep t))(hf:t.fits es.size=true)(hl:t.led=true)(h1:es.size≤1){slot i:Nat}{Q:Option (Value × Nat)→Shared→Prop}
  (h:Q (match es[SetTable.below t.place slot]?,t.place[SetTable.below t.place slot]? with
   | some (_,x),some j=>some (x,j+1)
   | _,_=>none) s):wpAny (model prog w) A (setNext S slot i ep) Q E s:=by
 unfold setNext
 refine wpAny_bind (wpAny_setState_of hS rfl hf ?_)
 dsimp only
 unfold setsByText
 refine wpAny_bind (wpAny_bind (wpAny_askSetting (wpAny_pure ?_)))
 show wpAny _ _ (if bV w=true then _ else _) _ _ _
 rw [hb,if_neg (by decide)]
 show wpAny _ _ (if (!t.plain&&decide (es.size > 1))=true then _ else _) _ _ _
 rw [if_neg (by simp;intro _;exact h1)]
 refine wpAny_bind ?_
 show wpAny _ _ (if (!t.led&&!es.isEmpty)=true then _ else _) _ _ _
 rw [if_neg (by rw [hl];simp)]
 exact wpAny_pure (wpAny_pure h)
theorem mq (j slot:Nat):SetTable.below #[j] slot=if j<slot then 1 else 0:=by
 unfold SetTable.below
 unfold SetTable.below.go
 simp
 split
 ·unfold SetTable.below.go;rfl
 ·unfold SetTable.below.go;rfl
theorem yF {l:List (Int × Value)}(h:ElemsOf (PySem.strKind prog w) l):∀v∈l.map (·.2),∃x t,v=.str x t:=fun v hv=>by
 obtain ⟨e,he,rfl⟩:=List.mem_map.mp hv
 obtain ⟨k,t,e⟩:=oB h e he
 exact ⟨k,t,e⟩
theorem Cc {S:Addr}{ks:List Str}{Q:Value→Shared→Prop}(hS:fh prog w s.heap S ks)(hz:ks.length<scanBound)
  (h:∀(I:Addr) (vs:List Value) (ss:List Str) (h':Heap) d,StrsAre vs ss→ss.Perm ks→(∀b o,s.heap.get? b=some o→h'.get? b=some o)→s.heap.get? I=none→
   (∀A:Around,A.handled=none→∃fp St,WalksS prog w A I fp [I] (fun a b=>b=a) vs.length (fun i v=>vs[i]?=some v) St∧St 0 { s with heap:=h',drawn:=d }∧(∀b∈fp,b=S∨s.heap.get? b=none)∧I∈fp)→
   Q (.ref I) { s with heap:=h',drawn:=d }):wpAny (model prog w) A (pyIter (.ref S)) Q E s:=by
 obtain ⟨es,ep,t,ho,hf,hled,hpl,hel,hp,hn⟩:=hS
 have hT:s.TypeIs (.ref S) "set":=⟨_,ho,rfl⟩
 have hlen:es.size=ks.length:=by rw [←hp.length_eq,List.length_map,Array.length_toList]
 have hS0:S<s.heap.objs.size:=Heap.lt_size ho
 have key:∀vs:List Value,vs.Perm (es.toList.map (·.2))→StrsAre vs (vs.map strOf)∧(vs.map strOf).Perm ks:=fun vs hv=>
  ⟨strsAre_map vs fun v hm=>yF hel v (hv.mem_iff.mp hm),(hv.map strOf).trans (by rw [List.map_map];exact hp)⟩
 refine wpAny_pyIter_slot hT PySem.F.slot_set_iter (wpAny_call_entry PySem.F.slot_set_iter hT kp ?_ (PySem.F.args_set_iter_1 _))
 unfold Builtin.«frozenset.__iter__» Builtin.Frozenset.slot0 slotArgs
 simp only [List.isEmpty_nil,Bool.not_true,Bool.false_eq_true,↓reduceIte,bind_assoc,List.length_nil,bne_self_eq_false]
 unfold Builtin.Frozenset.addrOf Builtin.Frozenset.sizeOf
 refine wpAny_bind (wpAny_pure ?_)
 try dsimp only
 refine wpAny_bind (wpAny_pure ?_)
 refine wpAny_bind (wpAny_bind (wpAny_setEntries_of ho rfl hf (wpAny_pure ?_)))
 unfold setDrawn
 refine wpAny_bind (wpAny_bind (wpAny_setState_of ho rfl hf ?_))
 dsimp only
 unfold setsByText
 refine wpAny_bind (wpAny_bind (wpAny_askSetting (wpAny_pure ?_)))
 refine wpAny_pure ?_
 show wpAny _ _ (if (!bV w&&(!t.plain&&decide (es.size > 1)))=true then _ else _) _ _ _
 have stay:∀(o:Obj) (h₁:Heap),(∀b ob,s.heap.get? b=some ob→h₁.get? b=some ob)→∀b ob,s.heap.get? b=some ob→(h₁.push o).get? b=some ob:=fun o h₁ k b ob e=>Heap.get?_push_of_some _ (k b ob e)
 have nosz:∀a,s.heap.objs.size≤a→s.heap.get? a=none:=fun a ha=>by
  cases e:s.heap.get? a with
  | none=>rfl
  | some o=>exact absurd (Heap.lt_size e) (Nat.not_lt.mpr ha)
 by_cases hd:(!bV w&&(!t.plain&&decide (es.size > 1)))=true
 ·rw [if_pos hd]
  refine wpAny_bind (kq es.size (List.range es.size) s (by simp) fun ps d hps=>?_)
  have hpl:ps.length=es.size:=by rw [hps.length_eq];simp
  refine wpAny_bind (wpAny_newTuple ?_ (by rw [List.length_map,hpl,hlen];exact fits_of_scanBound hz))
  have k1:∀b ob,s.heap.get? b=some ob→(s.heap.push { cls:=.type "tuple",data:=.seq (ps.map (fun (i:Nat)=>rawInt i)).toArray }).get? b=some ob:=fun b ob e=>Heap.get?_push_of_some _ e
  refine wpAny_bind (wpAny_setEpoch_of (s:={ s with heap:=s.heap.push { cls:=.type "tuple",data:=.seq (ps.map (fun (i:Nat)=>rawInt i)).toArray },drawn:=d }) (k1 _ _ ho) rfl hf ?_)
  refine wpAny_bind (wpAny_newObj_type ?_)
  have hsz:(s.heap.push { cls:=.type "tuple",data:=.seq (ps.map (fun (i:Nat)=>rawInt i)).toArray }).objs.size=s.heap.objs.size+1:=Heap.size_push ..
  have hps':∀k∈ps,k<es.size:=fun k hk=>by simpa using hps.mem_iff.mp hk
  have hvp:(ps.map (fun k=>(es.toList.map (·.2)).getD k .none)).Perm (es.toList.map (·.2)):=by
   have e1:(List.range es.size).map (fun k=>(es.toList.map (·.2)).getD k .none)=es.toList.map (·.2):=by
    apply List.ext_getElem?
    intro i
    rw [List.getElem?_map]
    by_cases hi:i<es.size
    ·rw [List.getElem?_range hi];simp [List.getD,hi]
    ·rw [List.getElem?_eq_none (by simpa using hi),List.getElem?_eq_none (by simpa using hi)];rfl
   have:=hps.map (fun k=>(es.toList.map (·.2)).getD k .none)
   rwa [e1] at this
  obtain ⟨kv1,kv2⟩:=key _ hvp
  have hI:∀(o:Obj),o.isFreed=false→((s.heap.push { cls:=.type "tuple",data:=.seq (ps.map (fun (i:Nat)=>rawInt i)).toArray }).push o).get? (s.heap.objs.size+1)=some o:=fun o hf=>by rw [←hsz];exact Heap.get?_push_size _ hf
  refine wpAny_pure ⟨_,rfl,"set_iterator",_,⟨_,Heap.get?_push_size _ rfl,rfl⟩,aB.lookup,?_⟩
  show Q (.ref (s.heap.push _).objs.size) _
  rw [hsz]
  refine h (s.heap.objs.size+1) _ _ _ d kv1 kv2 (stay _ _ k1) (by
   cases e:s.heap.get? (s.heap.objs.size+1) with
   | none=>rfl
   | some o=>exact absurd (Heap.lt_size e) (Nat.not_lt.mpr (Nat.le_succ _))) fun A hh=>⟨_,_,qe (I:=s.heap.objs.size+1) (S:=S) (T:=s.heap.objs.size) (es:=es) (ep:=ep) (t:=t) (n':=0) (ks:=ps) hh (Nat.ne_of_gt (Nat.lt_succ_of_lt hS0)) (Nat.succ_ne_self _) hf (by simp) fun i v hv=>?_,
    ⟨hI _ rfl,Heap.get?_push_of_some _ (k1 _ _ ho),Heap.get?_push_of_some _ (Heap.get?_push_size _ rfl)⟩,?_,by simp⟩
  ·rw [List.getElem?_map] at hv
   cases hk:ps[i]? with
   | none=>rw [hk] at hv;cases hv
   | some k=>
    rw [hk] at hv
    have hlt:=hps' k (List.mem_of_getElem? hk)
    have hv:(es.toList.map (·.2)).getD k .none=v:=Option.some.inj hv
    refine ⟨k,es[k].1,rfl,?_⟩
    rw [Array.getElem?_eq_getElem hlt]
    simp [List.getD,hlt] at hv
    rw [←hv]
  ·intro b hb
   simp at hb
   rcases hb with rfl | rfl | rfl
   ·exact .inr (nosz _ (Nat.le_succ _))
   ·exact .inl rfl
   ·exact .inr (nosz _ (Nat.le_refl _))
 ·rw [if_neg hd]
  refine wpAny_bind (wpAny_pure ?_)
  refine wpAny_bind (wpAny_setEpoch_of ho rfl hf ?_)
  refine wpAny_bind (wpAny_newObj_type ?_)
  refine wpAny_pure ⟨_,rfl,"set_iterator",_,⟨_,Heap.get?_push_size _ rfl,rfl⟩,aB.lookup,?_⟩
  have hI0:s.heap.get? s.heap.objs.size=none:=by
   cases e:s.heap.get? s.heap.objs.size with
   | none=>rfl
   | some o=>exact absurd (Heap.lt_size e) (Nat.lt_irrefl _)
  have hfp:∀b∈[s.heap.objs.size,S],b=S∨s.heap.get? b=none:=fun b hb=>by
   simp at hb
   rcases hb with rfl | rfl
   ·exact .inr hI0
   ·exact .inl rfl
  cases hb:bV w with
  | true=>
   have hvp:((pickOrder (w.params.setOrder S ep) es).toList.map (·.2)).Perm (es.toList.map (·.2)):=(ml _ es).map _
   obtain ⟨kv1,kv2⟩:=key _ hvp
   refine h s.heap.objs.size _ _ _ s.drawn kv1 kv2 (stay _ _ fun b ob e=>e) hI0 fun A hh=>⟨_,_,oE (I:=s.heap.objs.size) (S:=S) (es:=es) (ep:=ep) (t:=t) (sl:=fun _=>0) hh (Nat.ne_of_gt hS0) hf (by rw [List.length_map,(ml _ es).length_eq];simp) (fun s' hs' i v hv A Q E hq=>mo hb hs' hf ?_) (fun s' hs' A Q E hq=>mo hb hs' hf ?_),
    ⟨Heap.get?_push_size _ rfl,Heap.get?_push_of_some _ ho⟩,hfp,by simp⟩
   ·rw [List.getElem?_map,Array.getElem?_toList] at hv
    cases he:(pickOrder (w.params.setOrder S ep) es)[i]? with
    | none=>rw [he] at hv;cases hv
    | some e=>rw [he] at hv;cases hv;exact hq
   ·rw [List.length_map,Array.length_toList,Array.getElem?_eq_none (Nat.le_refl _)];exact hq
  | false=>
   have hl1:t.led=true:=by rw [hled,hb];rfl
   have hsz1:es.size≤1:=by
    rw [hb] at hd
    rcases hpl with q | q
    ·exact n1 (Nat.le_of_eq q) (by simp +arith only)
    ·rw [q] at hd;simp at hd;exact hd
   have hpsz:t.place.size=es.size:=by
    simp only [SetTable.fits,Bool.and_eq_true,beq_iff_eq] at hf;exact hf.1
   obtain ⟨kv1,kv2⟩:=key (es.toList.map (·.2)) (.refl _)
   refine h s.heap.objs.size _ _ _ s.drawn kv1 kv2 (stay _ _ fun b ob e=>e) hI0 fun A hh=>⟨_,_,oE (I:=s.heap.objs.size) (S:=S) (es:=es) (ep:=ep) (t:=t) (sl:=fun i=>if i=0 then 0 else t.place.getD 0 0+1) hh (Nat.ne_of_gt hS0) hf (by exact List.length_map ..) (fun s' hs' i v hv A Q E hq=>oG hb hs' hf hl1 hsz1 ?_) (fun s' hs' A Q E hq=>oG hb hs' hf hl1 hsz1 ?_),
    ⟨Heap.get?_push_size _ rfl,Heap.get?_push_of_some _ ho⟩,hfp,by simp⟩
   ·rw [List.getElem?_map,Array.getElem?_toList] at hv
    have hi:i=0:=by
     rcases Nat.lt_or_ge i es.size with q | q
     ·lia
     ·rw [Array.getElem?_eq_none q] at hv;exact az hv
    subst hi
    have h1:es.size=1:=by
     rcases Nat.lt_or_ge 0 es.size with q | q
     ·lia
     ·rw [Array.getElem?_eq_none q] at hv;exact az hv
    obtain ⟨j,hj⟩:∃j,t.place=#[j]:=Array.size_eq_one_iff.mp (by rw [hpsz,h1])
    rw [hj,mq]
    simp only [if_true,Nat.not_lt_zero,if_false]
    cases he:es[0]? with
    | none=>rw [he] at hv;cases hv
    | some e=>
     rw [he] at hv;cases hv
     have hj':t.place.getD 0 0=j:=by rw [hj];rfl
     simp only [Nat.add_eq_zero_iff,Nat.one_ne_zero,and_false,if_false,hj'] at hq
     exact hq
   ·have e0:∀k,es.size≤k→es[k]?=none:=fun k hk=>Array.getElem?_eq_none hk
    rcases Nat.eq_zero_or_pos es.size with q | q
    ·rw [e0 _ (n1 (Nat.le_of_eq q) (by simp +arith only))];exact hq
    ·have h1:es.size=1:=by lia
     obtain ⟨j,hj⟩:∃j,t.place=#[j]:=Array.size_eq_one_iff.mp (by rw [hpsz,h1])
     have hj':t.place.getD 0 0=j:=by rw [hj];rfl
     rw [hj,mq,hj.symm,hj']
     have hvl:(es.toList.map (fun x=>x.2)).length=1:=by (rw [List.length_map];exact h1)
     rw [hvl]
     simp only [Nat.one_ne_zero,if_false,Nat.lt_succ_self,if_true]
     rw [e0 _ (hsz1)];exact hq
end
end Internal
end
section
namespace Internal
open PySem PyProof.Rows
open PyProof.Rows renaming wpS → wpM
section
variable {prog:Program}{w:World}{A:Around}{E:Value→Shared→Prop}{s:Shared}{κ:KeyKind}
noncomputable def gal:Bool→Keyed→Array Keyed→Nat→Nat→Nat→StateT SortSt Sem (Option Nat):=sortPriv% PySem.Builtin.gallop
noncomputable def kof (κ:KeyKind)(p:Keyed):κ.α:=(κ.keyOf p.1).getD κ.dflt
noncomputable def aU (κ:KeyKind)(p:Keyed):Prop:=∃a,κ.keyOf p.1=some a
theorem aU.is {p:Keyed}(h:aU κ p):κ.keyOf p.1=some (kof κ p):=by
 obtain ⟨a,e⟩:=h
 unfold kof;rw [e];rfl
theorem yG (hO:κ.OneLt){st:SortSt}{x y:Keyed}{Q:Option Bool→SortSt→Prop}(hk:kindOf st=oneType')(hx:aU κ x)(hy:aU κ y)(h:Q (some (κ.blt (kof κ x) (kof κ y))) st):wpM (model prog w) A E s (lt' x y) Q st:=by
 rw [lt'_eq]
 refine wpS_bind (wpS_get ?_)
 rw [hk,keyLt'_oneType]
 exact wpS_bind (wpS_lift (wpAny_attempt (hO prog w A _ s _ _ _ _ hx.is hy.is ⟨rfl,wpS_pure h⟩)))
theorem bw {st:SortSt}{arr:Array Keyed}{i:Nat}{p:Keyed}{Q:Keyed→SortSt→Prop}(e:arr[i]?=some p)(h:Q p st):wpM (model prog w) A E s (elem' arr i) Q st:=by
 rw [elem'_eq,e];exact wpS_pure h
theorem EF (hO:κ.OneLt){left:Bool}{key x:Keyed}{arr:Array Keyed}{i:Nat}{st:SortSt}{Q:Option Bool→SortSt→Prop}{b:Bool}(hk:kindOf st=oneType')(hkey:aU κ key)(e:arr[i]?=some x)(hx:aU κ x)
  (hb:b=(if left=true then κ.blt (kof κ x) (kof κ key) else !κ.blt (kof κ key) (kof κ x))) (h:Q (some b) st) :
  wpM (model prog w) A E s (elem' arr i >>= fun x=>if left=true then lt' x key else lt' key x >>= fun r=>pure (r.map fun x=>!x)) Q st:=by
 refine wpS_bind (bw e ?_)
 subst hb
 cases left with
 | true=>exact yG hO hk hx hkey h
 | false=>exact wpS_bind (yG hO hk hkey hx (wpS_pure h))
structure G3 (p:Nat→Bool)(n x lo hi:Nat):Prop where
 le:lo≤hi
 top:hi≤n
 t:hi+x≤n+lo
 yes:∀i,i<lo→p i=true
 no:∀i,hi≤i→i<n→p i=false
section
variable {p:Nat→Bool}{n x lo hi l o m:Nat}
theorem Gf (h:¬ lo≥hi):lo+(hi-lo) / 2<hi:=Nat.add_lt_of_lt_sub' (Nat.div_lt_self (Nat.sub_pos_of_lt (Nat.lt_of_not_le h)) (Nat.le_refl 2))
theorem G3.up (g:G3 p n x lo hi)(h1:lo≤m)(h2:m<hi)(q:∀i,i≤m→p i=true):G3 p n (x+1) (m+1) hi:=⟨h2,g.top,n2 g.t h1 (by simp +arith only),fun i h=>q i (Nat.le_of_lt_succ h),g.no⟩
theorem G3.dn (g:G3 p n x lo hi)(h1:lo≤m)(h2:m<hi)(q:∀i,m≤i→i<n→p i=false):G3 p n (x+1) lo m:=⟨h1,Nat.le_trans (Nat.le_of_lt h2) g.top,n2 h2 g.t (by simp +arith only),g.yes,q⟩
structure F1 (p:Nat→Bool)(n b x l o:Nat):Prop where
 lt:l<o
 t:x+1≤o
 top:b+l<n
 yes:∀i,i≤b+l→p i=true
theorem F1.out {b:Nat}(f:F1 p n b x l o)(h:n-b≤o∨(b+o<n∧∀i,b+o≤i→i<n→p i=false)):G3 p n 0 (b+l+1) (b+min o (n-b)):=by
 have e:b+(n-b)=n:=Nat.add_sub_cancel' (Nat.le_trans (Nat.le_add_right _ _) (Nat.le_of_lt f.top))
 have y:∀i,i<b+l+1→p i=true:=fun i h=>f.yes i (Nat.le_of_lt_succ h)
 rcases h with h | ⟨h,h'⟩
 ·rw [Nat.min_eq_right h,e]
  exact ⟨f.top,Nat.le_refl _,Nat.le_add_right _ _,y,fun i a b=>absurd b (Nat.not_lt.mpr a)⟩
 ·rw [Nat.min_eq_left (Nat.le_sub_of_add_le' (Nat.le_of_lt h))]
  exact ⟨Nat.add_lt_add_left f.lt b,Nat.le_of_lt h,Nat.le_trans (Nat.le_of_lt h) (Nat.le_add_right _ _),y,h'⟩
structure F2 (p:Nat→Bool)(n b x l o:Nat):Prop where
 lt:l<o
 t:x+1≤o
 top:l≤b
 no:∀i,b-l≤i→i<n→p i=false
theorem F2.out {b:Nat}(hb:b<n)(f:F2 p n b x l o)(h:b+1≤o∨(o≤b∧∀i,i≤b-o→p i=true)):G3 p n 0 (b+1-min o (b+1)) (b-l):=by
 have t:b-l≤n:=Nat.le_trans (Nat.sub_le _ _) (Nat.le_of_lt hb)
 have t2:∀y,b-l+0≤n+y:=fun y=>Nat.le_trans t (Nat.le_add_right _ _)
 rcases h with h | ⟨h,h'⟩
 ·rw [Nat.min_eq_right h,Nat.sub_self]
  exact ⟨Nat.zero_le _,t,t2 _,fun i h=>absurd h (Nat.not_lt_zero i),f.no⟩
 ·rw [Nat.min_eq_left (Nat.le_succ_of_le h),Nat.sub_add_comm h]
  exact ⟨Nat.sub_lt_sub_left (Nat.lt_of_lt_of_le f.lt h) f.lt,t,t2 _,fun i a=>h' i (Nat.le_of_lt_succ a),f.no⟩
end
theorem Cd {σ α:Type}{M:Model}{X:StateT σ Sem α}{F:Nat→Nat→Nat→Nat→StateT σ Sem α}{H:Nat→Nat→Prop}{Q:α→σ→Prop}{st:σ}(h1:∀a b c d,H c d→wpM M A E s (F a b c d) Q st)(h2:(∀a b c d,H c d→wpM M A E s (F a b c d) Q st)→wpM M A E s X Q st):wpM M A E s X Q st:=h2 h1
theorem aY {σ α:Type}{M:Model}{c:Bool}{X Y:StateT σ Sem α}{Q:α→σ→Prop}{st:σ}(h1:c=true→wpM M A E s X Q st)(h2:c=false→wpM M A E s Y Q st):wpM M A E s (if c=true then X else Y) Q st:=by
 cases c with
 | true=>exact h1 rfl
 | false=>exact h2 rfl
theorem bx {σ α:Type}{M:Model}{c:Prop} [Decidable c] {X Y:StateT σ Sem α}{Q:α→σ→Prop}{st:σ}(h1:c→wpM M A E s X Q st)(h2:¬ c→wpM M A E s Y Q st):wpM M A E s (if c then X else Y) Q st:=by
 by_cases q:c
 ·rw [if_pos q];exact h1 q
 ·rw [if_neg q];exact h2 q
theorem AA (hO:κ.OneLt){left:Bool}{key:Keyed}{arr:Array Keyed}{base n hint:Nat}{st:SortSt}{Q:Option Nat→SortSt→Prop}{p:Nat→Bool}(hk:kindOf st=oneType')(hkey:aU κ key)
  (hp:∀i,i<n→∃x,arr[base+i]?=some x∧aU κ x∧p i=(if left=true then κ.blt (kof κ x) (kof κ key) else !κ.blt (kof κ key) (kof κ x)))
  (mono:∀i j,i≤j→j<n→p j=true→p i=true) (hh:hint<n)
  (h:∀k,k≤n→(∀i,i<k→p i=true)→(∀i,k≤i→i<n→p i=false)→Q (some k) st):wpM (model prog w) A E s (gal left key arr base n hint) Q st:=by
 have anti:∀i j,i≤j→j<n→p i=false→p j=false:=fun i j h1 h2 h3=>by
  cases q:p j with
  | false=>rfl
  | true=>rw [mono i j h1 h2 q] at h3;cases h3
 have B:∀{i:Nat} {Q:Option Bool→SortSt→Prop},i<n→Q (some (p i)) st→wpM (model prog w) A E s (elem' arr (base+i) >>= fun x=>if left=true then lt' x key else lt' key x >>= fun r=>pure (r.map fun x=>!x)) Q st:=fun {i Q} hi hq=>by
  obtain ⟨x,e,hx,hb⟩:=hp i hi
  exact EF hO hk hkey e hx hb hq
 have md:∀j,j<n→p j=true→∀i,i≤j→p i=true:=fun j a b i c=>mono i j c a b
 have mu:∀j,p j=false→∀i,j≤i→i<n→p i=false:=fun j a i b c=>anti j i b c a
 refine wpS_bind (B hh ?_)
 dsimp -zeta only
 extract_lets -underBinder -merge +onlyGivenNames jp
 refine Cd (F:=jp ()) (H:=G3 p n 0) ?_ fun key=>?_
 ·intro _ _ lo hi g
  refine wpS_bind (wpS_mono (wpS_forRange (I:=fun x c st'=>st'=st∧c.1=none∧G3 p n x c.2.1 c.2.2)
   (Q:=fun c st'=>st'=st∧c.1=none∧c.2.2≤c.2.1∧G3 p n 0 c.2.1 c.2.2) ?_ ?_ ⟨rfl,rfl,g⟩) ?_)
  ·rintro x ⟨_,lo,hi⟩ st' _ hx ⟨rfl,rfl,g⟩
   have g0:G3 p n 0 lo hi:=⟨g.le,g.top,Nat.le_trans g.top (Nat.le_add_right _ _),g.yes,g.no⟩
   refine bx (fun q=>wpS_pure ⟨rfl,rfl,q,g0⟩) fun q=>?_
   have hm:=Gf q
   have hn:=Nat.lt_of_lt_of_le hm g.top
   refine wpS_bind (B hn (aY (fun q3=>wpS_pure ⟨rfl,rfl,g.up (Nat.le_add_right _ _) hm (md _ hn q3)⟩) fun q3=>wpS_pure ⟨rfl,rfl,g.dn (Nat.le_add_right _ _) hm (mu _ q3)⟩))
  ·rintro ⟨_,lo,hi⟩ st' ⟨rfl,rfl,g⟩
   exact ⟨rfl,rfl,n2 g.t (Nat.le_max_right 0 n) (by simp +arith only),g.le,g.top,Nat.le_trans g.top (Nat.le_add_right _ _),g.yes,g.no⟩
  ·rintro ⟨_,lo,hi⟩ st' ⟨rfl,rfl,q,g⟩
   exact wpS_pure (h hi g.top (fun i hi=>g.yes i (Nat.lt_of_lt_of_le hi q)) g.no)
 refine aY (fun hr=>?_) fun hr=>?_
 ·refine wpS_bind (wpS_mono (wpS_forRange (I:=fun x c st'=>st'=st∧c.1=none∧F1 p n hint x c.2.1 c.2.2)
   (Q:=fun c st'=>st'=st∧c.1=none∧G3 p n 0 (hint+c.2.1+1) (hint+min c.2.2 (n-hint))) ?_ ?_ (by exact ⟨rfl,rfl,Nat.one_pos,Nat.le_refl _,hh,md _ hh hr⟩)) ?_)
  ·rintro x ⟨_,l,o⟩ st' _ hx ⟨rfl,rfl,f⟩
   refine bx (fun q=>wpS_pure ⟨rfl,rfl,f.out (.inl q)⟩) fun q=>?_
   have q2:hint+o<n:=Nat.add_lt_of_lt_sub' (Nat.lt_of_not_le q)
   refine wpS_bind (B q2 ?_)
   cases q3:p (hint+o) with
   | false=>exact wpS_pure ⟨rfl,rfl,f.out (.inr ⟨q2,mu _ q3⟩)⟩
   | true=>exact wpS_pure ⟨rfl,rfl,by simp +arith only,n1 f.t (by simp +arith only),q2,md _ q2 q3⟩
  ·rintro ⟨_,l,o⟩ st' ⟨rfl,rfl,f⟩
   exact ⟨rfl,rfl,f.out (.inl (Nat.le_trans (Nat.sub_le _ _) (n2 f.t (Nat.le_max_right 0 n) (by simp +arith only))))⟩
  ·rintro ⟨_,l,o⟩ st' ⟨rfl,rfl,g⟩
   exact key l o _ _ g
 ·refine wpS_bind (wpS_mono (wpS_forRange (I:=fun x c st'=>st'=st∧c.1=none∧F2 p n hint x c.2.1 c.2.2)
   (Q:=fun c st'=>st'=st∧c.1=none∧G3 p n 0 (hint+1-min c.2.2 (hint+1)) (hint-c.2.1)) ?_ ?_ (by exact ⟨rfl,rfl,Nat.one_pos,Nat.le_refl _,Nat.zero_le _,mu _ hr⟩)) ?_)
  ·rintro x ⟨_,l,o⟩ st' _ hx ⟨rfl,rfl,f⟩
   refine bx (fun q=>wpS_pure ⟨rfl,rfl,f.out hh (.inl q)⟩) fun q=>?_
   have q1:o≤hint:=Nat.le_of_lt_succ (Nat.lt_of_not_le q)
   have q2:hint-o<n:=Nat.lt_of_le_of_lt (Nat.sub_le _ _) hh
   refine wpS_bind (B q2 (aY (fun q3=>wpS_pure ⟨rfl,rfl,f.out hh (.inr ⟨q1,md _ q2 q3⟩)⟩) fun q3=>wpS_pure ⟨rfl,rfl,by simp +arith only,n1 f.t (by simp +arith only),q1,mu _ q3⟩))
  ·rintro ⟨_,l,o⟩ st' ⟨rfl,rfl,f⟩
   exact ⟨rfl,rfl,f.out hh (.inl (n3 f.t hh (Nat.le_max_right 0 n) (by simp +arith only)))⟩
  ·rintro ⟨_,l,o⟩ st' ⟨rfl,rfl,g⟩
   exact key l o _ _ g
end
end Internal
end
section
namespace Internal
open PySem PyProof.Rows
open PyProof.Rows renaming wpS → wpM
section
variable {κ:KeyKind}{L o k u v:List Keyed}{x y:Keyed}
noncomputable def Srt (κ:KeyKind)(l:List Keyed):Prop:=l.Pairwise fun x y=>κ.kle (kof κ x) (kof κ y)
structure MI (κ:KeyKind)(L o u v:List Keyed):Prop where
 p:(o++u++v).Perm L
 s1:Srt κ (o++u)
 s2:Srt κ (o++v)
theorem MI.sw (h:MI κ L o u v):MI κ L o v u:=
 ⟨List.Perm.trans (by rw [List.append_assoc,List.append_assoc];exact List.perm_append_comm.append_left o) h.p,h.s2,h.s1⟩
theorem MI.take (h:MI κ L o (k++u) (y::v))(hk:∀x∈k,κ.kle (kof κ x) (kof κ y)):MI κ L (o++k) u (y::v):=by
 refine ⟨?_,?_,?_⟩
 ·rw [List.append_assoc o k u];exact h.p
 ·rw [List.append_assoc o k u];exact h.s1
 ·obtain ⟨a1,a2,a3⟩:=List.pairwise_append.mp h.s2
  have b:=h.s1
  rw [←List.append_assoc] at b
  refine List.pairwise_append.mpr ⟨(List.pairwise_append.mp b).1,a2,fun p hp q hq=>?_⟩
  rcases List.mem_append.mp hp with hp | hp
  ·exact a3 p hp q hq
  ·rcases List.mem_cons.mp hq with rfl | hq
   ·exact hk p hp
   ·exact KeyOrd.kle_trans (hk p hp) ((List.pairwise_cons.mp a2).1 q hq)
theorem MI.fin (h:MI κ L o u []):(o++u).Perm L∧Srt κ (o++u):=⟨by have:=h.p;rwa [List.append_nil] at this,h.s1⟩
theorem MI.last (h:MI κ L o [x] v)(hv:∀y∈v,κ.kle (kof κ y) (kof κ x)):(o++v++[x]).Perm L∧Srt κ (o++v++[x]):=by
 refine ⟨h.sw.p,List.pairwise_append.mpr ⟨h.s2,List.pairwise_singleton _ _,fun p hp q hq=>?_⟩⟩
 cases List.mem_singleton.mp hq
 rcases List.mem_append.mp hp with hp | hp
 ·exact (List.pairwise_append.mp h.s1).2.2 p hp _ hq
 ·exact hv p hp
structure MH (κ:KeyKind)(L u v o:List Keyed):Prop where
 p:(u++v++o).Perm L
 s1:Srt κ (u++o)
 s2:Srt κ (v++o)
theorem MH.sw (h:MH κ L u v o):MH κ L v u o:=⟨(List.perm_append_comm.append_right o).trans h.p,h.s2,h.s1⟩
theorem MH.take (h:MH κ L (u++k) (v++[y]) o)(hk:∀x∈k,κ.kle (kof κ y) (kof κ x)):MH κ L u (v++[y]) (k++o):=by
 refine ⟨?_,?_,?_⟩
 ·refine List.Perm.trans ?_ h.p
  rw [List.append_assoc u,List.append_assoc (u++k),List.append_assoc u,←List.append_assoc (v++[y]),←List.append_assoc k]
  exact (List.perm_append_comm.append_right o).append_left u
 ·rw [←List.append_assoc];exact h.s1
 ·obtain ⟨a1,a2,a3⟩:=List.pairwise_append.mp h.s2
  have b:=h.s1
  rw [List.append_assoc] at b
  refine List.pairwise_append.mpr ⟨a1,(List.pairwise_append.mp b).2.1,fun p hp q hq=>?_⟩
  rcases List.mem_append.mp hq with hq | hq
  ·rcases List.mem_append.mp hp with hp | hp
   ·exact KeyOrd.kle_trans ((List.pairwise_append.mp a1).2.2 p hp y (.head _)) (hk q hq)
   ·cases List.mem_singleton.mp hp;exact hk q hq
  ·exact a3 p hp q hq
theorem MH.fin (h:MH κ L u [] o):(u++o).Perm L∧Srt κ (u++o):=⟨by have:=h.p;rwa [List.append_nil] at this,h.s1⟩
theorem MH.first (h:MH κ L u [y] o)(hu:∀x∈u,κ.kle (kof κ y) (kof κ x)):([y]++u++o).Perm L∧Srt κ ([y]++u++o):=by
 refine ⟨h.sw.p,?_⟩
 rw [List.append_assoc]
 refine List.pairwise_append.mpr ⟨List.pairwise_singleton _ _,h.s1,fun p hp q hq=>?_⟩
 cases List.mem_singleton.mp hp
 rcases List.mem_append.mp hq with hq | hq
 ·exact hu q hq
 ·exact (List.pairwise_append.mp h.s2).2.2 _ hp q hq
end
end Internal
end
section
namespace Internal
open PySem PyProof.Rows
open PyProof.Rows renaming wpS → wpM
theorem jM {α:Type}(a:Array α)(i:Nat):(a.extract i a.size).toList=a.toList.drop i:=by
 rw [Array.toList_extract,List.extract_eq_take_drop]
 exact List.take_of_length_le (by rw [List.length_drop,Array.length_toList];exact Nat.le_refl _)
theorem q9 {α:Type}(a:Array α)(i k:Nat):(a.extract i (i+k)).toList=(a.toList.drop i).take k:=by
 rw [Array.toList_extract,List.extract_eq_take_drop,Nat.add_sub_cancel_left]
theorem jN {α:Type}(a:Array α)(k:Nat):(a.extract 0 k).toList=a.toList.take k:=by
 rw [Array.toList_extract,List.extract_eq_take_drop];rfl
theorem kt {α:Type}{a:Array α}{i:Nat}{x:α}(e:a[i]?=some x):a.toList.drop i=x::a.toList.drop (i+1):=by
 have e:a.toList[i]?=some x:=by rw [Array.getElem?_toList];exact e
 obtain ⟨h,rfl⟩:=List.getElem?_eq_some_iff.mp e
 exact List.drop_eq_getElem_cons h
theorem ku {α:Type}{a:Array α}{i:Nat}(h:a.size≤i):a.toList.drop i=[]:=List.drop_of_length_le (by rw [Array.length_toList];exact h)
section
variable {κ:KeyKind}{L:List Keyed}{a b out:Array Keyed}{i j k:Nat}{x y:Keyed}
noncomputable def Mgd (κ:KeyKind)(L:List Keyed)(m:Array Keyed):Prop:=m.toList.Perm L∧Srt κ m.toList
noncomputable abbrev MA (κ:KeyKind) (L:List Keyed) (a b out:Array Keyed) (i j:Nat):Prop:=MI κ L out.toList (a.toList.drop i) (b.toList.drop j)
theorem Srt.at (h:Srt κ a.toList)(hij:i≤j)(e1:a[i]?=some x)(e2:a[j]?=some y):κ.kle (kof κ x) (kof κ y):=by
 rcases Nat.eq_or_lt_of_le hij with rfl | hij
 ·cases e1.symm.trans e2;exact KeyOrd.kle_refl _
 ·obtain ⟨h1,rfl⟩:=Array.getElem?_eq_some_iff.mp e1
  obtain ⟨h2,rfl⟩:=Array.getElem?_eq_some_iff.mp e2
  exact List.pairwise_iff_getElem.mp h i j (by rw [Array.length_toList];exact h1) (by rw [Array.length_toList];exact h2) hij
theorem MA.bulk (h:MA κ L a b out i j)(eb:b[j]?=some y)(hk:∀z,z<k→∀x,a[i+z]?=some x→κ.kle (kof κ x) (kof κ y)):MA κ L a b (out++a.extract i (i+k)) (i+k) j:=by
 unfold MA at h ⊢
 rw [Array.toList_append,q9,←List.drop_drop]
 rw [kt eb] at h ⊢
 refine MI.take (by rw [List.take_append_drop];exact h) fun x hx=>?_
 obtain ⟨z,hz,rfl⟩:=List.mem_iff_getElem.mp hx
 rw [List.length_take] at hz
 refine hk z (by lia) _ ?_
 rw [←Array.getElem?_toList,List.getElem_take,List.getElem_drop]
 exact List.getElem?_eq_getElem _
theorem MA.push (h:MA κ L a b out i j)(ea:a[i]?=some x)(eb:b[j]?=some y)(hle:κ.kle (kof κ x) (kof κ y)):MA κ L a b (out.push x) (i+1) j:=by
 unfold MA at h ⊢
 rw [Array.toList_push]
 rw [kt eb,kt ea] at h
 rw [kt eb]
 exact MI.take (k:=[x]) h fun z hz=>by cases List.mem_singleton.mp hz;exact hle
theorem MA.done (h:MA κ L a b out i j)(hj:b.size≤j∨a.size≤i):Mgd κ L (out++a.extract i a.size++b.extract j b.size):=by
 unfold Mgd
 unfold MA at h
 rw [Array.toList_append,Array.toList_append,jM,jM]
 rcases hj with hj | hj
 ·rw [ku hj] at h ⊢;rw [List.append_nil];exact h.fin
 ·rw [ku hj] at h ⊢;rw [List.append_nil];exact h.sw.fin
theorem MA.last (h:MA κ L a b out i j)(ea:a[i]?=some x)(hi:i+1=a.size)(hv:∀y∈b.toList,κ.kle (kof κ y) (kof κ x)):Mgd κ L (out++b.extract j b.size++a.extract i a.size):=by
 unfold Mgd
 unfold MA at h
 rw [Array.toList_append,Array.toList_append,jM,jM]
 rw [kt ea,ku (Nat.le_of_eq hi.symm)] at h ⊢
 exact h.last fun y hy=>hv y (List.mem_of_mem_drop hy)
end
section
variable {prog:Program}{w:World}{A:Around}{E:Value→Shared→Prop}{s:Shared}{κ:KeyKind}
noncomputable def ky (κ:KeyKind)(a:Array Keyed)(base n:Nat):Prop:=∀i j x y,i≤j→j<n→a[base+i]?=some x→a[base+j]?=some y→κ.kle (kof κ x) (kof κ y)
theorem qf (hO:κ.OneLt){key:Keyed}{arr:Array Keyed}{base n hint:Nat}{st:SortSt}{Q:Option Nat→SortSt→Prop}(hk:kindOf st=oneType')(hkey:aU κ key)(ha:∀x∈arr.toList,aU κ x)(hs:ky κ arr base n)(hn:base+n≤arr.size)(hh:hint<n)
  (h:∀k,k≤n→(∀i,i<k→∀x,arr[base+i]?=some x→κ.kle (kof κ x) (kof κ key))→(∀i,k≤i→i<n→∀x,arr[base+i]?=some x→κ.klt (kof κ key) (kof κ x))→Q (some k) st):wpM (model prog w) A E s (gal false key arr base n hint) Q st:=by
 refine AA (p:=fun i=>match arr[base+i]? with | some x=>!κ.blt (kof κ key) (kof κ x) | none=>false) hO hk hkey (fun i hi=>?_) (fun i j h1 h2 h3=>?_) hh fun k h1 h2 h3=>h k h1 (fun i hi x e=>?_) fun i hi hin x e=>?_
 ·have hi:base+i<arr.size:=n2 hi hn (by simp +arith only)
  exact ⟨arr[base+i],Array.getElem?_eq_getElem hi,ha _ (Array.getElem_mem_toList hi),by rw [Array.getElem?_eq_getElem hi];rfl⟩
 ·have hi:base+i<arr.size:=n3 h2 h1 hn (by simp +arith only)
  have hj:base+j<arr.size:=n2 h2 hn (by simp +arith only)
  rw [Array.getElem?_eq_getElem hj] at h3
  rw [Array.getElem?_eq_getElem hi]
  have q:=hs i j _ _ h1 h2 (Array.getElem?_eq_getElem hi) (Array.getElem?_eq_getElem hj)
  have h3:κ.blt (kof κ key) (kof κ arr[base+j])=false:=by simpa using h3
  show (!κ.blt _ _)=true
  have:κ.kle (kof κ arr[base+i]) (kof κ key):=KeyOrd.kle_trans q h3
  rw [show κ.blt (kof κ key) (kof κ arr[base+i])=false from this];rfl
 ·have q:=h2 i hi
  rw [e] at q
  show κ.blt _ _=false
  simpa using q
 ·have q:=h3 i hi hin
  rw [e] at q
  show κ.blt _ _=true
  simpa using q
theorem qg (hO:κ.OneLt){key:Keyed}{arr:Array Keyed}{base n hint:Nat}{st:SortSt}{Q:Option Nat→SortSt→Prop}(hk:kindOf st=oneType')(hkey:aU κ key)(ha:∀x∈arr.toList,aU κ x)(hs:ky κ arr base n)(hn:base+n≤arr.size)(hh:hint<n)
  (h:∀k,k≤n→(∀i,i<k→∀x,arr[base+i]?=some x→κ.klt (kof κ x) (kof κ key))→(∀i,k≤i→i<n→∀x,arr[base+i]?=some x→κ.kle (kof κ key) (kof κ x))→Q (some k) st):wpM (model prog w) A E s (gal true key arr base n hint) Q st:=by
 refine AA (p:=fun i=>match arr[base+i]? with | some x=>κ.blt (kof κ x) (kof κ key) | none=>false) hO hk hkey (fun i hi=>?_) (fun i j h1 h2 h3=>?_) hh fun k h1 h2 h3=>h k h1 (fun i hi x e=>?_) fun i hi hin x e=>?_
 ·have hi:base+i<arr.size:=n2 hi hn (by simp +arith only)
  exact ⟨arr[base+i],Array.getElem?_eq_getElem hi,ha _ (Array.getElem_mem_toList hi),by rw [Array.getElem?_eq_getElem hi];rfl⟩
 ·have hi:base+i<arr.size:=n3 h2 h1 hn (by simp +arith only)
  have hj:base+j<arr.size:=n2 h2 hn (by simp +arith only)
  rw [Array.getElem?_eq_getElem hj] at h3
  rw [Array.getElem?_eq_getElem hi]
  exact KeyOrd.klt_of_kle_of_klt (hs i j _ _ h1 h2 (Array.getElem?_eq_getElem hi) (Array.getElem?_eq_getElem hj)) h3
 ·have q:=h2 i hi
  rw [e] at q;exact q
 ·have q:=h3 i hi hin
  rw [e] at q;exact q
end
end Internal
end
section
namespace Internal
open PySem PyProof.Rows
open PyProof.Rows renaming wpS → wpM
section
variable {prog:Program}{w:World}{A:Around}{E:Value→Shared→Prop}{s:Shared}{κ:KeyKind}
noncomputable def mlo:Array Keyed→Array Keyed→StateT SortSt Sem (Array Keyed):=sortPriv% PySem.Builtin.mergeLo
noncomputable def mhi:Array Keyed→Array Keyed→StateT SortSt Sem (Array Keyed):=sortPriv% PySem.Builtin.mergeHi
structure KpM (st st':SortSt):Prop where
 kind:kindOf st'=kindOf st
 arr:arrOf st'=arrOf st
 pend:pendingOf st'=pendingOf st
 failed:failedOf st'=failedOf st
theorem EG {σ α:Type}{M:Model}{c:Prop} [Decidable c] {F:Nat→StateT σ Sem α}{g1 g2:Nat}{Q:α→σ→Prop}{st:σ}(h:∀g,wpM M A E s (F g) Q st):wpM M A E s (if c then F g1 else F g2) Q st:=bx (fun _=>h _) fun _=>h _
theorem Srt.from {a:Array Keyed}(h:Srt κ a.toList)(i n:Nat):ky κ a i n:=fun p q x y hpq _ e1 e2=>h.at (Nat.add_le_add_left hpq i) e1 e2
theorem AB {σ α:Type}{M:Model}{X:StateT σ Sem α}{F:Array Keyed→Nat→StateT σ Sem α}{H:Array Keyed→Nat→Prop}{Q:α→σ→Prop}{st:σ}(h1:∀o i,H o i→wpM M A E s (F o i) Q st)(h2:(∀o i,H o i→wpM M A E s (F o i) Q st)→wpM M A E s X Q st):wpM M A E s X Q st:=h2 h1
theorem MA.sw {L:List Keyed}{a b out:Array Keyed}{i j:Nat}(h:MA κ L a b out i j):MA κ L b a out j i:=MI.sw h
structure LB (κ:KeyKind)(a b:Array Keyed)(t:Nat)(out:Array Keyed)(ia ib:Nat):Prop where
 m:MA κ (a.toList++b.toList) a b out ia ib
 la:ia+1<a.size
 lb:ib<b.size
 t:t≤ia+ib
inductive LO (κ:KeyKind)(a b:Array Keyed)(G:Prop)(st:SortSt)(o:Option (Array Keyed))(st':SortSt):Prop
 | fin (k:KpM st st') (r:Array Keyed) (e:o=some r) (m:Mgd κ (a.toList++b.toList) r)
 | go (k:KpM st st') (e:o=none) (g:G)
structure LpI (G:Prop)(st:SortSt)(o:Option (Array Keyed))(st':SortSt):Prop where
 k:KpM st st'
 e:o=none
 g:G
section
variable {a b out:Array Keyed}{ia ib t k:Nat}{x y:Keyed}
theorem cy {i n:Nat}(h:i≤n)(q:(i==n)=false):i<n:=Nat.lt_of_le_of_ne h (ne_of_beq_false q)
theorem LB.ea (l:LB κ a b t out ia ib):a[ia]?=some (a[ia]'(Nat.lt_of_succ_lt l.la)):=Array.getElem?_eq_getElem _
theorem LB.eb (l:LB κ a b t out ia ib):b[ib]?=some (b[ib]'l.lb):=Array.getElem?_eq_getElem _
theorem LB.of {t':Nat}(l:LB κ a b t out ia ib)(h:t'≤t):LB κ a b t' out ia ib:=⟨l.m,l.la,l.lb,Nat.le_trans h l.t⟩
end
theorem AC (hO:κ.OneLt){a b:Array Keyed}{i j:Nat}{x y:Keyed}{st:SortSt}{α:Type}{Q:α→SortSt→Prop}{F:Option Bool→StateT SortSt Sem α}(hk:kindOf st=oneType')(e2:b[j]?=some y)(e1:a[i]?=some x)(hy:aU κ y)(hx:aU κ x)(h:wpM (model prog w) A E s (F (some (κ.blt (kof κ y) (kof κ x)))) Q st) :
  wpM (model prog w) A E s (elem' b j >>= fun y=>elem' a i >>= fun x=>lt' y x >>= F) Q st:=wpS_bind (bw e2 (wpS_bind (bw e1 (wpS_bind (yG hO hk hy hx h)))))
theorem EH (hO:κ.OneLt){a b:Array Keyed}{st:SortSt}{Q:Array Keyed→SortSt→Prop}(hk:kindOf st=oneType')(ka:∀x∈a.toList,aU κ x)(kb:∀x∈b.toList,aU κ x)(sa:Srt κ a.toList)(sb:Srt κ b.toList)
  {x0 y0 xl:Keyed}(ea:a[0]?=some x0) (eb:b[0]?=some y0) (h0:κ.kle (kof κ y0) (kof κ x0)) (el:a[a.size-1]?=some xl) (hl:∀y∈b.toList,κ.kle (kof κ y) (kof κ xl))
  (h:∀m st',Mgd κ (a.toList++b.toList) m→KpM st st'→Q m st'):wpM (model prog w) A E s (mlo a b) Q st:=by
 have m0:MA κ (a.toList++b.toList) a b #[y0] 0 1:=(MA.push (a:=b) (b:=a) (out:=#[]) (i:=0) (j:=0) ⟨List.perm_append_comm,sb,sa⟩ eb ea h0).sw
 have lastA:∀{out i j},MA κ (a.toList++b.toList) a b out i j→(i+1==a.size)=true→Mgd κ (a.toList++b.toList) (out++b.extract j b.size++a.extract i a.size):=fun {out i j} m hi=>by
  have hi:=eq_of_beq hi
  exact m.last (by rw [←el,←hi];rfl) hi hl
 have doneB:∀{out i j},MA κ (a.toList++b.toList) a b out i j→(j==b.size)=true→Mgd κ (a.toList++b.toList) (out++a.extract i a.size++b.extract j b.size):=fun m hj=>m.done (.inl (Nat.le_of_eq (eq_of_beq hj).symm))
 refine wpS_bind (wpS_lift (wpAny_rule ⟨rfl,?_⟩))
 refine wpS_bind (bw eb ?_)
 refine aY (fun q=>wpS_pure (h _ _ (doneB m0 q) ⟨rfl,rfl,rfl,rfl⟩)) fun q1=>?_
 refine aY (fun q=>wpS_pure (h _ _ (lastA m0 q) ⟨rfl,rfl,rfl,rfl⟩)) fun q2=>?_
 have q1:1<b.size:=cy (Array.getElem?_eq_some_iff.mp eb).1 q1
 have q2:0+1<a.size:=cy (Array.getElem?_eq_some_iff.mp ea).1 q2
 refine wpS_bind (wpS_get ?_)
 refine wpS_bind (wpS_mono (wpS_forRange (I:=fun x c st'=>LpI (LB κ a b (x+1) c.2.1 c.2.2.1 c.2.2.2.1) st c.1 st')
  (Q:=fun c st'=>LO κ a b False st c.1 st') ?_ ?_ (by exact ⟨⟨rfl,rfl,rfl,rfl⟩,rfl,m0,q2,q1,Nat.le_refl _⟩)) ?_)
 ·rintro x ⟨_,out,ia,ib,mg⟩ st1 _ hx ⟨k1,rfl,m1⟩
  refine wpS_bind (wpS_mono (wpS_forRange (I:=fun x' c st2=>LpI (LB κ a b (x+x'+1) c.2.1 c.2.2.1 c.2.2.2.1) st c.1 st2)
   (Q:=fun c st2=>LO κ a b (LB κ a b (x+2) c.2.1 c.2.2.1 c.2.2.2.1) st c.1 st2) ?_ ?_ ⟨k1,rfl,m1⟩) ?_)
  ·rintro x' ⟨_,out,ia,ib,ac,bc⟩ st2 _ hx' ⟨k2,rfl,m⟩
   have m:LB κ a b (x+x'+1) out ia ib:=m
   refine AC hO (k2.kind.trans hk) m.eb m.ea (kb _ (Array.getElem_mem_toList _)) (ka _ (Array.getElem_mem_toList _)) ?_
   refine aY (fun q=>?_) fun q=>?_
   ·have m':=(MA.push m.m.sw m.eb m.ea (KeyOrd.kle_of_klt q)).sw
    refine wpS_bind (bw m.eb ?_)
    refine aY (fun q=>wpS_pure (.fin k2 _ rfl (doneB m' q))) fun q=>?_
    have l':LB κ a b (x+x'+1+1) _ ia (ib+1):=⟨m',m.la,cy m.lb q,Nat.succ_le_succ m.t⟩
    exact bx (fun _=>wpS_pure (.go k2 rfl (l'.of (by simp +arith only)))) fun _=>wpS_pure ⟨k2,rfl,l'⟩
   ·have m':=MA.push m.m m.ea m.eb q
    refine wpS_bind (bw m.ea ?_)
    refine aY (fun q=>wpS_pure (.fin k2 _ rfl (lastA m' q))) fun q=>?_
    have l':LB κ a b (x+x'+1+1) _ (ia+1) ib:=⟨m',cy m.la q,m.lb,n1 m.t (by simp +arith only)⟩
    exact bx (fun _=>wpS_pure (.go k2 rfl (l'.of (by simp +arith only)))) fun _=>wpS_pure ⟨k2,rfl,l'⟩
  ·rintro ⟨_,out,ia,ib,ac,bc⟩ st2 ⟨k2,rfl,m⟩
   exact absurd (Nat.add_lt_add (Nat.lt_of_succ_lt m.la) m.lb) (Nat.not_lt.mpr (n2 m.t (Nat.le_max_right 0 _) (by simp +arith only)))
  rintro ⟨o,out,ia,ib,ac,bc⟩ st2 (⟨k2,r,rfl,hr⟩ | ⟨k2,rfl,m⟩)
  ·exact wpS_pure (.fin k2 r rfl hr)
  refine wpS_bind (wpS_lift (wpAny_rule ⟨rfl,?_⟩))
  refine wpS_bind (wpS_mono (wpS_forRange (I:=fun x' c st2=>LpI (LB κ a b (x+x'+2) c.2.1 c.2.2.1 c.2.2.2.1) st c.1 st2)
   (Q:=fun c st2=>LO κ a b (LB κ a b (x+2) c.2.1 c.2.2.1 c.2.2.2.1) st c.1 st2) ?_ ?_ ⟨k2,rfl,m⟩) ?_)
  ·rintro x' ⟨_,out,ia,ib,mg,ac,bc⟩ st2 _ hx' ⟨k2,rfl,m⟩
   extract_lets -underBinder -merge +onlyGivenNames _ o _ i _ j _ g _ ac' bc' jp
   have m:LB κ a b (x+x'+2) out ia ib:=m
   have eA:ia+(a.size-ia)=a.size:=Nat.add_sub_cancel' (Nat.le_of_lt (Nat.lt_of_succ_lt m.la))
   refine EG (F:=jp ()) fun g'=>wpS_bind (wpS_modify (wpS_bind (bw m.eb (wpS_bind (qf hO (k2.kind.trans hk) (kb _ (Array.getElem_mem_toList _)) ka (sa.from ia _) (Nat.le_of_eq eA) (Nat.sub_pos_of_lt (Nat.lt_of_succ_lt m.la)) fun k h1 h2 h3=>?_)))))
   have k3:KpM st (SortSt.mk' (kindOf st2) (arrOf st2) (pendingOf st2) g' (failedOf st2)):=⟨k2.kind,k2.arr,k2.pend,k2.failed⟩
   dsimp -zeta only
   extract_lets -underBinder -merge +onlyGivenNames ac2 jp2
   refine AB (F:=jp2 ()) (H:=fun out' i'=>LB κ a b (x+x'+2) out' i' ib∧∀x,a[i']?=some x→κ.kle (kof κ (b[ib]'m.lb)) (kof κ x)) ?_ fun key2=>?_
   ·rintro out' i' ⟨n,d3⟩
    have m':=(MA.push n.m.sw n.eb n.ea (d3 _ n.ea)).sw
    refine wpS_bind (bw n.eb ?_)
    refine aY (fun q=>wpS_pure (.fin k3 _ rfl (doneB m' q))) fun q=>?_
    have q:=cy n.lb q
    have eB:ib+1+(b.size-(ib+1))=b.size:=Nat.add_sub_cancel' (Nat.le_of_lt q)
    refine wpS_bind (bw n.ea (wpS_bind (qg hO (k2.kind.trans hk) (ka _ (Array.getElem_mem_toList _)) kb (sb.from (ib+1) _) (Nat.le_of_eq eB) (Nat.sub_pos_of_lt q) fun k' h1' h2' h3'=>?_)))
    dsimp -zeta only
    extract_lets -underBinder -merge +onlyGivenNames bc2 jp3
    refine AB (F:=jp3 ()) (H:=fun out' j'=>LB κ a b (x+x'+2) out' i' j'∧∀y,b[j']?=some y→κ.kle (kof κ (a[i']'(Nat.lt_of_succ_lt n.la))) (kof κ y)) ?_ fun key3=>?_
    ·rintro out' j' ⟨n,f3⟩
     refine wpS_bind (bw n.ea ?_)
     have m':=MA.push n.m n.ea n.eb (f3 _ n.eb)
     refine aY (fun q=>wpS_pure (.fin k3 _ rfl (lastA m' q))) fun q=>?_
     have l':LB κ a b (x+(x'+1)+2) _ (i'+1) j':=⟨m',cy n.la q,n.lb,n1 n.t (by simp +arith only)⟩
     exact aY (fun _=>wpS_pure (.go k3 rfl (l'.of (by simp +arith only)))) fun _=>wpS_pure ⟨k3,rfl,l'⟩
    refine bx (fun z=>?_) fun z=>?_
    ·have m'':=(MA.bulk m'.sw n.ea fun z hz x e=>KeyOrd.kle_of_klt (h2' z hz x e)).sw
     refine aY (fun q=>wpS_pure (.fin k3 _ rfl (doneB m'' q))) fun q3=>?_
     have q3:=cy (Nat.le_trans (Nat.add_le_add_left h1' _) (Nat.le_of_eq eB)) q3
     exact key3 _ (ib+1+k') ⟨⟨m'',n.la,q3,n1 n.t (by simp +arith only)⟩,fun x e=>h3' k' (Nat.le_refl _) (Nat.lt_sub_iff_add_lt'.mpr q3) x e⟩
    ·cases Nat.eq_zero_of_not_pos z
     exact key3 _ (ib+1) ⟨⟨m',n.la,q,n1 n.t (by simp +arith only)⟩,fun x e=>h3' 0 (Nat.le_refl _) (Nat.sub_pos_of_lt q) x e⟩
   refine bx (fun z=>?_) fun z=>?_
   ·have m'':=MA.bulk m.m m.eb h2
    refine aY (fun q=>wpS_pure (.fin k3 _ rfl (lastA m'' q))) fun q=>?_
    refine aY (fun q=>wpS_pure (.fin k3 _ rfl (m''.done (.inr (Nat.le_of_eq (eq_of_beq q).symm))))) fun q'=>?_
    have q':=cy (Nat.le_trans (Nat.add_le_add_left h1 _) (Nat.le_of_eq eA)) q'
    exact key2 _ (ia+k) ⟨⟨m'',cy q' q,m.lb,n1 m.t (by simp +arith only)⟩,fun x e=>KeyOrd.kle_of_klt (h3 k (Nat.le_refl _) (Nat.lt_sub_iff_add_lt'.mpr q') x e)⟩
   ·cases Nat.eq_zero_of_not_pos z
    exact key2 _ _ ⟨m,fun x e=>KeyOrd.kle_of_klt (h3 0 (Nat.le_refl _) (Nat.sub_pos_of_lt (Nat.lt_of_succ_lt m.la)) x e)⟩
  ·rintro ⟨_,out,ia,ib,mg,ac,bc⟩ st2 ⟨k2,rfl,m⟩
   exact absurd (Nat.add_lt_add (Nat.lt_of_succ_lt m.la) m.lb) (Nat.not_lt.mpr (n2 m.t (Nat.le_max_right 0 _) (by simp +arith only)))
  rintro ⟨o,out,ia,ib,mg,ac,bc⟩ st3 (⟨k3,r,rfl,hr⟩ | ⟨k3,rfl,m⟩)
  ·exact wpS_pure (.fin k3 r rfl hr)
  ·exact wpS_bind (wpS_modify (wpS_pure ⟨⟨k3.kind,k3.arr,k3.pend,k3.failed⟩,rfl,m⟩))
 ·rintro ⟨_,out,ia,ib,mg⟩ st1 ⟨k1,rfl,m⟩
  exact absurd (Nat.add_lt_add (Nat.lt_of_succ_lt m.la) m.lb) (Nat.not_lt.mpr (n2 m.t (Nat.le_max_right 0 _) (by simp +arith only)))
 ·rintro ⟨_,out,ia,ib,mg⟩ st1 (⟨k1,r,rfl,hr⟩ | ⟨k1,rfl,m⟩)
  ·exact wpS_pure (h _ _ hr k1)
  ·exact m.elim
end
end Internal
end
section
namespace Internal
open PySem PyProof.Rows
open PyProof.Rows renaming wpS → wpM
section
variable {κ:KeyKind}{L:List Keyed}{a b out:Array Keyed}{i j k n:Nat}{x y:Keyed}
noncomputable abbrev MB (κ:KeyKind) (L:List Keyed) (a b out:Array Keyed) (i j:Nat):Prop:=MH κ L (a.toList.take i) (b.toList.take j) out.toList.reverse
theorem MB.sw (h:MB κ L a b out i j):MB κ L b a out j i:=MH.sw h
theorem ey {α:Type}{a:Array α}{i:Nat}{x:α}(e:a[i]?=some x):a.toList.take (i+1)=a.toList.take i++[x]:=by
 have e:a.toList[i]?=some x:=by rw [Array.getElem?_toList];exact e
 rw [List.take_add_one,e];rfl
theorem Ce {α:Type}(a:Array α){k n:Nat}(h:k≤n):a.toList.take n=a.toList.take k++(a.extract k n).toList:=by
 rw [Array.toList_extract,List.extract_eq_take_drop]
 obtain ⟨d,rfl⟩:=Nat.exists_eq_add_of_le h
 rw [Nat.add_sub_cancel_left,List.take_add]
theorem MB.push (h:MB κ L a b out (i+1) (j+1))(ea:a[i]?=some x)(eb:b[j]?=some y)(hle:κ.kle (kof κ y) (kof κ x)):MB κ L a b (out.push x) i (j+1):=by
 unfold MB at h ⊢
 rw [Array.toList_push,List.reverse_append]
 rw [ey eb,ey ea] at h
 rw [ey eb]
 exact MH.take (k:=[x]) h fun z hz=>by cases List.mem_singleton.mp hz;exact hle
theorem MB.bulk (h:MB κ L a b out n (j+1))(eb:b[j]?=some y)(hkn:k≤n)(hk:∀z,k≤z→z<n→∀x,a[z]?=some x→κ.kle (kof κ y) (kof κ x)):MB κ L a b (out++(a.extract k n).reverse) k (j+1):=by
 unfold MB at h ⊢
 rw [Array.toList_append,Array.toList_reverse,List.reverse_append,List.reverse_reverse]
 rw [ey eb,Ce a hkn] at h
 rw [ey eb]
 refine MH.take h fun x hx=>?_
 obtain ⟨z,hz,rfl⟩:=List.mem_iff_getElem.mp hx
 have hz:z<(a.extract k n).size:=hz
 rw [Array.size_extract] at hz
 refine hk (k+z) (Nat.le_add_right _ _) (by lia) _ ?_
 rw [Array.getElem_toList,Array.getElem_extract]
 exact Array.getElem?_eq_getElem _
theorem MB.done (h:MB κ L a b out i j)(hj:j=0∨i=0):Mgd κ L (a.extract 0 i++b.extract 0 j++out.reverse):=by
 unfold Mgd
 unfold MB at h
 rw [Array.toList_append,Array.toList_append,jN,jN,Array.toList_reverse]
 rcases hj with rfl | rfl
 ·rw [List.take_zero,List.append_nil];exact MH.fin h
 ·rw [List.take_zero,List.nil_append];exact MH.fin h.sw
theorem MB.first (h:MB κ L a b out i 1)(eb:b[0]?=some y)(hv:∀x∈a.toList,κ.kle (kof κ y) (kof κ x)):Mgd κ L (b.extract 0 1++a.extract 0 i++out.reverse):=by
 unfold Mgd
 unfold MB at h
 rw [Array.toList_append,Array.toList_append,jN,jN,Array.toList_reverse]
 rw [ey eb,List.take_zero,List.nil_append] at h
 rw [ey eb,List.take_zero,List.nil_append]
 exact MH.first h fun x hx=>hv x (List.mem_of_mem_take hx)
end
section
variable {prog:Program}{w:World}{A:Around}{E:Value→Shared→Prop}{s:Shared}{κ:KeyKind}
theorem vn {σ α:Type}{M:Model}{X:StateT σ Sem α}{F:Nat→Array Keyed→StateT σ Sem α}{H:Nat→Array Keyed→Prop}{Q:α→σ→Prop}{st:σ}(h1:∀o i,H o i→wpM M A E s (F o i) Q st)(h2:(∀o i,H o i→wpM M A E s (F o i) Q st)→wpM M A E s X Q st):wpM M A E s X Q st:=h2 h1
structure HB (κ:KeyKind)(a b:Array Keyed)(t:Nat)(ia ib:Nat)(out:Array Keyed):Prop where
 m:MB κ (a.toList++b.toList) a b out ia ib
 pa:0<ia
 pb:1<ib
 la:ia<a.size
 lb:ib≤b.size
 t:t+ia+ib≤a.size+b.size
section
variable {a b out:Array Keyed}{ia ib t:Nat}
theorem HB.ea (l:HB κ a b t (ia+1) ib out):a[ia]?=some (a[ia]'(Nat.lt_of_succ_lt l.la)):=Array.getElem?_eq_getElem _
theorem HB.eb (l:HB κ a b t ia (ib+1) out):b[ib]?=some (b[ib]'l.lb):=Array.getElem?_eq_getElem _
theorem HB.of {t':Nat}(l:HB κ a b t ia ib out)(h:t'≤t):HB κ a b t' ia ib out:=⟨l.m,l.pa,l.pb,l.la,l.lb,Nat.le_trans (Nat.add_le_add_right (Nat.add_le_add_right h _) _) l.t⟩
theorem HB.pos (l:HB κ a b t ia ib out):∃i j,ia=i+1∧ib=j+1:=⟨ia-1,ib-1,(Nat.sub_add_cancel l.pa).symm,(Nat.sub_add_cancel (Nat.le_of_lt l.pb)).symm⟩
theorem HB.over (l:HB κ a b t ia ib out)(h:a.size+b.size≤t):False:=absurd l.pa (Nat.not_lt.mpr (n2 l.t h (by simp +arith only)))
end
theorem cz {i n:Nat}(h:n≤i)(q:(i==n)=false):n<i:=Nat.lt_of_le_of_ne h (Ne.symm (ne_of_beq_false q))
theorem EI (hO:κ.OneLt){a b:Array Keyed}{st:SortSt}{Q:Array Keyed→SortSt→Prop}(hk:kindOf st=oneType')(ka:∀x∈a.toList,aU κ x)(kb:∀x∈b.toList,aU κ x)(sa:Srt κ a.toList)(sb:Srt κ b.toList)
  {x0 y0 yl:Keyed}(ea:a[a.size-1]?=some x0) (eb:b[b.size-1]?=some y0) (h0:κ.kle (kof κ y0) (kof κ x0)) (el:b[0]?=some yl) (hl:∀x∈a.toList,κ.kle (kof κ yl) (kof κ x))
  (h:∀m st',Mgd κ (a.toList++b.toList) m→KpM st st'→Q m st'):wpM (model prog w) A E s (mhi a b) Q st:=by
 have za:a.size-1+1=a.size:=Nat.sub_add_cancel (Nat.lt_of_le_of_lt (Nat.zero_le _) (Array.getElem?_eq_some_iff.mp ea).1)
 have zb:b.size-1+1=b.size:=Nat.sub_add_cancel (Nat.lt_of_le_of_lt (Nat.zero_le _) (Array.getElem?_eq_some_iff.mp eb).1)
 have m00:MB κ (a.toList++b.toList) a b #[] (a.size-1+1) (b.size-1+1):=by
  unfold MB
  rw [List.take_of_length_le (by rw [Array.length_toList,za];exact Nat.le_refl _),List.take_of_length_le (by rw [Array.length_toList,zb];exact Nat.le_refl _)]
  exact ⟨by rw [List.reverse_nil,List.append_nil],by rw [List.reverse_nil,List.append_nil];exact sa,by rw [List.reverse_nil,List.append_nil];exact sb⟩
 have m0:MB κ (a.toList++b.toList) a b #[x0] (a.size-1) b.size:=by
  have:=m00.push ea eb h0
  rwa [zb] at this
 have firstB:∀{out i j},MB κ (a.toList++b.toList) a b out i j→(j==1)=true→Mgd κ (a.toList++b.toList) (b.extract 0 j++a.extract 0 i++out.reverse):=fun {out i j} m e=>by
  cases eq_of_beq e;exact m.first el hl
 have doneA:∀{out i j},MB κ (a.toList++b.toList) a b out i j→(i==0)=true→Mgd κ (a.toList++b.toList) (a.extract 0 i++b.extract 0 j++out.reverse):=fun m e=>m.done (.inr (eq_of_beq e))
 refine wpS_bind (wpS_lift (wpAny_rule ⟨rfl,?_⟩))
 refine wpS_bind (bw ea ?_)
 refine aY (fun q=>wpS_pure (h _ _ (doneA m0 q) ⟨rfl,rfl,rfl,rfl⟩)) fun q1=>?_
 refine aY (fun q=>wpS_pure (h _ _ (firstB m0 q) ⟨rfl,rfl,rfl,rfl⟩)) fun q2=>?_
 have q1:=cz (Nat.zero_le _) q1
 have q2:=cz (zb▸Nat.succ_le_succ (Nat.zero_le _)) q2
 refine wpS_bind (wpS_get ?_)
 refine wpS_bind (wpS_mono (wpS_forRange (I:=fun x c st'=>LpI (HB κ a b (x+1) c.2.1 c.2.2.1 c.2.2.2.1) st c.1 st')
  (Q:=fun c st'=>LO κ a b False st c.1 st') ?_ ?_ (by exact ⟨⟨rfl,rfl,rfl,rfl⟩,rfl,m0,q1,q2,Nat.lt_of_succ_le (Nat.le_of_eq za),Nat.le_refl _,n1 (Nat.le_of_eq za) (by simp +arith only)⟩)) ?_)
 ·rintro x ⟨_,ia,ib,out,mg⟩ st1 _ hx ⟨k1,rfl,m1⟩
  refine wpS_bind (wpS_mono (wpS_forRange (I:=fun x' c st2=>LpI (HB κ a b (x+x'+1) c.2.1 c.2.2.1 c.2.2.2.1) st c.1 st2)
   (Q:=fun c st2=>LO κ a b (HB κ a b (x+2) c.2.1 c.2.2.1 c.2.2.2.1) st c.1 st2) ?_ ?_ ⟨k1,rfl,m1⟩) ?_)
  ·rintro x' ⟨_,ia,ib,out,ac,bc⟩ st2 _ hx' ⟨k2,rfl,m⟩
   have m:HB κ a b (x+x'+1) ia ib out:=m
   obtain ⟨ia,ib,rfl,rfl⟩:=m.pos
   refine AC hO (k2.kind.trans hk) m.eb m.ea (kb _ (Array.getElem_mem_toList _)) (ka _ (Array.getElem_mem_toList _)) ?_
   refine aY (fun q=>?_) fun q=>?_
   ·have m':=MB.push m.m m.ea m.eb (KeyOrd.kle_of_klt q)
    refine wpS_bind (bw m.ea ?_)
    refine aY (fun q=>wpS_pure (.fin k2 _ rfl (doneA m' q))) fun q=>?_
    have l':HB κ a b (x+x'+1+1) ia (ib+1) _:=⟨m',cz (Nat.zero_le _) q,m.pb,Nat.lt_of_succ_lt m.la,m.lb,n1 m.t (by simp +arith only)⟩
    exact bx (fun _=>wpS_pure (.go k2 rfl (l'.of (by simp +arith only)))) fun _=>wpS_pure ⟨k2,rfl,l'⟩
   ·have m':=(MB.push m.m.sw m.eb m.ea q).sw
    refine wpS_bind (bw m.eb ?_)
    refine aY (fun q=>wpS_pure (.fin k2 _ rfl (firstB m' q))) fun q=>?_
    have l':HB κ a b (x+x'+1+1) (ia+1) ib _:=⟨m',m.pa,cz (Nat.le_of_lt_succ m.pb) q,m.la,Nat.le_of_lt m.lb,n1 m.t (by simp +arith only)⟩
    exact bx (fun _=>wpS_pure (.go k2 rfl (l'.of (by simp +arith only)))) fun _=>wpS_pure ⟨k2,rfl,l'⟩
  ·rintro ⟨_,ia,ib,out,ac,bc⟩ st2 ⟨k2,rfl,m⟩
   exact (m.over (n1 (Nat.le_max_right 0 _) (by simp +arith only))).elim
  rintro ⟨o,ia,ib,out,ac,bc⟩ st2 (⟨k2,r,rfl,hr⟩ | ⟨k2,rfl,m⟩)
  ·exact wpS_pure (.fin k2 r rfl hr)
  refine wpS_bind (wpS_lift (wpAny_rule ⟨rfl,?_⟩))
  refine wpS_bind (wpS_mono (wpS_forRange (I:=fun x' c st2=>LpI (HB κ a b (x+x'+2) c.2.1 c.2.2.1 c.2.2.2.1) st c.1 st2)
   (Q:=fun c st2=>LO κ a b (HB κ a b (x+2) c.2.1 c.2.2.1 c.2.2.2.1) st c.1 st2) ?_ ?_ ⟨k2,rfl,m⟩) ?_)
  ·rintro x' ⟨_,ia,ib,out,mg,ac,bc⟩ st2 _ hx' ⟨k2,rfl,m⟩
   extract_lets -underBinder -merge +onlyGivenNames _ o _ i _ j _ g _ ac' bc' jp
   have m:HB κ a b (x+x'+2) ia ib out:=m
   obtain ⟨ia,ib,rfl,rfl⟩:=m.pos
   refine EG (F:=jp ()) fun g'=>wpS_bind (wpS_modify (wpS_bind (bw m.eb (wpS_bind (qf hO (k2.kind.trans hk) (kb _ (Array.getElem_mem_toList _)) ka (sa.from 0 _) (Nat.le_trans (Nat.le_of_eq (Nat.zero_add _)) (Nat.le_of_lt m.la)) (Nat.lt_succ_self ia) fun k h1 h2 h3=>?_)))))
   have k3:KpM st (SortSt.mk' (kindOf st2) (arrOf st2) (pendingOf st2) g' (failedOf st2)):=⟨k2.kind,k2.arr,k2.pend,k2.failed⟩
   dsimp -zeta only
   extract_lets -underBinder -merge +onlyGivenNames kk ac2 jp2
   have low:∀n,0<n→n≤k→∀x,a[n-1]?=some x→κ.kle (kof κ x) (kof κ (b[ib]'m.lb)):=fun n n0 hn x e=>h2 (n-1) (Nat.lt_of_lt_of_le (Nat.sub_lt n0 Nat.one_pos) hn) x (by rw [Nat.zero_add];exact e)
   refine vn (F:=jp2 ()) (H:=fun n' out'=>HB κ a b (x+x'+2) n' (ib+1) out'∧∀x,a[n'-1]?=some x→κ.kle (kof κ x) (kof κ (b[ib]'m.lb))) ?_ fun key2=>?_
   ·rintro n' out' ⟨n,d3⟩
    obtain ⟨p,_,rfl,_⟩:=n.pos
    have m':=(MB.push n.m.sw n.eb n.ea (d3 _ n.ea)).sw
    refine wpS_bind (bw n.eb ?_)
    refine aY (fun q=>wpS_pure (.fin k3 _ rfl (firstB m' q))) fun q=>?_
    have q:=cz (Nat.le_of_lt_succ n.pb) q
    refine wpS_bind (bw n.ea (wpS_bind (qg hO (k2.kind.trans hk) (ka _ (Array.getElem_mem_toList _)) kb (sb.from 0 _) (Nat.le_trans (Nat.le_of_eq (Nat.zero_add _)) (Nat.le_of_lt n.lb)) (Nat.sub_lt (Nat.lt_of_succ_lt q) Nat.one_pos) fun k' h1' h2' h3'=>?_)))
    dsimp -zeta only
    extract_lets -underBinder -merge +onlyGivenNames kk2 bc2 jp3
    have low':∀c,0<c→c≤k'→∀y,b[c-1]?=some y→κ.kle (kof κ y) (kof κ (a[p]'(Nat.lt_of_succ_lt n.la))):=fun c n0 hn y e=>KeyOrd.kle_of_klt (h2' (c-1) (Nat.lt_of_lt_of_le (Nat.sub_lt n0 Nat.one_pos) hn) y (by rw [Nat.zero_add];exact e))
    refine vn (F:=jp3 ()) (H:=fun n' out'=>HB κ a b (x+x'+2) (p+1) n' out'∧∀y,b[n'-1]?=some y→κ.kle (kof κ y) (kof κ (a[p]'(Nat.lt_of_succ_lt n.la)))) ?_ fun key3=>?_
    ·rintro n' out' ⟨n,f3⟩
     obtain ⟨_,t,_,rfl⟩:=n.pos
     refine wpS_bind (bw n.ea ?_)
     have m':=MB.push n.m n.ea n.eb (f3 _ n.eb)
     refine aY (fun q=>wpS_pure (.fin k3 _ rfl (doneA m' q))) fun q=>?_
     have l':HB κ a b (x+(x'+1)+2) p (t+1) _:=⟨m',cz (Nat.zero_le _) q,n.pb,Nat.lt_of_succ_lt n.la,n.lb,n1 n.t (by simp +arith only)⟩
     exact aY (fun _=>wpS_pure (.go k3 rfl (l'.of (by simp +arith only)))) fun _=>wpS_pure ⟨k3,rfl,l'⟩
    have h1':k'≤ib:=h1'
    have tt:∀{y},y≤ib→x+x'+2+(p+1)+y≤a.size+b.size:=fun h=>n2 h n.t (by simp +arith only)
    refine bx (fun z=>?_) fun z=>?_
    ·have m'':=(MB.bulk m'.sw n.ea h1' fun z hz hzn x e=>h3' z hz hzn x (by rw [Nat.zero_add];exact e)).sw
     refine aY (fun q=>wpS_pure (.fin k3 _ rfl (firstB m'' q))) fun q3=>?_
     refine aY (fun q=>wpS_pure (.fin k3 _ rfl (m''.done (.inl (eq_of_beq q))))) fun q4=>?_
     have q4:=cz (Nat.zero_le _) q4
     exact key3 k' _ ⟨⟨m'',n.pa,cz q4 q3,n.la,Nat.le_trans h1' (Nat.le_of_lt n.lb),tt h1'⟩,low' k' q4 (Nat.le_refl _)⟩
    ·cases Nat.le_antisymm h1' (Nat.le_of_sub_eq_zero (Nat.eq_zero_of_not_pos z))
     exact key3 ib _ ⟨⟨m',n.pa,q,n.la,Nat.le_of_lt n.lb,tt h1'⟩,low' ib (Nat.lt_of_succ_lt q) (Nat.le_refl _)⟩
   have h1:k≤ia+1:=h1
   refine bx (fun z=>?_) fun z=>?_
   ·have m'':=MB.bulk m.m m.eb h1 fun z hz hzn x e=>KeyOrd.kle_of_klt (h3 z hz hzn x (by rw [Nat.zero_add];exact e))
    refine aY (fun q=>wpS_pure (.fin k3 _ rfl (doneA m'' q))) fun q=>?_
    have q:=cz (Nat.zero_le _) q
    exact key2 k _ ⟨⟨m'',q,m.pb,Nat.lt_of_le_of_lt h1 m.la,m.lb,n2 h1 m.t (by simp +arith only)⟩,low k q (Nat.le_refl _)⟩
   ·cases Nat.le_antisymm h1 (Nat.le_of_sub_eq_zero (Nat.eq_zero_of_not_pos z))
    exact key2 (ia+1) _ ⟨m,low (ia+1) (Nat.succ_pos _) (Nat.le_refl _)⟩
  ·rintro ⟨_,ia,ib,out,mg,ac,bc⟩ st2 ⟨k2,rfl,m⟩
   exact (m.over (n1 (Nat.le_max_right 0 _) (by simp +arith only))).elim
  rintro ⟨o,ia,ib,out,mg,ac,bc⟩ st3 (⟨k3,r,rfl,hr⟩ | ⟨k3,rfl,m⟩)
  ·exact wpS_pure (.fin k3 r rfl hr)
  ·exact wpS_bind (wpS_modify (wpS_pure ⟨⟨k3.kind,k3.arr,k3.pend,k3.failed⟩,rfl,m⟩))
 ·rintro ⟨_,ia,ib,out,mg⟩ st1 ⟨k1,rfl,m⟩
  exact (m.over (n1 (Nat.le_max_right 0 _) (by simp +arith only))).elim
 ·rintro ⟨_,ia,ib,out,mg⟩ st1 (⟨k1,r,rfl,hr⟩ | ⟨k1,rfl,m⟩)
  ·exact wpS_pure (h _ _ hr k1)
  ·exact m.elim
end
end Internal
end
section
namespace Internal
open PySem PyProof.Rows
open PyProof.Rows renaming wpS → wpM
section
variable {α:Type}{a:Array α}{P X R:List α}
theorem du (e:a.toList=P++(X++R)){i:Nat}(hi:i<X.length):a[P.length+i]?=X[i]?:=by
 rw [←Array.getElem?_toList,e,List.getElem?_append_right (Nat.le_add_right _ _),Nat.add_sub_cancel_left,List.getElem?_append_left hi]
theorem re (e:a.toList=P++(X++R)):(a.extract P.length (P.length+X.length)).toList=X:=by
 rw [q9,e,List.drop_left,List.take_left]
theorem oH (e:a.toList=P++(X++R)):P.length+X.length≤a.size:=by
 rw [←Array.length_toList,e,List.length_append,List.length_append,←Nat.add_assoc];exact Nat.le_add_right _ _
theorem wb {m:List α}{s:Nat}:∀{a:Array α}{P X:List α}{c:Nat},a.toList=P++(X++R)→P.length=s+c→X.length=m.length→((m.zipIdx c).foldl (fun a x=>a.setIfInBounds (s+x.2) x.1) a).toList=P++(m++R):=by
 induction m with
 | nil=>intro a P X c e hP hX;rw [List.length_eq_zero_iff.mp hX] at e;exact e
 | cons z m ih=>
  intro a P X c e hP hX
  obtain ⟨x,X,rfl⟩:=List.exists_cons_of_length_eq_add_one hX
  have:=ih (a:=a.setIfInBounds (s+c) z) (P:=P++[z]) (X:=X) (c:=c+1) (by rw [Array.toList_setIfInBounds,e,←hP,List.set_append_right _ _ (Nat.le_refl _),Nat.sub_self,List.append_assoc];rfl) (by rw [List.length_append,hP];rfl) (Nat.succ.inj hX)
  rw [List.append_assoc] at this
  exact this
end
section
variable {prog:Program}{w:World}{A:Around}{E:Value→Shared→Prop}{s:Shared}{κ:KeyKind}
theorem Cf {σ:Type}{M:Model}{Q:Unit→σ→Prop}{st st':σ}(h:Q () st'):wpM M A E s (set st':StateT σ Sem Unit) Q st:=wpAny_pure ⟨rfl,h⟩
theorem ky.seg {a:Array Keyed}{P X R:List Keyed}(e:a.toList=P++(X++R))(h:Srt κ X):ky κ a P.length X.length:=fun i j x y hij hj e1 e2=>by
 rw [du e (Nat.lt_of_le_of_lt hij hj)] at e1
 rw [du e hj] at e2
 rcases Nat.eq_or_lt_of_le hij with rfl | hij
 ·cases e1.symm.trans e2;exact KeyOrd.kle_refl _
 ·obtain ⟨h1,rfl⟩:=List.getElem?_eq_some_iff.mp e1
  obtain ⟨h2,rfl⟩:=List.getElem?_eq_some_iff.mp e2
  exact List.pairwise_iff_getElem.mp h i j h1 h2 hij
theorem EJ {σ α β:Type}{M:Model}{c:Prop} [Decidable c] {X Y:StateT σ Sem α}{F:α→StateT σ Sem β}{Q:β→σ→Prop}{st:σ}(h:wpM M A E s X (fun a st=>wpM M A E s (F a) Q st) st∧wpM M A E s Y (fun a st=>wpM M A E s (F a) Q st) st):wpM M A E s (if c then X >>= F else Y >>= F) Q st:=bx (fun _=>wpS_bind h.1) fun _=>wpS_bind h.2
theorem qh {X1 X2 Y1 Y2 m:List Keyed}(sX:Srt κ (X1++X2))(sY:Srt κ (Y1++Y2))(c1:∀x∈X1,∀y∈Y1++Y2,κ.kle (kof κ x) (kof κ y))(c2:∀x∈X2,∀y∈Y2,κ.kle (kof κ x) (kof κ y))(hp:m.Perm (X2++Y1))(sm:Srt κ m) :
  (X1++(m++Y2)).Perm (X1++X2++(Y1++Y2))∧Srt κ (X1++(m++Y2)):=by
 obtain ⟨s1,s2,s3⟩:=List.pairwise_append.mp sX
 obtain ⟨t1,t2,t3⟩:=List.pairwise_append.mp sY
 refine ⟨?_,List.pairwise_append.mpr ⟨s1,List.pairwise_append.mpr ⟨sm,t2,fun z hz y hy=>?_⟩,fun x hx z hz=>?_⟩⟩
 ·rw [List.append_assoc]
  refine List.Perm.append_left X1 ?_
  rw [←List.append_assoc X2]
  exact hp.append_right Y2
 ·rcases List.mem_append.mp (hp.mem_iff.mp hz) with h | h
  ·exact c2 z h y hy
  ·exact t3 z h y hy
 ·rcases List.mem_append.mp hz with hz | hz
  ·rcases List.mem_append.mp (hp.mem_iff.mp hz) with h | h
   ·exact s3 x hx z h
   ·exact c1 x hx z (List.mem_append_left _ h)
  ·exact c1 x hx z (List.mem_append_right _ hz)
theorem Gg (hO:κ.OneLt){a b:Array Keyed}{st:SortSt}{Q:Array Keyed→SortSt→Prop}{X Y:List Keyed}{xl y0:Keyed}(hk:kindOf st=oneType')(ka:∀x∈a.toList,aU κ x)(kb:∀x∈b.toList,aU κ x)(sa:Srt κ a.toList)(sb:Srt κ b.toList)
  (ea:a.toList=X++[xl]) (eb:b.toList=y0::Y) (ha:∀x∈a.toList,κ.kle (kof κ y0) (kof κ x)) (hb:∀y∈b.toList,κ.kle (kof κ y) (kof κ xl)) (h:∀m st',Mgd κ (a.toList++b.toList) m→KpM st st'→Q m st') :
  wpM (model prog w) A E s (mlo a b) Q st∧wpM (model prog w) A E s (mhi a b) Q st:=by
 have za:a.size=X.length+1:=by rw [←Array.length_toList,ea,List.length_append];rfl
 have zb:b.size=Y.length+1:=by rw [←Array.length_toList,eb];rfl
 have el:a[a.size-1]?=some xl:=by
  rw [←Array.getElem?_toList,za,ea,Nat.add_sub_cancel,List.getElem?_append_right (Nat.le_refl _),Nat.sub_self];rfl
 have e0:b[0]?=some y0:=by rw [←Array.getElem?_toList,eb];rfl
 have e1:a[0]?=some a[0]:=Array.getElem?_eq_getElem (by rw [za];exact Nat.succ_pos _)
 have e2:b[b.size-1]?=some b[b.size-1]:=Array.getElem?_eq_getElem (by rw [zb];exact Nat.lt_succ_self _)
 exact ⟨EH hO hk ka kb sa sb e1 e0 (ha _ (Array.getElem_mem_toList _)) el hb h,EI hO hk ka kb sa sb el e2 (hb _ (Array.getElem_mem_toList _)) e0 ha h⟩
theorem Gh (hO:κ.OneLt){i pw q:Nat}{st:SortSt}{P X Y R:List Keyed}{Q:Bool→SortSt→Prop}(hk:kindOf st=oneType')(e:(arrOf st).toList=P++(X++(Y++R)))(p1:(pendingOf st)[i]?=some (P.length,X.length,pw))(p2:(pendingOf st)[i+1]?=some (P.length+X.length,Y.length,q))
  (ks:∀x∈(arrOf st).toList,aU κ x) (nX:0<X.length) (nY:0<Y.length) (sX:Srt κ X) (sY:Srt κ Y) (hf:failedOf st=none)
  (h:∀C st',C.Perm (X++Y)→Srt κ C→(arrOf st').toList=P++(C++R)→pendingOf st'=((pendingOf st).setIfInBounds i (P.length,X.length+Y.length,pw)).eraseIdxIfInBounds (i+1)→kindOf st'=kindOf st→failedOf st'=none→Q true st'):wpM (model prog w) A E s (mergeAt' i) Q st:=by
 refine wpS_bind (wpS_get ?_)
 dsimp only
 rw [p1,p2]
 refine wpS_bind (Cf ?_)
 obtain ⟨y0,Y',rfl⟩:=List.exists_cons_of_length_pos nY
 have eY:(arrOf st).toList=(P++X)++((y0::Y')++R):=e.trans (List.append_assoc _ _ _).symm
 have lX:(P++X).length=P.length+X.length:=List.length_append
 have k0:aU κ y0:=ks _ (by rw [eY];exact List.mem_append_right _ (.head _))
 have gY:=du eY nY
 rw [lX] at gY
 refine wpS_bind (bw gY (wpS_bind (qf hO hk k0 ks (.seg e sX) (oH e) nX fun k h1 h2 h3=>?_)))
 obtain ⟨X1,X2,rfl,rfl⟩:∃X1 X2,X=X1++X2∧X1.length=k:=⟨X.take k,X.drop k,(List.take_append_drop _ _).symm,List.length_take_of_le h1⟩
 have y0Y:∀y∈y0::Y',κ.kle (kof κ y0) (kof κ y):=fun y hy=>by
  rcases List.mem_cons.mp hy with rfl | hy
  ·exact KeyOrd.kle_refl _
  ·exact (List.pairwise_cons.mp sY).1 y hy
 have c1:∀x∈X1,∀y∈y0::Y',κ.kle (kof κ x) (kof κ y):=fun x hx y hy=>by
  obtain ⟨i,hi,rfl⟩:=List.mem_iff_getElem.mp hx
  refine KeyOrd.kle_trans (h2 i hi _ ?_) (y0Y y hy)
  rw [du e (Nat.lt_of_lt_of_le hi h1),List.getElem?_append_left hi]
  exact List.getElem?_eq_getElem hi
 have a2:∀x∈X2,κ.kle (kof κ y0) (kof κ x):=fun x hx=>by
  obtain ⟨i,hi,rfl⟩:=List.mem_iff_getElem.mp hx
  have lt:X1.length+i<(X1++X2).length:=by rw [List.length_append];exact Nat.add_lt_add_left hi _
  refine KeyOrd.kle_of_klt (h3 (X1.length+i) (Nat.le_add_right _ _) lt _ ?_)
  rw [du e lt,List.getElem?_append_right (Nat.le_add_right _ _),Nat.add_sub_cancel_left]
  exact List.getElem?_eq_getElem hi
 have lX2:(X1++X2).length-X1.length=X2.length:=by rw [List.length_append,Nat.add_sub_cancel_left]
 dsimp only
 rw [lX2]
 refine aY (fun q=>?_) fun q=>?_
 ·obtain rfl:=List.length_eq_zero_iff.mp (eq_of_beq q)
  obtain ⟨m1,m2⟩:=qh (Y1:=y0::Y') (Y2:=[]) (m:=y0::Y') sX (by rw [List.append_nil];exact sY) (by rw [List.append_nil];exact c1) (fun _ h=>absurd h List.not_mem_nil) .rfl sY
  rw [List.append_nil,List.append_nil] at m1
  rw [List.append_nil] at m2
  refine wpS_pure (h _ _ (by rw [List.append_nil]) m2 ?_ rfl rfl hf)
  rw [List.append_nil] at e
  refine e.trans ?_
  rw [List.append_assoc]
 obtain ⟨X3,xl,rfl⟩:∃X3 xl,X2=X3++[xl]:=by
  rcases List.eq_nil_or_concat X2 with rfl | ⟨X3,xl,rfl⟩
  ·cases q
  ·exact ⟨X3,xl,by rw [List.concat_eq_append]⟩
 have el:(arrOf st)[P.length+X1.length+(X3++[xl]).length-1]?=some xl:=by
  have e':(arrOf st).toList=(P++X1++X3)++([xl]++((y0::Y')++R)):=by rw [e,List.append_assoc P,List.append_assoc P,List.append_assoc X1,List.append_assoc X1,List.append_assoc X3]
  have:=du e' (i:=0) Nat.one_pos
  rw [show P.length+X1.length+(X3++[xl]).length-1=(P++X1++X3).length+0 by rw [List.length_append,List.length_append,List.length_append,List.length_singleton];exact rfl,this]
  rfl
 have kl:aU κ xl:=ks _ (by rw [e];exact List.mem_append_right _ (List.mem_append_left _ (List.mem_append_right _ (List.mem_append_right _ (.head _)))))
 have gS:ky κ (arrOf st) (P.length+(X1++(X3++[xl])).length) (y0::Y').length:=lX▸ky.seg eY sY
 refine wpS_bind (bw el (wpS_bind (qg hO hk kl ks gS (lX▸oH eY) (by lia) fun k h1' h2' h3'=>?_)))
 dsimp only
 have xX:∀x∈X1++(X3++[xl]),κ.kle (kof κ x) (kof κ xl):=fun x hx=>by
  rw [←List.append_assoc] at hx sX
  rcases List.mem_append.mp hx with hx | hx
  ·exact (List.pairwise_append.mp sX).2.2 x hx xl (.head _)
  ·cases List.mem_singleton.mp hx;exact KeyOrd.kle_refl _
 refine aY (fun q=>?_) fun q=>?_
 ·cases eq_of_beq q
  obtain ⟨m1,m2⟩:=qh (Y1:=[]) (Y2:=y0::Y') (m:=X3++[xl]) sX sY c1 (fun x hx y hy=>by
   obtain ⟨i,hi,rfl⟩:=List.mem_iff_getElem.mp hy
   refine KeyOrd.kle_trans (xX x (List.mem_append_right _ hx)) (h3' i (Nat.zero_le _) hi _ ?_)
   rw [←lX,du eY hi]
   exact List.getElem?_eq_getElem hi) (by rw [List.append_nil]) (List.pairwise_append.mp sX).2.1
  refine wpS_pure (h _ _ m1 m2 ?_ rfl rfl hf)
  refine e.trans ?_
  simp only [List.append_assoc]
 obtain ⟨k,rfl⟩:∃j,k=j+1:=⟨k-1,by have:¬ k=0:=ne_of_beq_false q;lia⟩
 obtain ⟨Y1,Y2,rfl,rfl⟩:∃Y1 Y2,Y'=Y1++Y2∧Y1.length=k:=⟨Y'.take k,Y'.drop k,(List.take_append_drop _ _).symm,List.length_take_of_le (Nat.le_of_succ_le_succ h1')⟩
 have e4:(arrOf st).toList=(P++X1)++((X3++[xl])++((y0::(Y1++Y2))++R)):=by rw [e,List.append_assoc P,List.append_assoc X1]
 have e5:(arrOf st).toList=(P++(X1++(X3++[xl])))++((y0::Y1)++(Y2++R)):=by rw [eY];congr 1;exact congrArg (y0::·) (List.append_assoc _ _ _)
 have ea:=re e4
 have eb:=re e5
 rw [show (P++X1).length=P.length+X1.length from List.length_append,show P.length+X1.length+(X3++[xl]).length=P.length+(X1++(X3++[xl])).length by rw [List.length_append (as:=X1),Nat.add_assoc]] at ea
 rw [lX,List.length_cons] at eb
 have sY1:Srt κ ((y0::Y1)++Y2):=sY
 have yl:∀y∈y0::Y1,κ.kle (kof κ y) (kof κ xl):=fun y hy=>by
  obtain ⟨i,hi,rfl⟩:=List.mem_iff_getElem.mp hy
  refine KeyOrd.kle_of_klt (h2' i hi _ ?_)
  rw [←lX,du e5 hi]
  exact List.getElem?_eq_getElem hi
 have c2:∀x∈X3++[xl],∀y∈Y2,κ.kle (kof κ x) (kof κ y):=fun x hx y hy=>by
  obtain ⟨i,hi,rfl⟩:=List.mem_iff_getElem.mp hy
  have lt:Y1.length+1+i<(y0::(Y1++Y2)).length:=by rw [List.length_cons,List.length_append];exact n1 hi (by simp +arith only)
  refine KeyOrd.kle_trans (xX x (List.mem_append_right _ hx)) (h3' (Y1.length+1+i) (Nat.le_add_right _ _) lt _ ?_)
  rw [←lX,du eY lt,Nat.add_right_comm,List.getElem?_cons_succ,List.getElem?_append_right (Nat.le_add_right _ _),Nat.add_sub_cancel_left]
  exact List.getElem?_eq_getElem hi
 refine EJ (Gg hO hk ?_ ?_ ?_ ?_ ea eb ?_ ?_ fun m st' hM hK=>?_)
 ·rw [ea];exact fun x hx=>ks x (by rw [e4];exact List.mem_append_right _ (List.mem_append_left _ hx))
 ·rw [eb];exact fun x hx=>ks x (by rw [e5];exact List.mem_append_right _ (List.mem_append_left _ hx))
 ·rw [ea];exact (List.pairwise_append.mp sX).2.1
 ·rw [eb];exact (List.pairwise_append.mp sY1).1
 ·rw [ea];exact a2
 ·rw [eb];exact yl
 rw [ea,eb] at hM
 obtain ⟨m1,m2⟩:=qh sX sY1 c1 c2 hM.1 hM.2
 have ff:failedOf st'=none:=hK.failed.trans hf
 refine wpS_bind (wpS_modify (wpS_bind (wpS_get (wpS_pure ?_))))
 have:=h _ (setArr st' (List.foldl (fun (a:Array Keyed) (x:Keyed × Nat)=>a.setIfInBounds (P.length+X1.length+x.2) x.1) (arrOf st') m.toList.zipIdx)) m1 m2 ?_ hK.pend hK.kind ff
 ·rw [←show (failedOf st').isNone=true by rw [ff];rfl] at this
  exact this
 show (List.foldl (fun (a:Array Keyed) (x:Keyed × Nat)=>a.setIfInBounds (P.length+X1.length+x.2) x.1) (arrOf st') m.toList.zipIdx).toList=_
 rw [hK.arr]
 refine (wb (s:=P.length+X1.length) (P:=P++X1) (X:=(X3++[xl])++(y0::Y1)) (R:=Y2++R) (c:=0) ?_ List.length_append hM.1.length_eq.symm).trans ?_
 rotate_left
 ·simp only [List.append_assoc]
 ·refine e4.trans ?_
  simp only [List.append_assoc,List.cons_append]
end
end Internal
end
section
namespace Internal
open PySem PyProof.Rows
open PyProof.Rows renaming wpS → wpM
section
variable {prog:Program}{w:World}{A:Around}{E:Value→Shared→Prop}{s:Shared}{κ:KeyKind}
noncomputable def Up (κ:KeyKind)(a:Array Keyed)(lo n:Nat):Prop:=∀i j,i≤j→j<n→κ.kle (KK κ a (lo+i)) (KK κ a (lo+j))
structure SI (lo:Nat)(st st':SortSt):Prop where
 kind:kindOf st'=kindOf st
 pend:pendingOf st'=pendingOf st
 failed:failedOf st'=failedOf st
 perm:(arrOf st').Perm (arrOf st)
 low:∀p,p<lo→(arrOf st')[p]?=(arrOf st)[p]?
theorem SI.self {lo:Nat}{st:SortSt}:SI lo st st:=⟨rfl,rfl,rfl,.refl _,fun _ _=>rfl⟩
theorem SI.size {lo:Nat}{st st':SortSt}(h:SI lo st st'):(arrOf st').size=(arrOf st).size:=h.perm.size_eq
theorem SI.keys {lo:Nat}{st st':SortSt}(h:SI lo st st')(ks:∀x∈(arrOf st).toList,aU κ x):∀x∈(arrOf st').toList,aU κ x:=fun x hx=>ks x ((Array.perm_iff_toList_perm.mp h.perm).mem_iff.mp hx)
theorem iU (hO:κ.OneLt){st:SortSt}{i j:Nat}{Q:Option Bool→SortSt→Prop}(hk:kindOf st=oneType')(ks:∀x∈(arrOf st).toList,aU κ x)(hi:i<(arrOf st).size)(hj:j<(arrOf st).size)
  (h:Q (some (κ.blt (KK κ (arrOf st) i) (KK κ (arrOf st) j))) st):wpM (model prog w) A E s (ltAt' i j) Q st:=by
 have e1:(arrOf st)[i]?=some (arrOf st)[i]:=Array.getElem?_eq_getElem hi
 have e2:(arrOf st)[j]?=some (arrOf st)[j]:=Array.getElem?_eq_getElem hj
 unfold KK at h
 rw [e1,e2] at h
 exact wpS_bind (wpS_get (wpS_bind (bw e1 (wpS_bind (bw e2 (yG hO hk (ks _ (Array.getElem_mem_toList _)) (ks _ (Array.getElem_mem_toList _)) h))))))
theorem Cg {a:Array Keyed}{lo:Nat}:Up κ a lo 1:=fun i j hij hj=>by
 cases Nat.lt_one_iff.mp hj
 cases Nat.le_zero.mp hij
 exact KeyOrd.kle_refl _
theorem EK {f:Nat→Option (Option Nat) × Nat→StateT SortSt Sem (ForInStep (Option (Option Nat) × Nat))}{lo a nrem:Nat}{st:SortSt}{Q:Option (Option Nat) × Nat→SortSt→Prop}
  (hf:∀x n (Q:ForInStep (Option (Option Nat) × Nat)→SortSt→Prop),1≤n→n<nrem→(κ.klt (KK κ (arrOf st) (lo+n)) (KK κ (arrOf st) (lo+n-1))→Q (.done (none,n)) st)→(κ.kle (KK κ (arrOf st) (lo+n-1)) (KK κ (arrOf st) (lo+n))→Q (.yield (none,n+1)) st)→wpM (model prog w) A E s (f x (none,n)) Q st)
  (ha:1≤a) (han:a≤nrem) (hs:Up κ (arrOf st) lo a) (h:∀n,a≤n→n≤nrem→Up κ (arrOf st) lo n→(n=nrem∨κ.klt (KK κ (arrOf st) (lo+n)) (KK κ (arrOf st) (lo+n-1)))→Q (none,n) st) :
  wpM (model prog w) A E s (forIn [a:nrem] (none,a) f) Q st:=by
 refine wpS_forRange (I:=fun x c st'=>st'=st∧c=(none,x)∧Up κ (arrOf st) lo x) ?_ ?_ ⟨rfl,rfl,hs⟩
 ·rintro x c st' hax hxn ⟨rfl,rfl,hs'⟩
  refine hf x x _ (Nat.le_trans ha hax) hxn (fun q=>h x hax (Nat.le_of_lt hxn) hs' (.inr q)) fun q=>⟨rfl,rfl,fun i j hij hj=>?_⟩
  rcases Nat.lt_or_eq_of_le (Nat.le_of_lt_succ hj) with hj | rfl
  ·exact hs' i j hij hj
  ·rcases Nat.lt_or_eq_of_le hij with hij | rfl
   ·have h0:=Nat.lt_of_le_of_lt (Nat.zero_le _) hij
    have:=hs' i (j-1) (Nat.le_sub_one_of_lt hij) (Nat.sub_lt h0 Nat.one_pos)
    rw [←Nat.add_sub_assoc h0] at this
    exact KeyOrd.kle_trans this q
   ·exact KeyOrd.kle_refl _
 ·rintro c st' ⟨rfl,rfl,hs'⟩
  rw [Nat.max_eq_right han] at hs' ⊢
  exact h nrem han (Nat.le_refl _) hs' (.inl rfl)
theorem ix {lo n m N:Nat}(h:n<m)(hn:lo+m≤N):lo+n<N:=n2 h hn (by simp +arith only)
theorem ix1 {lo n m N:Nat}(h:n<m)(hn:lo+m≤N):lo+n-1<N:=Nat.lt_of_le_of_lt (Nat.sub_le _ _) (ix h hn)
noncomputable def Dw (κ:KeyKind)(a:Array Keyed)(lo n:Nat):Prop:=∀i j,i<j→j<n→κ.klt (KK κ a (lo+j)) (KK κ a (lo+i))
theorem Dw.next {a:Array Keyed}{lo x:Nat}(h:Dw κ a lo x)(q:κ.klt (KK κ a (lo+x)) (KK κ a (lo+x-1))):Dw κ a lo (x+1):=fun i j hij hj=>by
 rcases Nat.lt_or_eq_of_le (Nat.le_of_lt_succ hj) with hj | rfl
 ·exact h i j hij hj
 ·have h0:=Nat.lt_of_le_of_lt (Nat.zero_le _) hij
  rw [Nat.add_sub_assoc h0] at q
  rcases Nat.lt_or_eq_of_le (Nat.le_sub_one_of_lt hij) with hi | rfl
  ·exact KeyOrd.klt_of_klt_of_kle q (KeyOrd.kle_of_klt (h i (j-1) hi (Nat.sub_lt h0 Nat.one_pos)))
  ·exact q
theorem mir {lo m i:Nat}(h:i<m):lo+(lo+m)-1-(lo+i)=lo+(m-1-i):=by lia
theorem Dw.turn {a:Array Keyed}{lo m:Nat}(h:Dw κ a lo m)(hz:lo+m≤a.size):Up κ (mirror a lo (lo+m) ((lo+m-lo) / 2)) lo m∧∀p,p<lo→(mirror a lo (lo+m) ((lo+m-lo) / 2))[p]?=a[p]?:=by
 refine ⟨fun i j hij hj=>?_,fun p hp=>by rw [getElem?_mirror_all hz,if_neg fun q=>Nat.lt_irrefl p (Nat.lt_of_lt_of_le hp q.1)]⟩
 have hi:=Nat.lt_of_le_of_lt hij hj
 rw [KK_mirror hz,KK_mirror hz,if_pos ⟨Nat.le_add_right _ _,Nat.add_lt_add_left hi _⟩,if_pos ⟨Nat.le_add_right _ _,Nat.add_lt_add_left hj _⟩,mir hi,mir hj]
 rcases Nat.lt_or_eq_of_le hij with hij | rfl
 ·exact KeyOrd.kle_of_klt (h _ _ (Nat.sub_lt_sub_left (Nat.lt_of_lt_of_le hij (Nat.le_sub_one_of_lt hj)) hij) (Nat.lt_of_le_of_lt (Nat.sub_le _ _) (Nat.sub_lt (Nat.lt_of_le_of_lt (Nat.zero_le _) hj) Nat.one_pos)))
 ·exact KeyOrd.kle_refl _
theorem EL (hO:κ.OneLt){st:SortSt}{lo nrem:Nat}{Q:Option Nat→SortSt→Prop}(hk:kindOf st=oneType')(ks:∀x∈(arrOf st).toList,aU κ x)(hd:∀i j,i<j→j<(arrOf st).size→KK κ (arrOf st) i≠KK κ (arrOf st) j)(hn:lo+nrem≤(arrOf st).size)(h1:1≤nrem)
  (h:∀m st',SI lo st st'→1≤m→m≤nrem→Up κ (arrOf st') lo m→Q (some m) st'):wpM (model prog w) A E s (countRun' lo nrem) Q st:=by
 refine wpS_bind (EK (κ:=κ) (lo:=lo) (fun x n Q g1 g2 g3 g4=>wpS_bind (iU hO hk ks (ix g2 hn) (ix1 g2 hn) (aY (fun q=>wpS_pure (g3 q)) fun q=>wpS_pure (g4 q)))) (Nat.le_refl 1) h1 Cg fun n g1 g2 g3 g4=>?_)
 refine aY (fun q=>wpS_pure (h n st .self g1 g2 g3)) fun q=>?_
 have q:=Nat.lt_of_le_of_ne g2 (ne_of_beq_false q)
 refine bx (fun q2=>?_) fun q2=>?_
 ·have e:=Nat.add_sub_assoc g1 lo
  have i2:=Nat.sub_lt g1 Nat.one_pos
  refine wpS_bind (iU hO hk ks (ix h1 hn) (ix1 q hn) (aY (fun _=>wpS_pure (h n st .self g1 g2 g3)) fun q3=>?_))
  refine absurd (KeyOrd.kle_antisymm ?_ q3) (hd lo (lo+n-1) (by rw [e];exact Nat.lt_add_of_pos_right (Nat.sub_pos_of_lt q2)) (ix1 q hn))
  rw [e]
  exact g3 0 (n-1) (Nat.zero_le _) i2
 cases Nat.le_antisymm (Nat.le_of_not_lt q2) g1
 refine wpS_bind (wpS_lift (wpAny_rule ⟨rfl,?_⟩))
 refine wpS_bind (wpS_mono (wpS_forRange (I:=fun x c st'=>st'=st∧c=(none,x,0)∧Dw κ (arrOf st) lo x)
  (Q:=fun c st'=>st'=st∧c.1=none∧c.2.2=0∧1≤c.2.1∧c.2.1≤nrem∧Dw κ (arrOf st) lo c.2.1) ?_ ?_ ⟨rfl,rfl,Dw.next (fun i j hij hj=>absurd hij (Nat.not_lt.mpr (Nat.le_trans (Nat.le_of_lt_succ hj) (Nat.zero_le _)))) (g4.resolve_left (Nat.ne_of_lt q))⟩) ?_)
 ·rintro x c st' hax hxn ⟨rfl,rfl,hs'⟩
  have hax:1≤x:=Nat.le_of_lt hax
  refine wpS_bind (iU hO hk ks (ix hxn hn) (ix1 hxn hn) (aY (fun q=>?_) fun q=>?_))
  ·exact bx (fun z=>absurd z (Nat.lt_irrefl 0)) fun _=>wpS_pure ⟨rfl,rfl,hs'.next q⟩
  ·refine wpS_bind (iU hO hk ks (ix1 hxn hn) (ix hxn hn) (aY (fun _=>wpS_pure ⟨rfl,rfl,rfl,hax,Nat.le_of_lt hxn,hs'⟩) fun q3=>?_))
   exact absurd (KeyOrd.kle_antisymm q q3) (hd (lo+x-1) (lo+x) (Nat.sub_lt (Nat.lt_of_lt_of_le hax (Nat.le_add_left _ _)) Nat.one_pos) (ix hxn hn))
 ·rintro c st' ⟨rfl,rfl,hs'⟩
  rw [Nat.max_eq_right q] at hs' ⊢
  exact ⟨rfl,rfl,rfl,h1,Nat.le_refl _,hs'⟩
 rintro ⟨_,m,_⟩ st' ⟨rfl,rfl,rfl,m1,m2,hs'⟩
 refine bx (fun z=>absurd z (Nat.lt_irrefl 0)) fun _=>?_
 obtain ⟨u1,u2⟩:=hs'.turn (Nat.le_trans (Nat.add_le_add_left m2 lo) hn)
 have hI:SI lo st' (setArr st' (mirror (arrOf st') lo (lo+m) ((lo+m-lo) / 2))):=⟨rfl,rfl,rfl,mirror_perm _ _ _ _,u2⟩
 have hn2:=hI.size.symm▸hn
 exact wpS_bind (wpS_reverse (wpS_bind (EK (κ:=κ) (lo:=lo) (fun x n Q g1 g2 g3 g4=>wpS_bind (iU hO hk (hI.keys ks) (ix g2 hn2) (ix1 g2 hn2) (aY (fun q=>wpS_pure (g3 q)) fun q=>wpS_pure (g4 q)))) m1 m2 u1 fun n g1 g2 g3 g4=>wpS_pure (h n _ hI (Nat.le_trans m1 g1) g2 g3))))
end
end Internal
end
section
namespace Internal
open PySem PyProof.Rows
open PyProof.Rows renaming wpS → wpM
section
variable {prog:Program}{w:World}{A:Around}{E:Value→Shared→Prop}{s:Shared}{κ:KeyKind}
theorem SI.tr {lo:Nat}{st st' st2:SortSt}(h:SI lo st st')(h2:SI lo st' st2):SI lo st st2:=⟨h2.kind.trans h.kind,h2.pend.trans h.pend,h2.failed.trans h.failed,h2.perm.trans h.perm,fun p hp=>(h2.low p hp).trans (h.low p hp)⟩
theorem Gi {b:Bool}(h:(!b)=true):b=false:=by
 cases b with
 | true=>exact h.symm
 | false=>rfl
theorem Gj {b:Bool}(h:(!b)=false):b=true:=by
 cases b with
 | true=>rfl
 | false=>exact h.symm
theorem mid {l r:Nat}(h:¬ l≥r):l≤(l+r) / 2∧(l+r) / 2<r:=by lia
theorem Up.ins {a:Array Keyed}{lo k l:Nat}(hz:lo+k<a.size)(hs:Up κ a lo k)(hl:l≤k)(g4:∀i,i<l→κ.kle (KK κ a (lo+i)) (KK κ a (lo+k)))(g5:∀i,l≤i→i<k→κ.kle (KK κ a (lo+k)) (KK κ a (lo+i))) :
  Up κ (bubble a (lo+k) (lo+k-(lo+l))) lo (k+1)∧∀p,p<lo→(bubble a (lo+k) (lo+k-(lo+l)))[p]?=a[p]?:=by
 have e0:lo+k-(lo+k-(lo+l))=lo+l:=Nat.sub_sub_self (Nat.add_le_add_left hl lo)
 have eB:=getElem?_bubble hz _ (Nat.sub_le (lo+k) (lo+l))
 rw [e0] at eB
 generalize bubble a (lo+k) (lo+k-(lo+l))=c at eB ⊢
 have eL:KK κ c (lo+l)=KK κ a (lo+k):=KK_congr (by rw [eB,if_pos rfl])
 have lt:∀{i},i<lo+l→c[i]?=a[i]?:=fun {i} h=>by rw [eB,if_neg (Nat.ne_of_lt h),if_neg (fun q=>Nat.lt_asymm h q.1)]
 have eS:∀i,i<l→KK κ c (lo+i)=KK κ a (lo+i):=fun i hi=>KK_congr (lt (Nat.add_lt_add_left hi _))
 have eG:∀i,l≤i→i<k→KK κ c (lo+(i+1))=KK κ a (lo+i):=fun i hi hk=>KK_congr (by
  rw [eB,if_neg (Nat.ne_of_gt (Nat.add_lt_add_left (Nat.lt_succ_of_le hi) lo)),if_pos ⟨Nat.add_lt_add_left (Nat.lt_succ_of_le hi) lo,Nat.add_le_add_left hk lo⟩];rfl)
 refine ⟨fun i j hij hj=>?_,fun p hp=>lt (Nat.lt_of_lt_of_le hp (Nat.le_add_right _ _))⟩
 have hj:=Nat.le_of_lt_succ hj
 rcases Nat.lt_trichotomy i l with a1 | rfl | a1
 ·rw [eS i a1]
  rcases Nat.lt_trichotomy j l with a2 | rfl | a2
  ·rw [eS j a2];exact hs _ _ hij (Nat.lt_of_lt_of_le a2 hl)
  ·rw [eL];exact g4 i a1
  ·obtain ⟨j,rfl⟩:=Nat.exists_eq_add_one_of_ne_zero (Nat.ne_of_gt (Nat.lt_of_le_of_lt (Nat.zero_le _) a2))
   have a2:=Nat.le_of_lt_succ a2
   rw [eG j a2 hj];exact hs _ _ (Nat.le_trans (Nat.le_of_lt a1) a2) hj
 ·rw [eL]
  rcases Nat.lt_or_eq_of_le hij with a2 | rfl
  ·obtain ⟨j,rfl⟩:=Nat.exists_eq_add_one_of_ne_zero (Nat.ne_of_gt (Nat.lt_of_le_of_lt (Nat.zero_le _) a2))
   have a2:=Nat.le_of_lt_succ a2
   rw [eG j a2 hj];exact g5 _ a2 hj
  ·rw [eL];exact KeyOrd.kle_refl _
 ·obtain ⟨i,rfl⟩:=Nat.exists_eq_add_one_of_ne_zero (Nat.ne_of_gt (Nat.lt_of_le_of_lt (Nat.zero_le _) a1))
  obtain ⟨j,rfl⟩:=Nat.exists_eq_add_one_of_ne_zero (Nat.ne_of_gt (Nat.lt_of_lt_of_le (Nat.succ_pos _) hij))
  have a1:=Nat.le_of_lt_succ a1
  have hij:=Nat.le_of_succ_le_succ hij
  rw [eG i a1 (Nat.lt_of_le_of_lt hij hj),eG j (Nat.le_trans a1 hij) hj];exact hs _ _ hij hj
theorem EM (hO:κ.OneLt){st:SortSt}{lo n ok:Nat}{Q:Bool→SortSt→Prop}(hk:kindOf st=oneType')(ks:∀x∈(arrOf st).toList,aU κ x)(hn:lo+n≤(arrOf st).size)(hok:ok≤n)(hok1:1≤ok)(hs:Up κ (arrOf st) lo ok)
  (h:∀st',SI lo st st'→Up κ (arrOf st') lo n→Q true st'):wpM (model prog w) A E s (binarySort' lo n ok) Q st:=by
 refine wpS_bind (wpS_mono (wpS_forRange (I:=fun k c st'=>c.1=none∧SI lo st st'∧Up κ (arrOf st') lo k)
  (Q:=fun c st'=>c.1=none∧SI lo st st'∧Up κ (arrOf st') lo n) ?_ ?_ ⟨rfl,.self,by rw [Nat.max_eq_left hok1];exact hs⟩) ?_)
 ·rintro k ⟨_,_⟩ st1 hak hkn ⟨rfl,hI,hs'⟩
  have i1:∀m,m≤k→lo+m<(arrOf st1).size:=fun m h=>by rw [hI.size];exact n3 h hkn hn (by simp +arith only)
  have md:∀j,j<k→κ.kle (KK κ (arrOf st1) (lo+j)) (KK κ (arrOf st1) (lo+k))→∀i,i≤j→(!κ.blt (KK κ (arrOf st1) (lo+k)) (KK κ (arrOf st1) (lo+i)))=true:=fun j a b i c=>by
   rw [show κ.blt _ _=false from KeyOrd.kle_trans (hs' i j c a) b];rfl
  have mu:∀j,κ.klt (KK κ (arrOf st1) (lo+k)) (KK κ (arrOf st1) (lo+j))→∀i,j≤i→i<k→(!κ.blt (KK κ (arrOf st1) (lo+k)) (KK κ (arrOf st1) (lo+i)))=false:=fun j a i b c=>by
   rw [show κ.blt _ _=true from KeyOrd.klt_of_klt_of_kle a (hs' j i b c)];rfl
  refine wpS_bind (wpS_mono (wpS_forRange (I:=fun x c st2=>st2=st1∧c.1=none∧G3 (fun i=>!κ.blt (KK κ (arrOf st1) (lo+k)) (KK κ (arrOf st1) (lo+i))) k x c.2.1 c.2.2)
   (Q:=fun c st2=>st2=st1∧c.1=none∧c.2.2≤c.2.1∧∃x,G3 (fun i=>!κ.blt (KK κ (arrOf st1) (lo+k)) (KK κ (arrOf st1) (lo+i))) k x c.2.1 c.2.2) ?_ ?_ (by exact ⟨rfl,rfl,Nat.zero_le _,Nat.le_refl _,Nat.le_refl _,fun i h=>absurd h (Nat.not_lt_zero i),fun i g1 g2=>absurd g2 (Nat.not_lt.mpr g1)⟩)) ?_)
  ·rintro x ⟨_,l,r⟩ st2 _ hxk ⟨rfl,rfl,g⟩
   refine bx (fun q=>wpS_pure ⟨rfl,rfl,q,x,g⟩) fun q=>?_
   obtain ⟨m1,m2⟩:=mid q
   have m3:=Nat.lt_of_lt_of_le m2 g.top
   exact wpS_bind (iU hO (hI.kind.trans hk) (hI.keys ks) (i1 k (Nat.le_refl _)) (i1 _ (Nat.le_of_lt m3)) (aY (fun q3=>wpS_pure ⟨rfl,rfl,g.dn m1 m2 (mu _ q3)⟩) fun q3=>wpS_pure ⟨rfl,rfl,g.up m1 m2 (md _ m3 q3)⟩))
  ·rintro ⟨_,l,r⟩ st2 ⟨rfl,rfl,g⟩
   exact ⟨rfl,rfl,n2 g.t (Nat.le_max_right 0 k) (by simp +arith only),_,g⟩
  rintro ⟨_,l,r⟩ st2 ⟨rfl,rfl,q,x,g⟩
  obtain ⟨u1,u2⟩:=hs'.ins (l:=l) (i1 k (Nat.le_refl _)) (Nat.le_trans g.le g.top) (fun i h=>Gi (g.yes i h)) fun i a b=>KeyOrd.kle_of_klt (Gj (g.no i (Nat.le_trans q a) b))
  exact wpS_bind (wpS_modify (wpS_pure ⟨rfl,hI.tr ⟨rfl,rfl,rfl,bubble_perm _ _ _,u2⟩,u1⟩))
 ·rintro ⟨_,_⟩ st' ⟨rfl,hI,hs'⟩
  rw [Nat.max_eq_left hok1,Nat.max_eq_right hok] at hs'
  exact ⟨rfl,hI,hs'⟩
 ·rintro ⟨_,_⟩ st' ⟨rfl,hI,hs'⟩
  exact wpS_pure (h st' hI hs')
end
end Internal
end
section
namespace Internal
open PySem PyProof.Rows
open PyProof.Rows renaming wpS → wpM
noncomputable def kz:Nat→List (List Keyed)→List (Nat × Nat)
 | _,[]=>[]
 | o,r::rs=>(o,r.length)::kz (o+r.length) rs
noncomputable abbrev pf (p:Nat × Nat × Nat):Nat × Nat:=(p.1,p.2.1)
theorem dv:∀(A:List (List Keyed)) (o:Nat),(kz o A).length=A.length
 | [],_=>rfl
 | r::A,o=>congrArg (·+1) (dv A (o+r.length))
theorem fi:∀(A B:List (List Keyed)) (o:Nat),kz o (A++B)=kz o A++kz (o+A.flatten.length) B
 | [],B,o=>rfl
 | r::A,B,o=>by
  show (o,r.length)::kz (o+r.length) (A++B)=(o,r.length)::(kz (o+r.length) A++kz (o+(r++A.flatten).length) B)
  rw [fi A B,List.length_append,Nat.add_assoc]
theorem yH {l:List (Nat × Nat × Nat)}{g:Nat × Nat × Nat→Nat × Nat × Nat}(hg:∀p,pf (g p)=pf p)(i:Nat):(l.modify i g).map pf=l.map pf:=by
 induction l generalizing i with
 | nil=>rw [List.modify_nil]
 | cons x l ih=>
  cases i with
  | zero=>show pf (g x)::_=_;rw [hg];rfl
  | succ i=>exact congrArg (pf x::·) (ih i)
theorem Ci {α β:Type}{l:List α}{f:α→β}(i:Nat):(l.eraseIdx i).map f=(l.map f).eraseIdx i:=by
 rw [List.eraseIdx_eq_take_drop_succ,List.eraseIdx_eq_take_drop_succ,List.map_append,List.map_take,List.map_drop]
section
variable {prog:Program}{w:World}{A:Around}{E:Value→Shared→Prop}{s:Shared}{κ:KeyKind}
structure Rns (κ:KeyKind)(a0:Array Keyed)(R:List Keyed)(rs:List (List Keyed))(st:SortSt):Prop where
 arr:(arrOf st).toList=rs.flatten++R
 pend:(pendingOf st).toList.map pf=kz 0 rs
 runs:∀r∈rs,0<r.length∧Srt κ r
 perm:(arrOf st).Perm a0
 kind:kindOf st=oneType'
 failed:failedOf st=none
theorem Rns.len {a0:Array Keyed}{R:List Keyed}{rs:List (List Keyed)}{st:SortSt}(h:Rns κ a0 R rs st):(pendingOf st).size=rs.length:=by
 have:=congrArg List.length h.pend
 rw [List.length_map,dv] at this
 exact this
theorem Rns.keys {a0:Array Keyed}{R:List Keyed}{rs:List (List Keyed)}{st:SortSt}(h:Rns κ a0 R rs st)(ks:∀x∈a0.toList,aU κ x):∀x∈(arrOf st).toList,aU κ x:=fun x hx=>ks x ((Array.perm_iff_toList_perm.mp h.perm).mem_iff.mp hx)
theorem Rns.at {a0:Array Keyed}{R:List Keyed}{F B:List (List Keyed)}{X:List Keyed}{st:SortSt}(h:Rns κ a0 R (F++X::B) st):∃pw,(pendingOf st)[F.length]?=some (F.flatten.length,X.length,pw):=by
 have:=congrArg (·[F.length]?) h.pend
 rw [fi,List.getElem?_append_right (by rw [dv];exact Nat.le_refl _),dv,Nat.sub_self,List.getElem?_map,Nat.zero_add] at this
 obtain ⟨⟨a,b,c⟩,e1,e2⟩:=Option.map_eq_some_iff.mp this
 cases e2
 exact ⟨c,by rw [←Array.getElem?_toList];exact e1⟩
theorem oJ (hO:κ.OneLt){a0:Array Keyed}{R:List Keyed}{rs:List (List Keyed)}{i:Nat}{st:SortSt}{Q:Bool→SortSt→Prop}(ks:∀x∈a0.toList,aU κ x)(hR:Rns κ a0 R rs st)(hi:i+1<rs.length)
  (h:∀rs' st',Rns κ a0 R rs' st'→rs'.flatten.length=rs.flatten.length→rs'.length+1=rs.length→Q true st'):wpM (model prog w) A E s (mergeAt' i) Q st:=by
 obtain ⟨F,X,Y,B,rfl,rfl⟩:∃F X Y B,rs=F++X::Y::B∧F.length=i:=by
  refine ⟨rs.take i,rs[i],rs[i+1],rs.drop (i+2),?_,List.length_take_of_le (n1 hi (by simp +arith only))⟩
  rw [←List.drop_eq_getElem_cons hi,←List.drop_eq_getElem_cons (n1 hi (by simp +arith only)),List.take_append_drop]
 obtain ⟨pw,p1⟩:=hR.at
 obtain ⟨q,p2⟩:=(show Rns κ a0 R ((F++[X])++Y::B) st by rw [List.append_assoc];exact hR).at
 have lF:(F++[X]).flatten.length=F.flatten.length+X.length:=by rw [List.flatten_append,List.length_append,List.flatten_singleton]
 rw [List.length_append,lF] at p2
 have rX:=hR.runs X (List.mem_append_right _ (.head _))
 have rY:=hR.runs Y (List.mem_append_right _ (.tail _ (.head _)))
 have eA:(arrOf st).toList=F.flatten++(X++(Y++(B.flatten++R))):=by
  rw [hR.arr,List.flatten_append,List.flatten_cons,List.flatten_cons,List.append_assoc,List.append_assoc,List.append_assoc]
 refine Gh hO hR.kind eA p1 p2 (hR.keys ks) rX.1 rY.1 rX.2 rY.2 hR.failed fun C st' c1 c2 c3 c4 c5 c6=>?_
 have lC:C.length=X.length+Y.length:=by rw [c1.length_eq,List.length_append]
 have fl:(F++C::B).flatten=F.flatten++(C++B.flatten):=by rw [List.flatten_append,List.flatten_cons]
 have fl0:(F++X::Y::B).flatten=F.flatten++(X++(Y++B.flatten)):=by rw [List.flatten_append,List.flatten_cons,List.flatten_cons]
 refine h (F++C::B) st' ⟨?_,?_,fun r hr=>?_,?_,c5.trans hR.kind,c6⟩ ?_ ?_
 ·rw [c3,fl,List.append_assoc,List.append_assoc]
 ·have e:=hR.pend
  rw [c4,Array.toList_eraseIdxIfInBounds,Array.toList_setIfInBounds,Ci,List.map_set,e,fi,fi,Nat.zero_add]
  rw [List.set_append_right _ _ (by rw [dv];exact Nat.le_refl _),List.eraseIdx_append_of_length_le (by rw [dv];exact Nat.le_succ _),dv,Nat.sub_self,Nat.add_sub_cancel_left]
  show _++(F.flatten.length,X.length+Y.length)::kz (F.flatten.length+X.length+Y.length) B=_++(F.flatten.length,C.length)::kz (F.flatten.length+C.length) B
  rw [lC,Nat.add_assoc]
 ·rcases List.mem_append.mp hr with hr | hr
  ·exact hR.runs r (List.mem_append_left _ hr)
  ·rcases List.mem_cons.mp hr with rfl | hr
   ·exact ⟨n2 (Nat.le_of_eq lC.symm) rY.1 (by simp +arith only),c2⟩
   ·exact hR.runs r (List.mem_append_right _ (.tail _ (.tail _ hr)))
 ·refine Array.Perm.trans (Array.perm_iff_toList_perm.mpr ?_) hR.perm
  rw [c3,eA]
  refine List.Perm.append_left _ ?_
  rw [←List.append_assoc X]
  exact c1.append_right _
 ·rw [fl,fl0,List.length_append,List.length_append,List.length_append,List.length_append,List.length_append,lC];exact by simp +arith only
 ·rw [List.length_append,List.length_append];rfl
end
end Internal
end
section
namespace Internal
open PySem PyProof.Rows
open PyProof.Rows renaming wpS → wpM
section
variable {prog:Program}{w:World}{A:Around}{E:Value→Shared→Prop}{s:Shared}{κ:KeyKind}
theorem mr {a:Array Keyed}{i:Nat}{x:Keyed}(e:a[i]?=some x):KK κ a i=kof κ x:=by unfold KK;rw [e];rfl
theorem EN {a:Array Keyed}(nd:(a.toList.map (kof κ)).Nodup)(i j:Nat)(hij:i<j)(hj:j<a.size):KK κ a i≠KK κ a j:=by
 rw [mr (Array.getElem?_eq_getElem (Nat.lt_trans hij hj)),mr (Array.getElem?_eq_getElem hj)]
 have:=List.pairwise_iff_getElem.mp nd i j (by rw [List.length_map,Array.length_toList];exact Nat.lt_trans hij hj) (by rw [List.length_map,Array.length_toList];exact hj) hij
 rw [List.getElem_map,List.getElem_map] at this
 exact this
theorem Rns.next {a0:Array Keyed}{R:List Keyed}{rs:List (List Keyed)}{st1 st2:SortSt}{n:Nat}(hR:Rns κ a0 R rs st1)(hI:SI rs.flatten.length st1 st2)(hU:Up κ (arrOf st2) rs.flatten.length n)(hn:rs.flatten.length+n≤(arrOf st2).size):∃C R',C.length=n∧Srt κ C∧Rns κ a0 (C++R') rs st2:=by
 have eT:(arrOf st2).toList.take rs.flatten.length=rs.flatten:=by
  have:(arrOf st1).toList.take rs.flatten.length=rs.flatten:=by rw [hR.arr,List.take_left]
  refine Eq.trans (List.ext_getElem? fun i=>?_) this
  rw [List.getElem?_take,List.getElem?_take]
  by_cases q:i<rs.flatten.length
  ·rw [if_pos q,if_pos q,Array.getElem?_toList,Array.getElem?_toList];exact hI.low i q
  ·rw [if_neg q,if_neg q]
 have eA:(arrOf st2).toList=rs.flatten++(((arrOf st2).toList.drop rs.flatten.length).take n++((arrOf st2).toList.drop rs.flatten.length).drop n):=by
  rw [List.take_append_drop]
  exact (List.take_append_drop _ _).symm.trans (congrArg (·++_) eT)
 have lC:(((arrOf st2).toList.drop rs.flatten.length).take n).length=n:=by
  rw [List.length_take,List.length_drop,Array.length_toList];lia
 refine ⟨_,_,lC,?_,eA,by rw [hI.pend];exact hR.pend,hR.runs,hI.perm.trans hR.perm,hI.kind.trans hR.kind,hI.failed.trans hR.failed⟩
 refine List.pairwise_iff_getElem.mpr fun i j hi hj hij=>?_
 have:=hU i j (Nat.le_of_lt hij) (by rw [←lC];exact hj)
 rw [mr ((du eA hi).trans (List.getElem?_eq_getElem hi)),mr ((du eA hj).trans (List.getElem?_eq_getElem hj))] at this
 exact this
theorem Rns.push {a0:Array Keyed}{C R:List Keyed}{rs:List (List Keyed)}{st:SortSt}(hR:Rns κ a0 (C++R) rs st)(hC:0<C.length)(sC:Srt κ C):Rns κ a0 R (rs++[C]) (setPending st ((pendingOf st).push (rs.flatten.length,C.length,0))):=by
 refine ⟨?_,?_,fun r hr=>?_,hR.perm,hR.kind,hR.failed⟩
 ·show (arrOf st).toList=_
  rw [hR.arr,List.flatten_append,List.flatten_singleton,List.append_assoc]
 ·show ((pendingOf st).push _).toList.map pf=_
  rw [Array.toList_push,List.map_append,hR.pend,fi,Nat.zero_add];rfl
 ·rcases List.mem_append.mp hr with hr | hr
  ·exact hR.runs r hr
  ·cases List.mem_singleton.mp hr;exact ⟨hC,sC⟩
theorem Rns.pw {a0:Array Keyed}{R:List Keyed}{rs:List (List Keyed)}{st:SortSt}{i:Nat}{g:Nat × Nat × Nat→Nat × Nat × Nat}(hR:Rns κ a0 R rs st)(hg:∀p,pf (g p)=pf p):Rns κ a0 R rs (setPending st ((pendingOf st).modify i g)):=by
 refine ⟨hR.arr,?_,hR.runs,hR.perm,hR.kind,hR.failed⟩
 show ((pendingOf st).modify i g).toList.map pf=_
 rw [Array.toList_modify,yH hg];exact hR.pend
theorem Rns.count {a0:Array Keyed}{R:List Keyed}{rs:List (List Keyed)}{st:SortSt}(hR:Rns κ a0 R rs st):rs.length≤rs.flatten.length:=by
 have:∀rs:List (List Keyed),(∀r∈rs,0<r.length∧Srt κ r)→rs.length≤rs.flatten.length:=fun rs=>by
  induction rs with
  | nil=>exact fun _=>Nat.le_refl _
  | cons r rs ih=>
   intro h
   rw [List.flatten_cons,List.length_append,List.length_cons,Nat.add_comm]
   exact Nat.add_le_add (h r (.head _)).1 (ih fun r hr=>h r (.tail _ hr))
 exact this rs hR.runs
theorem Cj {σ α:Type}{M:Model}{X:StateT σ Sem α}{F:Nat→StateT σ Sem α}{H:Nat→σ→Prop}{Q:α→σ→Prop}{st:σ}(h1:∀n st',H n st'→wpM M A E s (F n) Q st')(h2:(∀n st',H n st'→wpM M A E s (F n) Q st')→wpM M A E s X Q st):wpM M A E s X Q st:=h2 h1
theorem Ck {σ α:Type}{M:Model}{X:StateT σ Sem α}{F:StateT σ Sem α}{H:σ→Prop}{Q:α→σ→Prop}{st:σ}(h1:∀st',H st'→wpM M A E s F Q st')(h2:(∀st',H st'→wpM M A E s F Q st')→wpM M A E s X Q st):wpM M A E s X Q st:=h2 h1
theorem Cm {c:Bool}{n:Nat}(h:2≤n):(if c=true then n-2-1 else n-2)+1<n:=by
 have:n-2+1<n:=Nat.lt_of_lt_of_eq (Nat.lt_succ_self _) (Nat.sub_add_cancel h)
 cases c with
 | true=>exact Nat.lt_of_le_of_lt (Nat.succ_le_succ (Nat.sub_le _ _)) this
 | false=>exact this
inductive RnL (κ:KeyKind)(a0:Array Keyed)(R:List Keyed)(lo:Nat)(st:SortSt):Prop
 | mk (rs:List (List Keyed)) (h:Rns κ a0 R rs st) (e:rs.flatten.length=lo)
inductive RN (κ:KeyKind)(a0:Array Keyed)(P:Nat→Prop)(st:SortSt):Prop
 | mk (rs:List (List Keyed)) (h:Rns κ a0 [] rs st) (e:P rs.length)
theorem Rns.all {a0:Array Keyed}{R:List Keyed}{rs:List (List Keyed)}{st:SortSt}(h:Rns κ a0 R rs st):rs.flatten.length+R.length=a0.size:=by
 rw [←h.perm.size_eq,←Array.length_toList,h.arr,List.length_append]
theorem Rns.end {a0:Array Keyed}{R:List Keyed}{rs:List (List Keyed)}{st:SortSt}(h:Rns κ a0 R rs st)(q:a0.size≤rs.flatten.length):RN κ a0 (fun _=>True) st:=by
 obtain rfl:R=[]:=List.length_eq_zero_iff.mp (Nat.le_zero.mp (n2 q (Nat.le_of_eq h.all) (by simp +arith only)))
 exact ⟨rs,h,trivial⟩
theorem Co (hO:κ.OneLt){st:SortSt}{Q:Unit→SortSt→Prop}(hk:kindOf st=oneType')(ks:∀x∈(arrOf st).toList,aU κ x)(nd:((arrOf st).toList.map (kof κ)).Nodup)(hp:pendingOf st=#[])(hf:failedOf st=none)
  (h:∀st',(arrOf st').Perm (arrOf st)→failedOf st'=none→Srt κ (arrOf st').toList→Q () st'):wpM (model prog w) A E s sortRuns' Q st:=by
 refine wpS_bind (wpS_get ?_)
 refine wpS_bind (wpS_mono (wpS_forRange (I:=fun x c st'=>c.1=none∧x≤c.2∧∃R,RnL κ (arrOf st) R c.2 st')
  (Q:=fun c st'=>c.1=none∧RN κ (arrOf st) (fun _=>True) st') ?_ ?_ (by exact ⟨rfl,Nat.zero_le _,(arrOf st).toList,[],⟨rfl,by rw [hp];rfl,fun _ h=>absurd h List.not_mem_nil,.refl _,hk,hf⟩,rfl⟩)) ?_)
 ·rintro x ⟨_,lo⟩ st1 _ hx ⟨rfl,hl,R,rs,hR,rfl⟩
  refine bx (fun q=>wpS_pure ⟨rfl,hR.end q⟩) fun q=>?_
  have q:=Nat.lt_of_not_le q
  have zz:=Nat.add_sub_cancel' (Nat.le_of_lt q)
  have z1:=hR.perm.size_eq
  refine wpS_bind (EL hO hR.kind (hR.keys ks) (EN (((Array.perm_iff_toList_perm.mp hR.perm).map (kof κ)).nodup_iff.mpr nd)) (Nat.le_of_eq (zz.trans z1.symm)) (Nat.sub_pos_of_lt q) fun m st2 hI m1 m2 hU=>?_)
  dsimp -zeta only
  extract_lets -underBinder -merge +onlyGivenNames n0 jp
  have m2:m≤(arrOf st).size-rs.flatten.length:=m2
  have hI:SI rs.flatten.length st1 st2:=hI
  have hU:Up κ (arrOf st2) rs.flatten.length m:=hU
  have up:∀{f},f≤(arrOf st).size-rs.flatten.length→rs.flatten.length+f≤(arrOf st).size:=fun h=>Nat.le_trans (Nat.add_le_add_left h _) (Nat.le_of_eq zz)
  have z2:∀{st'},SI rs.flatten.length st1 st'→(arrOf st').size=(arrOf st).size:=fun h=>h.size.trans z1
  refine Cj (F:=jp ()) (H:=fun n st'=>SI rs.flatten.length st1 st'∧Up κ (arrOf st') rs.flatten.length n∧1≤n∧rs.flatten.length+n≤(arrOf st).size) ?_ fun key=>?_
  ·rintro n st3 ⟨hI,hU,n1,n2⟩
   obtain ⟨C,R',rfl,sC,hR⟩:=hR.next hI hU (Nat.le_trans n2 (Nat.le_of_eq (z2 hI).symm))
   refine wpS_bind (wpS_get ?_)
   extract_lets -underBinder -merge +onlyGivenNames jp2
   refine Ck (F:=jp2 ()) (H:=fun st'=>RnL κ (arrOf st) (C++R') rs.flatten.length st') ?_ fun key2=>?_
   ·rintro st4 ⟨rs',hR',e⟩
    have:=hR'.push n1 sC
    rw [e] at this
    exact wpS_bind (wpS_modify (wpS_pure ⟨rfl,Nat.add_le_add hl n1,R',rs'++[C],this,by rw [List.flatten_append,List.length_append,e,List.flatten_singleton]⟩))
   rcases (pendingOf st3).back? with _ | ⟨s1,n1,o⟩
   ·exact key2 st3 ⟨rs,hR,rfl⟩
   ·refine wpS_bind (wpS_mono (wpS_forRange (I:=fun _ c st'=>c.1=none∧RnL κ (arrOf st) (C++R') rs.flatten.length st') (Q:=fun c st'=>c.1=none∧RnL κ (arrOf st) (C++R') rs.flatten.length st') ?_ (fun _ _ h=>h) ⟨rfl,rs,hR,rfl⟩) ?_)
    ·rintro y ⟨_,_⟩ st4 _ _ ⟨rfl,rs',hR',e⟩
     refine wpS_bind (wpS_get ?_)
     dsimp only
     by_cases q:(pendingOf st4).size > 1
     ·have q2:(pendingOf st4).size-2+1<(pendingOf st4).size:=Nat.lt_of_lt_of_eq (Nat.lt_succ_self _) (Nat.sub_add_cancel q)
      rw [if_pos q,Array.getElem?_eq_getElem (Nat.lt_of_succ_lt q2)]
      exact bx (fun _=>wpS_pure ⟨rfl,rs',hR',e⟩) fun _=>wpS_bind (oJ hO ks hR' (Nat.lt_of_lt_of_eq q2 hR'.len) fun rs2 st5 h5 l5 _=>aY (fun h=>absurd h Bool.false_ne_true) fun _=>wpS_pure ⟨rfl,rs2,h5,l5.trans e⟩)
     ·rw [if_neg q];exact wpS_pure ⟨rfl,rs',hR',e⟩
    ·rintro ⟨_,_⟩ st4 ⟨rfl,rs',hR',e⟩
     exact wpS_bind (wpS_modify (key2 _ ⟨rs',hR'.pw (fun p=>rfl),e⟩))
  refine bx (fun q2=>?_) fun _=>key m st2 ⟨hI,hU,m1,up m2⟩
  refine wpS_bind (wpS_lift (wpAny_rule ⟨rfl,?_⟩))
  have f1:m≤min ((arrOf st).size-rs.flatten.length) (minRun' (arrOf st).size (arrOf st).size 0):=Nat.le_min.mpr ⟨m2,Nat.le_of_lt q2⟩
  have f2:=up (Nat.min_le_left ((arrOf st).size-rs.flatten.length) (minRun' (arrOf st).size (arrOf st).size 0))
  exact wpS_bind (EM hO (hI.kind.trans hR.kind) (hI.keys (hR.keys ks)) (Nat.le_trans f2 (Nat.le_of_eq (z2 hI).symm)) f1 m1 hU fun st3 hI3 hU3=>aY (fun h=>absurd h Bool.false_ne_true) fun _=>key _ st3 ⟨hI.tr hI3,hU3,Nat.le_trans m1 f1,f2⟩)
 ·rintro ⟨_,lo⟩ st1 ⟨rfl,hl,R,rs,hR,rfl⟩
  exact ⟨rfl,hR.end (Nat.le_trans (Nat.le_max_right 0 _) hl)⟩
 ·rintro ⟨_,lo⟩ st1 ⟨rfl,rs,hR,_⟩
  refine wpS_bind (wpS_mono (wpS_forRange (I:=fun x c st'=>c.1=none∧RN κ (arrOf st) (fun n=>n≤1∨n+x≤(arrOf st).size) st') (Q:=fun c st'=>c.1=none∧RN κ (arrOf st) (fun n=>n≤1) st') ?_ ?_ (by exact ⟨rfl,rs,hR,.inr (Nat.le_trans hR.count (Nat.le_of_eq hR.all))⟩)) ?_)
  ·rintro x ⟨_,_⟩ st2 _ hx ⟨rfl,rs,hR,hc⟩
   refine wpS_bind (wpS_get ?_)
   refine bx (fun q=>wpS_pure ⟨rfl,rs,hR,hR.len▸q⟩) fun q=>?_
   have q:2≤(pendingOf st2).size:=Nat.lt_of_not_le q
   refine wpS_bind (oJ hO ks hR (Nat.lt_of_lt_of_eq (Cm q) hR.len) fun rs2 st3 h3 _ l3=>aY (fun h=>absurd h Bool.false_ne_true) fun _=>wpS_pure ⟨rfl,rs2,h3,?_⟩)
   rw [hR.len] at q
   exact .inr (n2 (hc.resolve_left (Nat.not_le.mpr q)) (Nat.le_of_eq l3) (by simp +arith only))
  ·rintro ⟨_,_⟩ st2 ⟨rfl,rs,hR,hc⟩
   refine ⟨rfl,rs,hR,hc.elim id fun hc=>?_⟩
   exact n2 hc (Nat.le_max_right 0 (arrOf st).size) (by simp +arith only)
  ·rintro ⟨_,_⟩ st2 ⟨rfl,rs,hR,hc⟩
   refine wpS_pure (h st2 hR.perm hR.failed ?_)
   rw [hR.arr,List.append_nil]
   cases rs with
   | nil=>exact .nil
   | cons r rs=>
    cases rs with
    | nil=>rw [List.flatten_singleton];exact (hR.runs r (.head _)).2
    | cons _ _=>exact absurd (Nat.le_of_succ_le_succ hc) (Nat.not_succ_le_zero _)
end
end Internal
end
section
namespace Internal
open PySem PyProof.Rows
open PyProof.Rows renaming wpS → wpM
section
variable {prog:Program}{w:World}{A:Around}{E:Value→Shared→Prop}{s:Shared}{κ:KeyKind}
theorem Srt.toK {a:Array Keyed}{n:Nat}(h:Srt κ a.toList)(hn:n=a.size):SortedToK κ a n:=fun i j hij hj=>by
 subst hn
 have e2:a[j]?=some a[j]:=Array.getElem?_eq_getElem hj
 have e1:a[i]?=some a[i]:=Array.getElem?_eq_getElem (Nat.lt_of_le_of_lt hij hj)
 rw [mr e1,mr e2]
 exact h.at hij e1 e2
theorem vo (hO:κ.OneLt){a:Addr}{vs:List Value}{n:Nat}{P:Fin→Shared→Prop}(ho:s.heap.get? a=some (seqObj "list" vs.toArray n))
  (h0:KeysOf κ (pairsOf vs)) (nd:((pairsOf vs).toList.map (kof κ)).Nodup) (hkk:keyKind' vs.toArray=pure oneType') (h64:¬ vs.length<2) (hz:vs.length≤100000)
  (h:∀st':SortSt,(arrOf st').Perm (pairsOf vs)→SortedToK κ (arrOf st') (pairsOf vs).size→P (.done (.ret .none)) { s with heap:=sortedHeap s.heap a vs ((arrOf st').map (·.2)) }) :
  wpAny (model prog w) A (Builtin.«list.sort» ⟨[.ref a],[]⟩) P E s:=by
 have e0:=get?_update_seq ho fun _=>#[]
 have ne:=Nat.ne_of_lt (Heap.lt_size ho)
 have ne2:=Nat.ne_of_lt (Nat.lt_succ_of_lt (Heap.lt_size ho))
 have hs:vs.length≤sizeLine:=Nat.le_trans hz (by rw [sizeLine_eq];decide)
 have h2:¬ vs.toArray.size<2:=h64
 rw [list_sort_plain]
 refine wpAny_bind (listItems_at ho rfl ?_)
 refine wpAny_bind (listUpdate_at ho rfl ?_ hs (Nat.zero_le _))
 refine wpAny_bind (seqEpoch_at e0 rfl ?_)
 refine wpAny_bind (wpAny_newTuple ?_ hs)
 refine wpAny_bind (wpAny_newList ?_ (Nat.zero_le _))
 refine wpAny_holding ?_
 have e6:=Heap.get?_push_of_some (seqObj "list" #[] 0) (Heap.get?_push_of_some (seqObj "tuple" vs.toArray 0) e0)
 dsimp only
 rw [if_neg h2,if_neg h2,hkk]
 refine wpAny_bind (wpAny_pure ?_)
 refine wpAny_bind (wpAny_mono (Co (κ:=κ) hO (st:=SortSt.mk' oneType' (vs.toArray.zip vs.toArray) #[] 7 none)
  (Q:=fun _ st'=>(arrOf st').Perm (pairsOf vs)∧failedOf st'=none∧Srt κ (arrOf st').toList) rfl h0 nd rfl rfl fun st' a1 a2 a3=>⟨a1,a2,a3⟩) ?_ fun _ _ e=>e)
 rintro ⟨⟨⟩,st'⟩ s' ⟨rfl,hp,hf,hs'⟩
 have zp:(arrOf st').size=vs.length:=hp.size_eq.trans (pairsOf_size _)
 refine wpAny_bind (seqEpoch_at e6 rfl ?_)
 refine wpAny_bind (listUpdate_at e6 rfl ?_ (Nat.zero_le _) (by rw [Array.size_map,zp];exact Nat.le_succ_of_le hs))
 rw [hf]
 show wpAny _ _ (if (_ != _)=true then _ else _) _ _ _
 rw [if_neg (by rw [bne_self_eq_false];exact nofun)]
 exact wpAny_pure (h st' hp (hs'.toK hp.size_eq.symm))
end
end Internal
end
section
namespace Internal
open PySem PyProof.Rows
open PyProof.Rows renaming wpS → wpM
section
variable {prog:Program}{w:World}{A:Around}{E:Value→Shared→Prop}{s:Shared}
theorem vp {vs:List Value}{ss:List Str}(hS:StrsAre vs ss):(vs.zip vs).map (kof strKind)=ss.map fun x=>x.cps.toList:=by
 induction hS with
 | nil=>rfl
 | cons x t h ih=>exact congrArg (x.cps.toList::·) ih
theorem yI {vs:List Value}{ss:List Str}(hS:StrsAre vs ss)(nd:ss.Nodup):((pairsOf vs).toList.map (kof strKind)).Nodup:=by
 rw [pairsOf_toList,vp hS]
 refine List.Pairwise.map _ (fun a b h e=>h ?_) nd
 cases a;cases b
 exact congrArg Str.mk (Array.ext' e)
theorem sZ {a:Addr}{vs:List Value}{ss:List Str}{n:Nat}{P:Fin→Shared→Prop}(ho:s.heap.get? a=some (seqObj "list" vs.toArray n))(hS:StrsAre vs ss)(nd:ss.Nodup)(hz:vs.length≤100000)
  (h:∀st':SortSt,(arrOf st').Perm (pairsOf vs)→SortedToK strKind (arrOf st') (pairsOf vs).size→P (.done (.ret .none)) { s with heap:=sortedHeap s.heap a vs ((arrOf st').map (·.2)) }) :
  wpAny (model prog w) A (Builtin.«list.sort» ⟨[.ref a],[]⟩) P E s:=by
 by_cases q:vs.length<2
 ·exact list_sort_treeK strKind_oneLt ho hS.keysOf (fun v₁ v₂ rest e=>keyKind_strs (by rw [←e];exact hS)) (Nat.lt_trans q (by decide)) h
 ·refine vo strKind_oneLt ho hS.keysOf (yI hS nd) ?_ q hz h
  match vs,q with
  | [],q=>exact absurd (by decide) q
  | [_],q=>exact absurd (Nat.lt_succ_self 1) q
  | v₁::v₂::rest,_=>exact keyKind_strs hS
end
end Internal
end
section
set_option maxRecDepth 100000
namespace Internal
open PySem PyProof.Rows
section
variable {prog:Program}{w:World}{A:Around}{E:Value→Shared→Prop}{s:Shared}
theorem Cp {S:Addr}{es:Array (Int × Value)}{ep:Nat}{t:SetTable}{Q:Bool→Shared→Prop}(ho:s.heap.get? S=some (fg es ep t))(h:Q false s):wpAny (model prog w) A (Builtin.List.listLengthHint (.ref S)) Q E s:=by
 have hT:s.TypeIs (.ref S) "set":=⟨_,ho,rfl⟩
 unfold Builtin.List.listLengthHint
 refine wpAny_bind (wpAny_specialOf hT PySem.F.slot_set_len.lookup ?_)
 (generalize hid:("set.__len__":String)=id0;(fail_if_success (clear hid id0));wp_delta;rw [show splitId id0=some ("set","__len__") from by subst hid;decide +kernel];subst hid)
 refine wpAny_bind (wpAny_isInstance (b:=true) hT (by rw [isSubtype_type];kernel_rfl) ?_)
 refine wpAny_bind (wpAny_typeOf hT ?_)
 exact wpAny_pure h
structure yJ (s s':Shared):Prop where
 heap:∀b o,s.heap.get? b=some o→s'.heap.get? b=some o
 gens:s'.gens=s.gens
 os:s'.os=s.os
theorem s8 {S:Addr}{ks:List Str}{Q:List Value→Shared→Prop}(hh:A.handled=none)(hS:fh prog w s.heap S ks)(hz:ks.length<scanBound)
  (h:∀vs ss s',StrsAre vs ss→ss.Perm ks→yJ s s'→Q vs s'):wpAny (model prog w) A (collect (.ref S)) Q E s:=by
 obtain ⟨es,ep,t,ho,hrest⟩:=id hS
 unfold collect
 refine wpAny_bind (wpAny_runValue (codeAny_builtin PySem.F.entry_proto_collect ?_))
 rw [Around.under_plainId PySem.F.plain_proto_collect _]
 show wpAny _ A.in1 (newList [] >>= fun l=>again (.builtin "list.__iadd__" ⟨[l,.ref S],[]⟩)) _ _ s
 refine wpAny_bind (wpAny_newObj_type ?_)
 refine wpAny_pure ⟨plainId_quiet PySem.F.plain_list_iadd _,codeAny_builtin PySem.F.entry_list_iadd ?_⟩
 rw [Around.under_plainId PySem.F.plain_list_iadd _]
 show wpAny _ A.in1 (Builtin.List.listExtendWith (.ref s.heap.objs.size) (.ref S) (.ref s.heap.objs.size)) _ _ _
 unfold Builtin.List.listExtendWith
 have k1:∀b o,s.heap.get? b=some o→(s.heap.push { cls:=.type "list",data:=.seq ([]:List Value).toArray }).get? b=some o:=fun b o e=>Heap.get?_push_of_some _ e
 have hS1:fh prog w (s.heap.push { cls:=.type "list",data:=.seq ([]:List Value).toArray }) S ks:=kn hS fun o e=>k1 S o e
 have hL1:(s.heap.push { cls:=.type "list",data:=.seq ([]:List Value).toArray }).get? s.heap.objs.size=some { cls:=.type "list",data:=.seq ([]:List Value).toArray }:=Heap.get?_push_size _ rfl
 have hSne:S≠s.heap.objs.size:=Nat.ne_of_lt (Heap.lt_size ho)
 refine wpAny_bind (wpAny_typeOf (T:="set") ⟨_,k1 _ _ ho,rfl⟩ ?_)
 rw [if_neg (by simp [Builtin.List.listSameRef,Ne.symm hSne])]
 refine wpAny_bind (Cc (s:={ s with heap:=s.heap.push { cls:=.type "list",data:=.seq ([]:List Value).toArray } }) hS1 hz fun I vs ss h' d hst hperm hk hI0 hw=>?_)
 refine wpAny_bind (wpAny_holding (Cp (es:=es) (ep:=ep) (t:=t) (hk _ _ (k1 _ _ ho)) ?_))
 rw [if_pos (by decide)]
 refine wpAny_bind (wpAny_rule ?_)
 have hL2:=hk _ _ hL1
 refine wpAny_bind ?_
 show wpAny _ A.in1 (updateSeq s.heap.objs.size (·.push .none) >>= fun _=>updateSeq s.heap.objs.size (·.pop)) _ _ _
 refine wpAny_bind (wpAny_updateSeq hL2 rfl ?_)
 have hL3:=Heap.get?_update_self (Obj.mapSeq (·.push Value.none)) hL2 rfl
 refine wpAny_updateSeq hL3 rfl ?_
 have hL4:=Heap.get?_update_self (Obj.mapSeq (·.pop)) hL3 rfl
 have oth:∀b o,b≠s.heap.objs.size→h'.get? b=some o→((h'.update s.heap.objs.size (Obj.mapSeq (·.push Value.none))).update s.heap.objs.size (Obj.mapSeq (·.pop))).get? b=some o:=
  fun b o hb e=>(Heap.get?_update_other _ _ (Ne.symm hb)).trans ((Heap.get?_update_other _ _ (Ne.symm hb)).trans e)
 obtain ⟨fp,St,W,st0,hfp,hIf⟩:=hw A.in1 hh
 have hLf:s.heap.objs.size∉fp:=fun q=>by
  rcases hfp _ q with e | e
  ·exact hSne e.symm
  ·rw [show (s.heap.push { cls:=.type "list",data:=.seq ([]:List Value).toArray }).get? s.heap.objs.size=_ from hL1] at e;exact rU e
 have hvl:vs.length≤sizeLine:=by
  rw [←ko hst,hperm.length_eq];exact fits_of_scanBound hz
 refine wpAny_pure ⟨plainId_quiet PySem.F.plain_extend_loop _,codeAny_extend_loopS W hvl _ hLf _ vs.length 0 _ _ _ rfl (Nat.zero_le _)
  (W.frame 0 { s with heap:=h',drawn:=d } ((h'.update s.heap.objs.size (Obj.mapSeq (·.push Value.none))).update s.heap.objs.size (Obj.mapSeq (·.pop))) s.toks st0 (Nat.le_refl _) fun b hb o e=>oth b o (fun q=>hLf (q▸hb)) e) hL4 (ItemsOf.nil _) fun s' acc' c' hm hS' hacc=>?_⟩
 show wpAny _ A (load s.heap.objs.size >>= _) _ _ s'
 refine wpAny_bind (wpAny_load hS' ?_)
 have hacc':acc'.toList=vs:=by
  apply List.ext_getElem?
  intro i
  rcases Nat.lt_or_ge i vs.length with q | q
  ·have hi:i<acc'.size:=by rw [hacc.1];exact q
   have:=hacc.2 i acc'[i] (Array.getElem?_eq_getElem hi)
   rw [this,Array.getElem?_toList,Array.getElem?_eq_getElem hi]
  ·rw [List.getElem?_eq_none q,List.getElem?_eq_none (by rw [Array.length_toList,hacc.1];exact q)]
 show wpAny _ A (pure acc'.toList) _ _ s'
 rw [hacc']
 refine wpAny_pure (h vs ss s' hst hperm ⟨fun b o e=>?_,hm.gens,hm.os⟩)
 have hb1:b≠s.heap.objs.size:=Nat.ne_of_lt (Heap.lt_size e)
 refine hm.heap b o ?_ (oth b o hb1 (hk b o (k1 b o e)))
 simp only [List.mem_cons,List.not_mem_nil,or_false,not_or]
 refine ⟨hb1,fun q=>?_⟩
 rw [q] at e
 rw [k1 _ _ e] at hI0;exact rU hI0
theorem oK {h:Heap}{vs:List Value}{out:Array Value}{b:Addr}{o:Obj}(e:h.get? b=some o):(sortedHeap (h.push (seqObj "list" vs.toArray 0)) h.objs.size vs out).get? b=some o:=by
 have hlt:=Heap.lt_size e
 rw [sortedHeap_old (Nat.ne_of_lt hlt) (by rw [Heap.size_push];exact Nat.lt_succ_of_lt hlt)]
 exact Heap.get?_push_of_some _ e
theorem fh.nd {h:Heap}{S:Addr}{ks:List Str}(x:fh prog w h S ks):ks.Nodup:=by
 obtain ⟨_,_,_,_,_,_,_,_,_,n⟩:=x
 exact n
theorem vq {S:Addr}{ks:List Str}{Q:Value→Shared→Prop}(hh:A.handled=none)(nd:ks.Nodup)(hz:ks.length<fH)
  (hc:∀{A:Around}{E:Value→Shared→Prop}{Q:List Value→Shared→Prop},A.handled=none→(∀vs ss s',StrsAre vs ss→ss.Perm ks→yJ s s'→Q vs s')→wpAny (model prog w) A (collect (.ref S)) Q E s)
  (h:∀a s' (out:Array Value) ss e,yJ s s'→s.heap.get? a=none→s'.heap.get? a=some (seqObj "list" out e)→StrsAre out.toList ss→ss.Perm ks→sortedS ss=true→Q (.ref a) s') :
  wpAny (model prog w) A (call (.builtin "sorted") [.ref S]) Q E s:=by
 refine Calls.call_function_entry kind_sorted plain_sorted entry_sorted (args_sorted1 _) ?_
 unfold Builtin.«sorted»
 refine wpAny_bind (m:=checkCount "sorted" 1 1 _) (wpAny_pure ?_)
 refine wpAny_bind (hc hh fun vs ss s' hst hperm hsm=>?_)
 have hvl:vs.length≤100000:=by rw [←ko hst,hperm.length_eq];exact Nat.le_trans (Nat.le_of_lt hz) (nb rfl)
 refine wpAny_bind (wpAny_newList ?_ (by have:=sizeLine_eq;exact n2 (Nat.le_of_eq this.symm) hvl (by simp +arith only)))
 have hoL:(s'.heap.push (seqObj "list" vs.toArray 0)).get? s'.heap.objs.size=some (seqObj "list" vs.toArray 0):=Heap.get?_push_size _ rfl
 refine wpAny_bind (wpAny_holding (wpAny_call_entry (s:={ s' with heap:=s'.heap.push (seqObj "list" vs.toArray 0) }) slot_list_sort ⟨_,hoL,rfl⟩ entry_list_sort (sZ hoL hst (hperm.nodup_iff.mpr nd) hvl fun st' a1 a2=>⟨_,rfl,?_⟩) (args_list_sort _)))
 obtain ⟨ss',h1,h2,h3⟩:=sorted_out_str hst a1 a2
 obtain ⟨e,he⟩:=sortedHeap_at (out:=(arrOf st').map (·.2)) hoL
 refine wpAny_pure ⟨_,rfl,h _ _ _ ss' e ⟨fun b o eb=>?_,hsm.gens,hsm.os⟩ ?_ he h1 (h2.trans hperm) h3⟩
 ·exact oK (hsm.heap b o eb)
 ·cases q:s.heap.get? s'.heap.objs.size with
  | none=>rfl
  | some o=>exact absurd (Heap.lt_size (hsm.heap _ o q)) (Nat.lt_irrefl _)
theorem vt {S:Addr}{ks:List Str}{Q:Value→Shared→Prop}(hh:A.handled=none)(hS:fh prog w s.heap S ks)(hz:ks.length<fH)
  (h:∀a s' (out:Array Value) ss e,yJ s s'→s.heap.get? a=none→s'.heap.get? a=some (seqObj "list" out e)→StrsAre out.toList ss→ss.Perm ks→sortedS ss=true→Q (.ref a) s') :
  wpAny (model prog w) A (call (.builtin "sorted") [.ref S]) Q E s:=vq hh hS.nd hz (fun hh h=>s8 hh hS (by unfold scanBound;exact Nat.le_trans hz (nb rfl)) h) h
end
end Internal
end
section
namespace Internal
open PySem PyProof.Rows
theorem mw:∀(p:Str) (l:List Str),risingS p l=true→(p::l).Nodup→((p::l).map (fun x=>x.cps.toList)).Pairwise (· < ·)
 | p,[],_,_=>by simp
 | p,x::r,h,hn=>by
  unfold risingS at h
  simp only [Bool.and_eq_true,Bool.not_eq_true',ltCps_eq,decide_eq_false_iff_not] at h
  obtain ⟨hn1,hn2⟩:=List.nodup_cons.mp hn
  have ih:=mw x r h.2 hn2
  have hne:p.cps.toList≠x.cps.toList:=fun q=>hn1 (by
   have:p=x:=by
    obtain ⟨⟨a⟩⟩:=p;obtain ⟨⟨b⟩⟩:=x;simp at q;subst q;rfl
   rw [this];exact List.mem_cons_self ..)
  have hpx:p.cps.toList<x.cps.toList:=by
   rcases Classical.em (p.cps.toList<x.cps.toList) with q | q
   ·exact q
   ·exact absurd (List.le_antisymm (List.not_lt.mp h.1) (List.not_lt.mp q)) hne
  rw [List.map_cons]
  refine List.pairwise_cons.mpr ⟨fun y hy=>?_,ih⟩
  rw [List.map_cons] at hy ih
  obtain ⟨i1,_⟩:=List.pairwise_cons.mp ih
  rcases List.mem_cons.mp hy with rfl | hy
  ·exact hpx
  ·exact List.lt_trans hpx (i1 y hy)
theorem s9 {l:List Str}(h:sortedS l=true)(hn:l.Nodup):(l.map (fun x=>x.cps.toList)).Pairwise (· < ·):=by
 cases l with
 | nil=>simp
 | cons p r=>exact mw p r h hn
set_option tactic.hygienic true in
theorem ig (ss:List Str):(bP ss).Nodup:=by
 have:∀(ss ks:List Str),ks.Nodup→(ss.foldl hZ ks).Nodup:=by
  intro ss
  induction ss with
  | nil=>intro ks h;exact h
  | cons s r ih=>
   intro ks h
   refine ih _ ?_
   unfold hZ
   split
   ·exact h
   ·rename_i hk
    rw [List.nodup_append]
    exact ⟨h,by simp,fun x hx y hy=>by
     have:y=s:=by simpa using hy
     subst this;intro q;subst q;exact hk hx⟩
 exact this ss [] List.nodup_nil
theorem yK {ss:List (List Nat)}{ss':List Str}(hp:ss'.Perm (bP (ss.map (fun x=>(⟨x.toArray⟩:Str)))))(hs:sortedS ss'=true):ss'.map (fun x=>x.cps.toList)=aS ss:=by
 have hn:ss'.Nodup:=hp.nodup_iff.mpr (ig _)
 refine vf (s9 hs hn) (fX ss) fun x=>?_
 rw [aE]
 constructor
 ·intro h
  obtain ⟨y,hy,rfl⟩:=List.mem_map.mp h
  have:=dt.mp (hp.mem_iff.mp hy)
  obtain ⟨z,hz,rfl⟩:=List.mem_map.mp this
  simpa using hz
 ·intro h
  refine List.mem_map.mpr ⟨⟨x.toArray⟩,hp.mem_iff.mpr (dt.mpr (List.mem_map.mpr ⟨x,h,rfl⟩)),by simp⟩
theorem vv {ss:List (List Nat)}:(bP (ss.map (fun x=>(⟨x.toArray⟩:Str)))).length=(aS ss).length:=by
 have:∀(l m:List (List Nat)),l.Nodup→m.Nodup→(∀x,x∈l↔x∈m)→l.length=m.length:=fun l m h1 h2 h=>((List.perm_ext_iff_of_nodup h1 h2).mpr h).length_eq
 have hn:((bP (ss.map (fun x=>(⟨x.toArray⟩:Str)))).map (fun x=>x.cps.toList)).Nodup:=by
  refine List.pairwise_map.mpr ((ig _).imp fun {p x} hne q=>hne ?_)
  obtain ⟨⟨a⟩⟩:=p;obtain ⟨⟨b⟩⟩:=x;simp at q;subst q;rfl
 have:=this _ (aS ss) hn ((fX ss).imp fun h q=>by subst q;exact List.lt_irrefl _ h) fun x=>by
  rw [aE]
  constructor
  ·intro h
   obtain ⟨y,hy,rfl⟩:=List.mem_map.mp h
   obtain ⟨z,hz,rfl⟩:=List.mem_map.mp (dt.mp hy)
   simpa using hz
  ·intro h
   exact List.mem_map.mpr ⟨⟨x.toArray⟩,dt.mpr (List.mem_map.mpr ⟨x,h,rfl⟩),by simp⟩
 simpa using this
end Internal
end
section
set_option backward.match.sparseCases true
namespace Internal
open PySem PyProof.Rows
section
variable {C:Glo}{F:Fm}{X:XM}{c:Cx}{n:Nat}
theorem vw {ρ:List Addr}{h:Heap}{ss:List (List Nat)}{items:List Value}(r:aA C ρ h (ss.map .str) items):StrsAre items (ss.map (fun x=>(⟨x.toArray⟩:Str)))∧∀x∈ss,x.length≤line:=by
 induction ss generalizing items with
 | nil=>rw [r.inv];exact ⟨.nil,fun x hx=>aN hx⟩
 | cons x ss ih=>
  obtain ⟨v,ws,rfl,a,b⟩:=r.inv
  obtain ⟨t,rfl,z⟩:=a.inv
  obtain ⟨h1,h2⟩:=ih b
  exact ⟨.cons _ t h1,fun y hy=>(List.mem_cons.mp hy).elim (fun e=>e▸z) (h2 y)⟩
theorem vx {ρ:List Addr}{h:Heap}{items:List Value}{ss:List Str}(r:StrsAre items ss)(hz:∀x∈ss,x.cps.toList.length≤line):aA C ρ h ((ss.map (fun x=>x.cps.toList)).map .str) items:=by
 induction r with
 | nil=>exact .nil
 | cons x t r ih=>exact .cons (.str x.cps.toList t (hz x (List.mem_cons_self ..))) (ih fun y hy=>hz y (List.mem_cons_of_mem _ hy))
set_option tactic.hygienic true in
theorem yL (cx:av C c F n){b:Bi}{args:List ME}(iargs:∀a∈args,SV C X n c F a){e z:Expr}(hz:xSS c b e=some z)(hc:bh c args [z]=true){x y:Str}{f g:Value}(hb:∀{x' y':Str},BP b x' y'=true→x'=x∧y'=y)(hm1:(x,f)∈b0)(hm2:(y,g)∈b0)(hf:(∃id,f=.builtin id)∨∃T,f=.type T)(hg:(∃id,g=.builtin id)∨∃T,g=.type T){Q:PQ}{m:MS}(h:gk (Call C) n args (fun vs m=>lP b vs Q m) X m)
  (hk:∀{ρ:List Addr}{s:Shared}{m:MS}{x:MV}{v:Value},Rel C F ρ m s→Rep C ρ s.heap x v→eh b x Q m→∀{E:Value→Shared→Prop},wpAny (mod C) F.A (call g [v]) (fun u s'=>wpAny (mod C) F.A (call f [u]) (Out C F ρ s Q) E s') E s):WPv C F X (eval e F.env) Q m:=by
 unfold xSS at hz
 replace hz:=Option.bind_eq_some_iff.mp hz
 obtain ⟨⟨x',ys,pos⟩,hx,hz⟩:=hz
 replace hz:=Option.bind_eq_some_iff.mp hz
 obtain ⟨y',hy,hz⟩:=hz
 replace hz:=Option.bind_eq_some_iff.mp hz
 obtain ⟨⟨x'',zs,pos'⟩,hx',hz⟩:=hz
 cases bU hy
 obtain ⟨px,rfl⟩:=gK hx
 obtain ⟨px',rfl⟩:=gK hx'
 split at hz
 rotate_left
 ·exact az hz
 rename_i hA
 cases bU hz
 obtain ⟨hA,g2⟩:=al hA
 obtain ⟨hA,g1⟩:=al hA
 obtain ⟨rfl,rfl⟩:=hb hA
 obtain ⟨a,rfl,hz,ha⟩:=pY hc
 intro s ρ R
 refine PyProof.Rows.Call_Name rfl (cu cx R hm1 (aK g1).1 (aK g1).2 ?_)
 refine d4 hf (by rw [bp (by rfl)];rfl) (by rw [bp (by rfl)];exact List.cons_ne_nil _ _) ?_
 rw [bp (by rfl)]
 refine Calls.spliced_cons (PyProof.Rows.Call_Name rfl (cu cx R hm2 (aK g2).1 (aK g2).2 ?_))
 refine d4 hg (by rw [bp hz];rfl) (by rw [bp hz];exact List.cons_ne_nil _ _) ?_
 rw [bp hz]
 refine Calls.spliced_cons ((iargs a (.head _) z ha _ m h).go R (.refl _ _ _) fun ρ₁ s₁ m₁ x v st t1 R₁ rx h₁=>Calls.spliced_nil ?_)
 refine wpAny_mono (hk R₁ rx h₁) (fun u s' q=>Calls.spliced_nil (wpAny_mono q (Out.back t1) fun _ _ x=>x)) fun _ _ x=>x
theorem EO (G:GOk C)(cx:av C c F n){args:List ME}(iargs:∀a∈args,SV C X n c F a){e z:Expr}(hz:xSS c .sortedSet e=some z)(hnh:c.nh=true)(hc:bh c args [z]=true){Q:PQ}{m:MS}(h:gk (Call C) n args (fun vs m=>lP .sortedSet vs Q m) X m):WPv C F X (eval e F.env) Q m:=by
 refine yL cx iargs hz hc (x:="sorted") (y:="set") (f:=.builtin "sorted") (g:=.type "set") (fun q=>?_) (bm 10 rfl) (bm 11 rfl) (.inl ⟨_,rfl⟩) (.inr ⟨_,rfl⟩) h fun {ρ₁ s₁ m₁ x v} R₁ rx h₁ {E}=>?_
 ·obtain ⟨q,q2⟩:=al q
  obtain ⟨_,q1⟩:=al q
  exact ⟨eq_of_beq q1,eq_of_beq q2⟩
 replace h₁:eh .sortedSet x Q m₁:=h₁
 obtain ⟨r,rfl,h₁⟩:=dE h₁
 obtain ⟨la,rfl,g⟩:=rx.inv
 obtain ⟨xs,hi,ss,rfl,h64,h4000,hq⟩:=bX h₁
 obtain ⟨items,n',gi,rl,zz⟩:=R₁.hp.objs _ _ _ hi g
 obtain ⟨hst,hll⟩:=vw rl
 have hil:items.length<4000:=by rw [rl.length];simpa using h4000
 refine qb (cx.hn hnh) (items:=items.toArray) ⟨_,gi,rfl,_,rfl⟩ hst (by rw [List.size_toArray];unfold scanBound;exact n1 hil (by simp +arith only)) fun h' tk hS hk=>?_
 obtain ⟨R₂,st₂⟩:=R₁.grow (s':={ s₁ with heap:=h',toks:=tk }) cx.fm hk rfl rfl
 refine (vt (cx.hn hnh) (s:={ s₁ with heap:=h',toks:=tk }) hS (by rw [vv];exact h64) fun a s' out ss' e hsm ha hout hst' hperm hsrt=>?_)
 have hset:=yK hperm hsrt
 obtain ⟨R₃,st₃⟩:=R₂.alloc (s':=s') cx.fm hsm.heap hsm.gens hsm.os (o:=.list ((aS ss).map .str)) (a:=a) ha
  ⟨out.toList,e,hout,by
   rw [←hset]
   refine vx hst' fun y hy=>?_
   have:y∈bP (ss.map (fun x=>(⟨x.toArray⟩:Str))):=hperm.mem_iff.mp hy
   obtain ⟨w,hw,rfl⟩:=List.mem_map.mp (dt.mp this)
   simpa using hll w hw,by rw [List.length_map];exact Nat.le_trans (Nat.le_of_lt h64) (nb rfl)⟩
 exact ⟨_,_,_,st₂.trans st₃,R₃,.ref (i:=m₁.heap.length) (by rw [←R₂.hp.len,List.getElem?_append_right (Nat.le_refl _)];simp),hq⟩
end
end Internal
end
section
namespace Internal
open PySem PyProof.Rows
theorem Cq {c:Cx}{b:Bi}{e z:Expr}(hb:∀x y,BP b x y=false){P:Prop}(h:xSS c b e=some z):P:=by
 obtain ⟨q,_,h⟩:=Option.bind_eq_some_iff.mp h
 obtain ⟨y,_,h⟩:=Option.bind_eq_some_iff.mp h
 obtain ⟨r,_,h⟩:=Option.bind_eq_some_iff.mp h
 rw [hb] at h
 exact az h
section
variable {C:Glo}{F:Fm}{X:XM}{ρ:List Addr}{m:MS}{s:Shared}{Q:PQ}{E:Value→Shared→Prop}{A:Around}{h:Heap}{c:Cx}{n:Nat}
theorem Cr (cx:av C c F n){args:List ME}(iargs:∀a∈args,SV C X n c F a){e z:Expr}(hz:xSS c .listRev e=some z)(hnh:c.nh=true)(hc:bh c args [z]=true){Q:PQ}{m:MS}(h:gk (Call C) n args (fun vs m=>lP .listRev vs Q m) X m):WPv C F X (eval e F.env) Q m:=Cq (fun _ _=>rfl) hz
theorem yM (G:GOk C)(R:Rel C F ρ m s)(ok:aQ F){b:Bi}(hh:jK b=true∨A.handled=none){xs:List MV}{vs:List Value}(hl:aA C ρ s.heap xs vs){n:Str}{f:Value}(hb:lG b=some (n,f))(h:lP b xs Q m):wpAny (mod C) A (call f vs) (Out C F ρ s Q) E s:=by
 by_cases q:b=.sorted
 ·subst q;exact az hb
 ·exact BK G R ok hh hl hb q h
end
end Internal
end
section
namespace Internal
open PySem PyProof.Rows
theorem Cs {C:Glo}{F:Fm}{X:XM}{c:Cx}{n:Nat}(G:GOk C)(cx:av C c F n){b:Bi}{args:List ME}(iargs:∀a∈args,SV C X n c F a):SV C X n c F (.blt b args):=by
 intro e hc Q m h
 cases hb:yq b with
 | true=>
  have hb':b=.sortedSet∨b=.listRev:=by cases b<;>first | exact .inl rfl | exact .inr rfl | exact ff hb
  rcases hb' with rfl | rfl
  ·replace hc:=ae hc
   obtain ⟨z,hz,hc⟩:=hc
   obtain ⟨hnh,hc⟩:=Bool.and_eq_true_iff.mp hc
   exact EO G cx iargs hz hnh hc h
  ·replace hc:=ae hc
   obtain ⟨z,hz,hc⟩:=hc
   obtain ⟨hnh,hc⟩:=Bool.and_eq_true_iff.mp hc
   exact Cr cx iargs hz hnh hc h
 | false=>
  replace hc:(if yq b=true then _ else _)=true:=hc
  rw [hb] at hc
  replace hc:=ae hc
  obtain ⟨⟨x,ys,pos⟩,hx,hc⟩:=hc
  obtain ⟨px,rfl⟩:=gK hx
  simp only [Bool.and_eq_true,Bool.not_eq_true'] at hc
  obtain ⟨⟨⟨⟨hnh,hg⟩,hf⟩,hne⟩,ha⟩:=hc
  have hh:jK b=true∨F.A.handled=none:=by
   rcases Bool.or_eq_true_iff.mp hnh with q | q
   ·exact .inr (cx.hn q)
   ·exact .inl q
  replace hf:=ae hf
  obtain ⟨⟨z,f⟩,hb,hf⟩:=hf
  cases eq_of_beq hf
  intro s ρ R
  refine PyProof.Rows.Call_Name rfl (cu cx R (BS hb) (aK hg).1 (aK hg).2 ?_)
  refine d4 (BU hb) (bO ha _ _) (fW ha hne _ _) ?_
  refine (nu G cx iargs ys ha _ m h pos).go R (.refl _ _ _) fun ρ₁ s₁ m₁ xs vs st t1 R₁ rl el h₁=>?_
  exact wpAny_mono (yM G R₁ cx.fm hh rl hb h₁) (Out.back t1) fun _ _ x=>x
end Internal
end
section
namespace Internal
open PySem PyProof.Rows
theorem oL {x:Str}(h:cM.contains x=true):typeLookup (.type "object") x=pure none:=by
 have key:∀y∈cM,typeLookup (.type "object") y=pure none:=by
  intro y hy
  simp only [cM,List.mem_cons,List.not_mem_nil,or_false] at hy
  rcases hy with rfl | rfl | rfl | rfl | rfl | rfl<;>(rw [typeLookup_type,builtinLookup_eq_fast];kernel_rfl)
 exact key x (by simpa using h)
theorem vy {x:Str}(h:d2.contains x=true):typeLookup (.type "object") x=pure none:=by
 have key:∀y∈d2,typeLookup (.type "object") y=pure none:=by
  intro y hy
  simp only [d2,List.mem_cons,List.not_mem_nil,or_false] at hy
  rcases hy with rfl | rfl | rfl | rfl | rfl | rfl | rfl | rfl<;>(rw [typeLookup_type,builtinLookup_eq_fast];kernel_rfl)
 exact key x (by simpa using h)
theorem qi {x:Str}{y:List Nat}(h:(x.cps.toList==y)=true):x=str y:=by
 rw [←eq_of_beq h]
section
variable {C:Glo}{F:Fm}{X:XM}{c:Cx}{n:Nat}{ρ:List Addr}{m:MS}{s:Shared}{E:Value→Shared→Prop}{A:Around}
inductive Gk (h:Heap)(K N:Addr):Prop
 | mk (nm q:Str) (bs:List Value) (sn:List Str) (sub:List Value) (col:Option Bool) (dd:Option Addr) (k0 k1 k2 k3 k5:Option Value) (e:h.get? K=some (excClassObj nm q K N bs [.type "object"] true sn sub false col dd k0 k1 k2 k3 k5 "object.__new__"))
theorem kA {h:Heap}{K N:Addr}{m:Str→Option Value}(x:ClsAt h K N m):Gk h K N:=by
 obtain ⟨nm,q,bs,sn,sub,col,dd,k0,k1,k2,k3,k5,e⟩:=x.obj
 exact ⟨nm,q,bs,sn,sub,col,dd,k0,k1,k2,k3,k5,e⟩
inductive EP (C:Glo)(ρ:List Addr)(h:Heap)(k i:Nat)(es:List (List Nat × MV))(v:Value):Prop
 | mk (a K N d:Addr) (mA:Str→Option Value) (ev:v=.ref a) (hc:C.ca k=some K) (hN:ClsAt h K N (C.cm k)) (hao:h.get? a=some (jf K d)) (hρ:ρ[i]?=some d) (hns:h.Ns1 d mA) (I:h.Inst a K mA) (had:a≠d) (haK:a≠K)
   (h1:∀x v,bn es x=some v→∃w,mA (str x)=some w∧Rep C ρ h v w) (h2:∀x,bn es x=none→mA (str x)=none)
theorem kB (G:GOk C)(R:Rel C F ρ m s){k i:Nat}{v:Value}(hx:Rep C ρ s.heap (.inst k i) v){es:List (List Nat × MV)}(hi:m.heap[i]?=some (.attrs es)):EP C ρ s.heap k i es v:=by
 obtain ⟨a,K,d,rfl,hc,hd,ha⟩:=hx.inv
 obtain ⟨mA,hn,h1,h2,h3⟩:=R.hp.objs _ _ _ hi hd
 obtain ⟨N,hN⟩:=G.cls k K hc
 have hN':=hN.keeps fun b o e=>R.hp.base b o e
 have had:a≠d:=fun q=>by
  subst q
  obtain ⟨o,es',ep,e,hdat,_⟩:=hn
  obtain rfl:=same ha e
  exact nomatch hdat
 have haK:a≠K:=fun q=>by
  subst q
  obtain ⟨nm,q,bs,sn,sub,col,dd,k0,k1,k2,k3,k5,e⟩:=kA hN'
  exact nomatch congrArg Obj.data (same ha e)
 exact ⟨a,K,N,d,mA,rfl,hc,hN',ha,hd,hn,⟨_,ha,rfl,fun c=>by simp,.inr ⟨d,rfl,Ne.symm had,hn⟩⟩,had,haK,h1,h2⟩
theorem Ct {x:MV}{v:Value}{ρ:List Addr}{h:Heap}(r:Rep C ρ h x v):handedOut v=pure v:=
 Rep.casesOn (motive_1:=fun x v _=>handedOut v=pure v) r rfl (fun _=>rfl) (fun _ _=>rfl) (fun _ _ _=>rfl) (fun _ _ _=>rfl) (fun _=>rfl) (fun _ _ _=>rfl) (fun _ _ _ _=>rfl) (fun _ _ _=>rfl) (fun _ _ _=>rfl)
theorem yO (G:GOk C)(cx:av C c F n)(R:Rel C F ρ m s){k:Nat}{x:List Nat}{y:Str}{v:MV}{w:Value}(hx:Rep C ρ s.heap v w)(hy:y=str x)(hno:cM.contains y=true)(ha:c.at_ k y=true){Q:PQ}(h:ug k x v Q m) :
  wpAny (mod C) A (getAttr w y true) (Out C F ρ s Q) E s:=by
 obtain ⟨i,rfl,h3⟩:=oc h
 obtain ⟨es,hi,h3⟩:=oa h3
 obtain ⟨u,hg,h3⟩:=b8 h3
 obtain ⟨a,K,N,da,mA,rfl,hc,hN,_,_,_,I,_,_,h1,_⟩:=kB G R hx hi
 obtain ⟨z,hz,rz⟩:=h1 x u hg
 obtain ⟨q1,q2,q3⟩:=G.quiet _ _ hc
 obtain ⟨nm,q,bs,sn,sub,col,dd,k0,k1,k2,k3,k5,e⟩:=kA hN
 obtain ⟨hp,gg,dr,t,os⟩:=s
 subst hy
 exact load_attr e hN.ns q2 (cx.attr _ _ ha) (oL hno) I hz (Ct rz) (bC R cx.fm rz h3)
theorem yP (G:GOk C)(cx:av C c F n){k:Nat}{o:ME}{x:List Nat}(io:SV C X n c F o):SV C X n c F (.attr k o x):=by
 intro e hc Q m h
 replace hc:=ae hc
 obtain ⟨⟨ov,name,apos⟩,hx,hc⟩:=hc
 have ee:=j4 hx
 subst ee
 dsimp only at hc
 obtain ⟨hc,ho⟩:=al hc
 obtain ⟨hc,h0⟩:=al hc
 obtain ⟨hc,hat⟩:=al hc
 obtain ⟨hn,hno⟩:=al hc
 have hn:=eq_of_beq hn
 have e0:=bj (eq_of_beq h0) rfl
 rw [e0] at ho ⊢
 intro s ρ R
 refine Attribute_Name_ ((io _ ho _ m h).go R (.refl _ _ _) fun ρ₁ s₁ m₁ x v st t1 R₁ rx h₁=>?_)
 exact wpAny_mono (yO G cx R₁ rx (qi (by rw [hn];exact beq_self_eq_true _)) hno hat h₁) (Out.back t1) fun _ _ x=>x
end
end Internal
end
section
set_option maxRecDepth 100000
namespace Internal
open PySem PyProof.Rows
section
variable {prog:Program}{w:World}{A:Around}{E:Value→Shared→Prop}{h:Heap}{g:Array GenState}{d:Drawn}{t:Nat}{os:OsState}
variable {nm q:Str}{K N:Addr}{bs:List Value}{sn:List Str}{sub:List Value}{col:Option Bool}{dd:Option Addr}{k0 k1 k2 k3 k5:Option Value}
noncomputable abbrev bH (h:Heap) (K:Addr):Heap:=(h.push { cls:=.type "dict",data:=.dict #[] }).push (jf K h.objs.size)
theorem tc {mN:Str→Option Value}{rest:List Value}{fI:Addr}{oI:Obj}{Q:Fin→Shared→Prop}
  (hC:h.get? K=some (excClassObj nm q K N bs [.type "object"] true sn sub false col dd k0 k1 k2 k3 k5 "object.__new__")) (hn:h.Ns N mN) (hi:mN "__init__"=some (.ref fI)) (hfI:h.get? fI=some oI) (hfc:oI.cls=.type "function")
  (hq:wpAny (model prog w) A (call (.ref fI) (.ref (h.objs.size+1)::rest)) (fun r s'=>r=.none∧Q (.done (.ret (.ref (h.objs.size+1)))) s') E ⟨bH h K,g,d,t,os⟩) :
  wpAny (model prog w) A (Builtin.«type.__call__» ⟨.ref K::rest,[]⟩) Q E ⟨h,g,d,t,os⟩:=by
 have hmro:=F.mro_object
 have hlk:typeLookup (.type "object") "__init__"=pure (some (.builtin "object.__init__")):=by rw [typeLookup_type,builtinLookup_eq_fast];kernel_rfl
 repeat (first | with_reducible refine wpAny_loadPart_at hC ?_ | with_reducible refine wpAny_madeBy_exc hC ?_ | wp_step)
 refine codeAny_call_builtin_code (Code.quiet_builtin _ F.objNew.quiet) (wpAny_check_obj_new F.objNew hC (codeAny_obj_new F.objNew hC hn hi ?_))
 show wpAny _ _ _ _ _ _
 have up:∀{b o},h.get? b=some o→(bH h K).get? b=some o:=fun e=>Heap.get?_push_of_some _ (Heap.get?_push_of_some _ e)
 have hn₁:(bH h K).Ns N mN:=let ⟨o,es,ep,e,r⟩:=hn;⟨o,es,ep,up e,r⟩
 have hget:(bH h K).get? (h.objs.size+1)=some (jf K h.objs.size):=by heap_get
 have hcC:(Value.ref K::[Value.type "object"]).contains (.ref K)=true:=by simp
 unfold isInstance
 repeat (first | with_reducible refine wpAny_loadPart_at hget ?_ | (with_reducible refine wpAny_isSubtype_exc (up hC) ?_;rw [hcC]) | wp_step)
 show wpAny _ _ (typeLookup (.ref K) _) _ _ _
 refine wpAny_typeLookup_exc (up hC) hn₁ hmro hlk ?_
 rw [hi]
 refine wpAny_holding (wpAny_bind ?_)
 unfold bindSpecial
 refine wpAny_bind (wpAny_typeOf (T:="function") ⟨_,up hfI,hfc⟩ ?_)
 rw [if_pos (by decide)]
 refine wpAny_pure (wpAny_bind (wpAny_mono hq (fun r s' hr=>?_) fun _ _ x=>x))
 obtain ⟨rfl,hQ⟩:=hr
 wp_walk
 exact hQ
theorem vz {mN:Str→Option Value}{rest:List Value}{fI:Addr}{oI:Obj}{Q:Value→Shared→Prop}
  (hC:h.get? K=some (excClassObj nm q K N bs [.type "object"] true sn sub false col dd k0 k1 k2 k3 k5 "object.__new__")) (hn:h.Ns N mN) (hi:mN "__init__"=some (.ref fI)) (hfI:h.get? fI=some oI) (hfc:oI.cls=.type "function")
  (hq:wpAny (model prog w) (A.under (.builtin "type.__call__" ⟨.ref K::rest,[]⟩)) (call (.ref fI) (.ref (h.objs.size+1)::rest)) (fun r s'=>r=.none∧Q (.ref (h.objs.size+1)) s') E ⟨bH h K,g,d,t,os⟩) :
  wpAny (model prog w) A (call (.ref K) rest) Q E ⟨h,g,d,t,os⟩:=by
 have f1:=tc_lookup
 have f2:=tc_bind (.ref K)
 have hT:(⟨h,g,d,t,os⟩:Shared).TypeIs (.ref K) "type":=⟨_,hC,rfl⟩
 refine wpAny_call (codeAny_of_tree ?_)
 show wpAny _ _ (callAny (.ref K) _) _ _ _
 repeat (any_goals (first | assumption | with_reducible refine wpAny_loadPart_at hC ?_ | wp_step))
 refine ⟨rfl,?_⟩
 refine codeAny_call_builtin_at (Code.quiet_builtin _ (by decide +kernel)) entry_typeCall (wpAny_check_type_call_sub hC (tc hC hn hi hfI hfc ?_))
 exact hq
end
section
variable {M:Model}{A:Around}{E:Value→Shared→Prop}{s:Shared}{env:Env}
theorem v9 {o:Expr}{name:Str}{apos pos:Pos}{args:List Expr}{Q:Value→Shared→Prop}(hbase:attributeBase o name env (eval o env)=eval o env)
  (hfew:((backTo pos (starEach args env)).all (fun x=>!x.1)&&(backToKw pos (keywordEach [] env)).all (fun x=>x.1.isSome)&&decide (args.length+([]:List Keyword).length+(if ([]:List Keyword).isEmpty then 0 else 1)<30))=true)
  (hline:(apos.endLine==pos.line)=true)
  (h:wpAny M A (eval o env) (fun ov s₁=>∀pl,wpAny M A (getMethod ov name pl) (fun fx s₂=>wpAny M A (callWith pos fx.1 fx.2 (backTo pos (starEach args env)) []) Q E s₂) E s₁) E s) :
  wpAny M A (eval (.Call (.Attribute o name apos) args [] pos) env) Q E s:=by
 rw [arm_eval_Call,hbase]
 refine wpAny_bind (wpAny_mono h (fun ov s₁ h₁=>?_) fun _ _ e=>e)
 refine wpAny_bind (wpAny_standAt ?_)
 have hform:methodCallForm (args.length+([]:List Keyword).length) (backTo pos (starEach args env)) (backToKw pos (keywordEach [] env))=true:=hfew
 have hpos:methodCallPos true o env apos pos=pure pos:=by unfold methodCallPos;simp [hline]
 unfold methodCall
 rw [hform]
 refine wpAny_bind (wpAny_holding (wpAny_mono (h₁ _) (fun fx s₂ h₂=>?_) fun _ _ e=>e))
 exact wpAny_bind (wpAny_of_eq hpos h₂)
end
end Internal
end
section
namespace Internal
open PySem PyProof.Rows
section
variable {C:Glo}{F:Fm}{X:XM}{c:Cx}{n:Nat}
theorem wa {k:Nat}{x:List Nat}{v:MV}{hp:List MO}(h:xV k x v hp=true):∃i es,v=.inst k i∧hp[i]?=some (.attrs es)∧bn es x=none:=by
 cases v with
 | inst d i=>
  replace h:(match hp[i]? with
   | some (.attrs es)=>k==d&&(bn es x).isNone
   | _=>false)=true:=h
  cases hi:hp[i]? with
  | none=>rw [hi] at h;exact ff h
  | some o=>
   rw [hi] at h
   cases o with
   | attrs es=>
    obtain ⟨h1,h2⟩:=al h
    obtain rfl:=eq_of_beq h1
    exact ⟨i,es,rfl,hi,Option.isNone_iff_eq_none.mp h2⟩
   | _=>exact ff h
 | _=>exact ff h
theorem td (G:GOk C)(cx:av C c F n){ρ:List Addr}{m:MS}{s:Shared}{A:Around}{E:Value→Shared→Prop}(R:Rel C F ρ m s){k f:Nat}{x:List Nat}{y:Str}{v:MV}{w:Value}(hx:Rep C ρ s.heap v w)(hu:xV k x v m.heap=true)(hy:y=str x)
  (hno:d2.contains y=true) (hm:c.mt f=some (k,y)) {Q:Value × List Value→Shared→Prop}{pl:Sem Bool}(h:∀a,C.fa f=some a→Q (.ref a,[w]) s):wpAny (mod C) A (getMethod w y pl) Q E s:=by
 obtain ⟨i,es,rfl,hi,hd⟩:=wa hu
 obtain ⟨a,K,N,da,mA,rfl,hc,hN,_,_,_,I,_,_,_,h2⟩:=kB G R hx hi
 obtain ⟨q1,q2,q3⟩:=G.quiet _ _ hc
 obtain ⟨fa,ef,em,of,ho,hcl⟩:=cx.meth _ _ _ hm
 obtain ⟨nm,q,bs,sn,sub,col,dd,k0,k1,k2,k3,k5,e⟩:=kA hN
 have ho':=R.hp.base _ _ ho
 obtain ⟨hp,gg,dr,t,os⟩:=s
 subst hy
 exact method_of e hN.ns q2 q3 em ho' hcl (vy hno) I (h2 x hd) (h fa ef)
theorem yQ (G:GOk C)(cx:av C c F n){k f:Nat}{x:List Nat}{o:ME}{args:List ME}(io:SV C X n c F o)(iargs:∀a∈args,SV C X n c F a):SV C X n c F (.umth k f x o args):=by
 intro e hc Q m h
 replace hc:=ae hc
 obtain ⟨⟨⟨ov,name,apos⟩,ys,pos⟩,hx,hc⟩:=hc
 have ee:=oj hx
 subst ee
 simp only [Bool.and_eq_true,beq_iff_eq,decide_eq_true_eq] at hc
 obtain ⟨⟨⟨⟨⟨⟨⟨⟨hn,hno⟩,hm⟩,h0⟩,hl⟩,hz⟩,hnh⟩,ho⟩,ha⟩:=hc
 have hh:F.A.handled=none∨C.hf f=true:=by
  rcases Bool.or_eq_true_iff.mp hnh with q | q
  ·exact .inl (cx.hn q)
  ·exact .inr (cx.hf▸q)
 have hy:name=str x:=qi (by rw [hn];exact beq_self_eq_true _)
 have e0:=bj h0 rfl
 rw [e0] at ho ⊢
 intro s ρ R
 have hp:=bO ha pos F.env
 refine v9 rfl ?_ (by simp [hl]) ((io _ ho _ m h).go R (.refl _ _ _) fun ρ₁ s₁ m₁ v w st t1 R₁ rx h₁ pl=>?_)
 ·rw [Bool.and_eq_true,Bool.and_eq_true]
  refine ⟨⟨?_,rfl⟩,?_⟩
  ·rw [List.all_eq_true];intro q hq
   rw [List.any_eq_false] at hp
   simpa using hp q hq
  ·simp;exact Nat.le_trans hz (nb rfl)
 ·obtain ⟨hu,h₁⟩:=gV h₁
  refine td G cx R₁ rx hu hy hno hm fun a hfa=>?_
  obtain ⟨of,fd,hof,hd⟩:=G.fns f a hfa
  have fin:∀ρ₂ s₂ m₂ xs vs,aq F.W ρ₁ s₁ ρ₂ s₂→aq F.W ρ s ρ₂ s₂→Rel C F ρ₂ m₂ s₂→aA C ρ₂ s₂.heap xs vs→Call C n f (v::xs) (fun v h=>Q v ⟨m₂.vars,h⟩) (fun c h=>X c ⟨m₂.vars,h⟩) m₂.heap→wpAny (mod C) F.A (call (.ref a) (w::vs)) (Out C F ρ s Q) (Er C F X ρ s) s₂:=by
   intro ρ₂ s₂ m₂ xs vs st2 t2 R₂ rl h₂
   refine wpAny_mono (h₂ F m₂ s₂ ρ₂ (w::vs) a cx.fm hh rfl R₂ (.cons (rx.step st2) rl) cx.room cx.units hfa) (fun v s₃ hv=>?_) fun e s' x=>Er.back t2 e s' (Er.mono (fun k m' ⟨q1,q2⟩=>by rw [←q1] at q2;exact q2) e s' x)
   obtain ⟨ρ₃,m₃,x,st3,R₃,rx,e,hq⟩:=hv
   refine ⟨ρ₃,m₃,x,t2.trans st3,R₃,rx,?_⟩
   rw [←e] at hq;exact hq
  cases ys with
  | nil=>
   cases args with
   | nil=>exact callWith_meth0 hd (R₁.hp.base _ _ hof) (fin ρ₁ s₁ m₁ [] [] (.refl _ _ _) t1 R₁ .nil h₁)
   | cons=>exact ff ha
  | cons y ys=>
   have ha':=nu G cx iargs _ ha _ m₁ h₁ pos
   have hne:=fW ha rfl pos F.env
   obtain ⟨⟨b,t⟩,trees,et⟩:=List.exists_cons_of_ne_nil hne
   rw [et] at ha' hp
   show wpAny (mod C) F.A (callWith pos (.ref a) [w] (backTo pos (starEach (y::ys) F.env)) []) _ _ _
   rw [et]
   simp only [List.any_cons,Bool.or_eq_false_iff] at hp
   obtain ⟨rfl,hp⟩:=hp
   refine Calls.callWith_function (o:=of) (fd:=fd) (Calls.evalArgs_plain (ha'.go R₁ t1 fun ρ₂ s₂ m₂ xs vs st2 t2 R₂ rl el h₂=>⟨⟨R₂.hp.base _ _ hof,hd⟩,?_⟩))
   exact fin ρ₂ s₂ m₂ xs vs st2 t2 R₂ rl h₂
end
end Internal
end
section
namespace Internal
open PySem PyProof.Rows
section
variable {C:Glo}{F:Fm}{X:XM}{c:Cx}{n:Nat}
theorem qj {v:MV}{P:Prop}(h:pK v P):v=.none∧P:=by
 cases v with
 | none=>exact ⟨rfl,h⟩
 | _=>exact h.elim
theorem yR (G:GOk C)(cx:av C c F n){k f j:Nat}(hj:n=j+1)(hm:c.mt f=some (k,("__init__":Str))){K:Addr}(hK:C.ca k=some K)(hh:F.A.handled=none){ρ:List Addr}{m:MS}{s:Shared}(R:Rel C F ρ m s){xs:List MV}{vs:List Value}(rl:aA C ρ s.heap xs vs){Q:PQ}
  (h:Call C j f (.inst k m.heap.length::xs) (fun v h=>pK v (Q (.inst k m.heap.length) ⟨m.vars,h⟩)) (fun c h=>X c ⟨m.vars,h⟩) (m.heap++[.attrs []])) :
  wpAny (mod C) F.A (call (.ref K) vs) (Out C F ρ s Q) (Er C F X ρ s) s:=by
 obtain ⟨N,hN⟩:=G.cls k K hK
 have hN':=hN.keeps fun b o e=>R.hp.base b o e
 obtain ⟨nm,q,bs,sn,sub,col,dd,k0,k1,k2,k3,k5,e⟩:=kA hN'
 obtain ⟨fa,ef,em,of,ho,hcl⟩:=cx.meth _ _ _ hm
 have ho':=R.hp.base _ _ ho
 obtain ⟨hp,gg,dr,t,os⟩:=s
 refine vz e hN'.ns em ho' hcl ?_
 have hk:∀a o,hp.get? a=some o→(bH hp K).get? a=some o:=fun a o e=>Heap.get?_push_of_some _ (Heap.get?_push_of_some _ e)
 have hd1:(bH hp K).get? hp.objs.size=some { cls:=.type "dict",data:=.dict #[] }:=by heap_get
 have hd2:(bH hp K).get? (hp.objs.size+1)=some (jf K hp.objs.size):=by heap_get
 have hns:(bH hp K).Ns1 hp.objs.size fun _=>none:=Heap.Ns1.of_empty ⟨_,#[],_,hd1,rfl,fun e he=>absurd he (by simp),fun _=>rfl⟩
 obtain ⟨R',st⟩:=R.alloc (s':=⟨bH hp K,gg,dr,t,os⟩) cx.fm hk rfl rfl (o:=.attrs []) (a:=hp.objs.size) (bB (Nat.le_refl _)) (show ui _ _ _ _ _ from ⟨_,hns,fun x v e=>(by exact az e),fun _ _=>rfl,Nat.zero_le _⟩)
 have hr:Rep C (ρ++[hp.objs.size]) (bH hp K) (.inst k m.heap.length) (.ref (hp.objs.size+1)):=
  .inst hK (by rw [←R.hp.len,List.getElem?_append_right (Nat.le_refl _)];simp) hd2
 have okF:aQ { F with A:=F.A.under (.builtin "type.__call__" ⟨.ref K::vs,[]⟩) }:=by
  obtain ⟨a1,a2,a3,a4,es,a5,a6⟩:=cx.fm
  exact ⟨a1,a2,a3,a4,es,a5,a6⟩
 have R'':Rel C { F with A:=F.A.under (.builtin "type.__call__" ⟨.ref K::vs,[]⟩) } (ρ++[hp.objs.size]) (m.push (.attrs [])) ⟨bH hp K,gg,dr,t,os⟩:=by
  obtain ⟨a1,a2,a3,a4,a5,a6,a7⟩:=R'
  exact ⟨a1,a2,a3,a4,a5,a6,a7⟩
 refine wpAny_mono (h _ (m.push (.attrs [])) _ _ (.ref (hp.objs.size+1)::vs) fa okF (.inl hh) rfl R'' (.cons hr (rl.step st)) ?_ ?_ ef) (fun v s₂ hv=>?_) fun e s' x=>Er.back st e s' ?_
 ·have:=cx.room
  show F.A.depth+1+j≤999
  exact n2 this (Nat.le_of_eq hj.symm) (by simp +arith only)
 ·have:=cx.units
  show F.A.units+1≤3 * (F.A.depth+1)+4
  exact n1 this (by simp +arith only)
 ·obtain ⟨ρ₂,m₂,x,st2,R₂,rx,ev,hq⟩:=hv
  obtain ⟨rfl,hq⟩:=qj hq
  cases rx
  refine ⟨rfl,ρ₂,m₂,_,st.trans st2,?_,hr.step st2,?_⟩
  ·obtain ⟨a1,a2,a3,a4,a5,a6,a7⟩:=R₂
   exact ⟨a1,a2,a3,a4,a5,a6,a7⟩
  ·have:m.vars=m₂.vars:=ev.symm
   rw [this] at hq;exact hq
 ·obtain ⟨ρ',m',k',a,K',h1,h2,h3,h4,h5,q1,q2⟩:=x<;>exact ⟨ρ',m',k',a,K',h1,⟨h2.hp,h2.ns,h2.w,h2.vars,h2.cells,h2.out,h2.gens⟩,h3,h4,h5,by have e:m.vars=m'.vars:=q1.symm;rw [e] at q2;exact q2⟩
theorem Cu (G:GOk C)(cx:av C c F n){k f:Nat}{args:List ME}(iargs:∀a∈args,SV C X n c F a):SV C X n c F (.new k f args):=by
 intro e hc Q m h
 replace hc:=ae hc
 obtain ⟨⟨x,ys,pos⟩,hx,hc⟩:=hc
 obtain ⟨px,rfl⟩:=gK hx
 simp only [Bool.and_eq_true,beq_iff_eq,Bool.not_eq_true'] at hc
 obtain ⟨⟨⟨⟨⟨hg,hf⟩,hm⟩,hne⟩,hnh⟩,ha⟩:=hc
 intro s ρ R
 refine PyProof.Rows.Call_Name rfl (uP cx R hf (aK hg).1 (aK hg).2 fun K hK=>?_)
 obtain ⟨N,hN⟩:=G.cls k K hK
 have hp:=bO ha pos F.env
 cases ys with
 | nil=>exact tf hne
 | cons y ys=>
  have hy:starEach (y::ys) F.env=(false,eval y F.env)::starEach ys F.env:=by
   cases args with
   | nil=>exact ff ha
   | cons=>exact bp (aW ha).1.1 _ _
  have hp2:(backTo pos (starEach ys F.env)).any (·.1)=false:=by
   cases args with
   | nil=>exact ff ha
   | cons=>exact bO (aW ha).2 _ _
  refine callWith_cls hN ?_ hy hp2
  refine (nu G cx iargs _ ha _ m h pos).go R (.refl _ _ _) fun ρ₁ s₁ m₁ xs vs st t1 R₁ rl el h₁=>⟨fun b o e=>R₁.hp.base b o e,?_⟩
  cases n with
  | zero=>exact h₁.elim
  | succ j=>exact Ej t1 (yR G cx rfl hm hK (cx.hn hnh) R₁ rl h₁)
end
end Internal
end
section
namespace Internal
open PySem PyProof.Rows
section
variable {C:Glo}{F:Fm}{X:XM}{c:Cx}{n:Nat}{ρ:List Addr}{m:MS}{s:Shared}{E:Value→Shared→Prop}{A:Around}
theorem yS {hp:List MO}{x:MV}{k:Nat}(h:ud hp x=some (.exc k)):∃r,x=.ref r∧hp[r]?=some (.exc k):=by
 cases x with
 | ref r=>
  replace h:kdO hp[r]?=some (.exc k):=h
  cases hr:hp[r]? with
  | none=>rw [hr] at h;exact az h
  | some o=>
   rw [hr] at h
   cases o with
   | exc j=>cases h;exact ⟨r,rfl,hr⟩
   | attrs=>exact az h
   | _=>exact nomatch h
 | inst=>exact az h
 | scr=>exact az h
 | gt=>exact az h
 | cdict=>exact az h
 | _=>exact nomatch h
theorem Cv (G:GOk C)(R:Rel C F ρ m s){x:MV}{v:Value}(rx:Rep C ρ s.heap x v){k:Nat}{P:Prop}(h:ud m.heap x=some (.exc k)):P:=by
 obtain ⟨r,rfl,hr⟩:=yS h
 obtain ⟨a,rfl,g⟩:=rx.inv
 obtain ⟨K,o,vs,h1,_⟩:=R.hp.objs _ _ _ hr g
 exact ba (G.x.nox k) h1
theorem yT (G:GOk C)(cx:av C c F n)(R:Rel C F ρ m s){x:MV}{v:Value}(rx:Rep C ρ s.heap x v){d:Nat}{D:Addr}(hD:C.xa d=some D){b:Bool}(h:jz m.heap x (.cls d)=some b){Q:PQ}(hq:Q (.bool b) m) :
  wpAny (mod C) A (call (.builtin "isinstance") [v,.ref D]) (Out C F ρ s Q) E s:=by
 exact ba (G.x.nox d) hD
theorem Cw (G:GOk C)(cx:av C c F n)(R:Rel C F ρ m s){x:MV}{v:Value}(rx:Rep C ρ s.heap x v){b:Bool}(h:jz m.heap x .valueError=some b){Q:PQ}(hq:Q (.bool b) m) :
  wpAny (mod C) A (call (.builtin "isinstance") [v,.type "ValueError"]) (Out C F ρ s Q) E s:=by
 obtain ⟨k,hk,h⟩:=jG h
 cases k with
 | exc k=>exact Cv G R rx hk
 | _=>exact az h
end
end Internal
end
section
namespace Internal
open PySem PyProof.Rows
section
variable {C:Glo}{F:Fm}{X:XM}{c:Cx}{n:Nat}{ρ:List Addr}{m:MS}{s:Shared}{E:Value→Shared→Prop}{A:Around}
theorem iV {t:TS}{e:Expr}(h:ke c t e=true):∃T p,e=.Name (Str.ofString T) p∧jA t=some T∧c.kind (Str.ofString T)=some .globalImplicit∧dbg (Str.ofString T)=false:=by
 replace h:=ae h
 obtain ⟨y,hy,h⟩:=h
 replace h:=ae h
 obtain ⟨T,eT,h⟩:=h
 obtain ⟨py,rfl⟩:=bZ hy
 simp only [Bool.and_eq_true,beq_iff_eq,Bool.not_eq_true'] at h
 obtain ⟨⟨rfl,hk⟩,hd⟩:=h
 exact ⟨T,py,rfl,eT,hk,hd⟩
theorem rg (cx:av C c F n)(R:Rel C F ρ m s){ρ₀:List Addr}{s₀:Shared}(t1:aq F.W ρ₀ s₀ ρ s){Q:PQ}{w u:Value}(h:wpAny (mod C) F.A (call (.builtin "isinstance") [w,u]) (fe s fun b=>Q (.bool b) m) (Er C F X ρ₀ s₀) s):wpAny (mod C) F.A (call (.builtin "isinstance") [w,u]) (Out C F ρ₀ s₀ Q) (Er C F X ρ₀ s₀) s:=
 wpAny_mono h (fun v s' hv=>by
  obtain ⟨b,rfl,m',st3,R',hq⟩:=u4 (P:=fun b m=>Q (.bool b) m) R cx.fm hv
  exact Out.back t1 _ _ ⟨_,_,_,st3,R',.bool b,hq⟩) fun _ _ x=>x
theorem Cy (G:GOk C)(cx:av C c F n)(R:Rel C F ρ m s){ρ₀:List Addr}{s₀:Shared}(t1:aq F.W ρ₀ s₀ ρ s){ty:TS}{t:Expr}(ht:Ay c ty t=true){x:MV}{v:Value}(rx:Rep C ρ s.heap x v){b:Bool}(hb:jz m.heap x ty=some b){Q:PQ}(hq:Q (.bool b) m) :
  okX t=true∧wpAny (mod C) F.A (eval t F.env) (fun u s₂=>wpAny (mod C) F.A (call (.builtin "isinstance") [v,u]) (Out C F ρ₀ s₀ Q) (Er C F X ρ₀ s₀) s₂) (Er C F X ρ₀ s₀) s:=by
 have plain:ke c ty t=true→okX t=true∧wpAny (mod C) F.A (eval t F.env) (fun u s₂=>wpAny (mod C) F.A (call (.builtin "isinstance") [v,u]) (Out C F ρ₀ s₀ Q) (Er C F X ρ₀ s₀) s₂) (Er C F X ρ₀ s₀) s:=fun ht=>by
  obtain ⟨T,p,rfl,eT,hk,hd⟩:=iV ht
  exact ⟨rfl,cu cx R (pW eT) hk hd (rg cx R t1 (BE R.hp rx hb hq T eT))⟩
 refine Classical.byContradiction fun hn=>?_
 cases ty with
 | cls d=>
  obtain ⟨y,hy,ht⟩:=ae ht
  obtain ⟨py,rfl⟩:=bZ hy
  obtain ⟨h1,h2⟩:=al ht
  exact hn ⟨rfl,uQ cx R (eq_of_beq h2) (aK h1).1 (aK h1).2 fun D hD=>wpAny_mono (yT G cx R rx hD hb hq) (Out.back t1) fun _ _ x=>x⟩
 | valueError=>
  obtain ⟨y,hy,ht⟩:=ae ht
  obtain ⟨py,rfl⟩:=bZ hy
  obtain ⟨h1,h2⟩:=al ht
  obtain rfl:=eq_of_beq h2
  exact hn ⟨rfl,cu cx R (v:=.type "ValueError") (bm 15 rfl) (aK h1).1 (aK h1).2 (wpAny_mono (Cw G cx R rx hb hq) (Out.back t1) fun _ _ x=>x)⟩
 | _=>exact hn (plain ht)
theorem ER (G:GOk C)(cx:av C c F n)(R:Rel C F ρ m s){ρ₀:List Addr}{s₀:Shared}(t1:aq F.W ρ₀ s₀ ρ s){ts:List TS}{t:Expr}(ht:u3 c ts t=true){x:MV}{v:Value}(rx:Rep C ρ s.heap x v){Q:PQ}(h:Bg ts m.heap x fun b=>Q (.bool b) m) :
  okX t=true∧wpAny (mod C) F.A (eval t F.env) (fun u s₂=>wpAny (mod C) F.A (call (.builtin "isinstance") [v,u]) (Out C F ρ₀ s₀ Q) (Er C F X ρ₀ s₀) s₂) (Er C F X ρ₀ s₀) s:=by
 rcases ts with _ | ⟨t₁,_ | ⟨t₂,_ | ⟨t₃,r⟩⟩⟩
 ·exact ff ht
 ·obtain ⟨b,hb,hq⟩:=b8 h
  exact Cy G cx R t1 ht rx hb hq
 ·obtain ⟨us,hus,ht⟩:=ae ht
  obtain ⟨⟨w1,w2⟩,hw,ht⟩:=ae ht
  obtain rfl:=m6 hw
  obtain ⟨kk,pp,rfl⟩:=g8 hus
  obtain ⟨ht1,ht2⟩:=al ht
  obtain ⟨T1,p1,rfl,e1,hk1,hd1⟩:=iV ht1
  obtain ⟨T2,p2,rfl,e2,hk2,hd2⟩:=iV ht2
  obtain ⟨b,hb,h⟩:=b8 h
  obtain ⟨b',hb',hq⟩:=b8 h
  refine ⟨rfl,wpAny_Tuple (wpAny_items_cons (cu cx R (pW e1) hk1 hd1 (wpAny_items_cons (cu cx R (pW e2) hk2 hd2 (wpAny_items_nil ⟨(by decide:2≤sizeLine),?_⟩)))))⟩
  obtain ⟨R₂,st₂⟩:=R.grow (s':={ s with heap:=s.heap.push { cls:=.type "tuple",data:=.seq #[.type T1,.type T2] } }) cx.fm (fun a o e=>Heap.get?_push_of_some _ e) rfl rfl
  exact rg cx R₂ (t1.trans st₂) (x9 R₂.hp (rx.step st₂) e1 e2 hb hb' hq (Heap.get?_push_size _ rfl))
 ·exact ff ht
theorem te {ts:List TS}{t:Expr}(h:u3 c ts t=true):okX t=true:=by
 have nm:∀{f:Str→Bool},ao (dF t) f=true→okX t=true:=fun h=>by
  obtain ⟨y,hy,_⟩:=ae h
  obtain ⟨py,rfl⟩:=bZ hy
  rfl
 rcases ts with _ | ⟨t₁,_ | ⟨t₂,_ | ⟨t₃,r⟩⟩⟩
 ·exact ff h
 ·cases t₁<;>exact nm h
 ·obtain ⟨us,hus,_⟩:=ae h
  obtain ⟨kk,pp,rfl⟩:=g8 hus
  rfl
 ·exact ff h
theorem wc (cx:av C c F n){a:ME}(ia:SV C X n c F a){v t:Expr}{pos px:Pos}(hg:cv c "isinstance"=true)(hv:okX v=true)(ha:aI c a v=true)(ho:okX t=true){PX Q:PQ}{m:MS}(h:wpE (Call C) n a PX X m)
  (k:∀{ρ₀:List Addr}{s₀:Shared}{ρ₁:List Addr}{s₁:Shared}{m₁:MS}{x:MV}{w:Value},aq F.W ρ₀ s₀ ρ₁ s₁→Rel C F ρ₁ m₁ s₁→Rep C ρ₁ s₁.heap x w→PX x m₁→wpAny (mod C) F.A (eval t F.env) (fun u s₂=>wpAny (mod C) F.A (call (.builtin "isinstance") [w,u]) (Out C F ρ₀ s₀ Q) (Er C F X ρ₀ s₀) s₂) (Er C F X ρ₀ s₀) s₁) :
  WPv C F X (eval (.Call (.Name "isinstance" px) [v,t] [] pos) F.env) Q m:=by
 intro s ρ R
 refine PyProof.Rows.Call_Name rfl (cu cx R (v:=.builtin "isinstance") (bm 7 rfl) (aK hg).1 (aK hg).2 ?_)
 refine d4 (.inl ⟨_,rfl⟩) (by rw [bp hv,bp ho];rfl) (by rw [bp hv];exact List.cons_ne_nil _ _) ?_
 rw [bp hv,bp ho]
 exact Calls.spliced_cons ((ia v ha _ m h).go R (.refl _ _ _) fun ρ₁ s₁ m₁ x v st t1 R₁ rx h₁=>Calls.spliced_cons (wpAny_mono (k t1 R₁ rx h₁) (fun w s₂ hw=>Calls.spliced_nil hw) fun _ _ e=>e))
theorem Cz (G:GOk C)(cx:av C c F n){a:ME}{ts:List TS}(ia:SV C X n c F a):SV C X n c F (.isi a ts):=by
 intro e hc Q m h
 obtain ⟨⟨x,ys,pos⟩,hx,hc⟩:=ae hc
 obtain ⟨⟨v,t⟩,hv2,hc⟩:=ae hc
 obtain rfl:=m6 hv2
 obtain ⟨px,rfl⟩:=gK hx
 obtain ⟨hc,ht⟩:=al hc
 obtain ⟨hc,ha⟩:=al hc
 obtain ⟨hc,hv⟩:=al hc
 obtain ⟨hg,hn⟩:=al hc
 obtain rfl:=eq_of_beq hn
 exact wc cx ia hg hv ha (te ht) h fun t1 R₁ rx h₁=>(ER G cx R₁ t1 ht rx h₁).2
end
end Internal
end
section
namespace Internal
open PySem PyProof.Rows
noncomputable def bb (e:Expr):Bool:=okX e&&((view e).tag != 3||(view e).u != .Not)&&(view e).tag != 4&&(view e).tag != 5
theorem lJ {e:Expr}(h:bb e=true)(env:Env)(whole:Sem Value):isTrue e env whole=(do let v ←whole;standAt e.pos;holding [v] (truthy v)):=by
 unfold bb at h
 try dsimp only at h
 obtain ⟨hA,h4⟩:=al h
 obtain ⟨hA,h3⟩:=al hA
 obtain ⟨h1,h2⟩:=al hA
 exact cL (P:=fun e=>((view e).tag != 3||(view e).u != .Not)=true→((view e).tag != 4)=true→((view e).tag != 5)=true→isTrue e env whole=(do let v ←whole;standAt e.pos;holding [v] (truthy v))) h1
  (fun _ _ _ _ _ _=>rfl) (fun _ _ _ _ _=>rfl) (fun _ _ _ _ _ _ _=>rfl) (fun o _ _ h _ _=>by cases o<;>first | rfl | exact ff h) (fun _ _ _ _ h _=>by exact ff h) (fun _ _ _ _ _ _ h=>by exact ff h) (fun _ _ _ _ _ _ _=>rfl) (fun _ _ _ _ _ _=>rfl) (fun _ _ _ _ _ _=>rfl) (fun _ _ _ _ _=>rfl) (fun _ _ _ _ _ _=>rfl) (fun _ _ _ _ _ _=>rfl) (fun _ _ _ _ _ _ _=>rfl) h2 h3 h4
theorem ti {e:Expr}{k:Nat}(h:(view e).tag=k)(hk:(k != 9&&k != 14&&k != 3&&k != 4&&k != 5)=true):bb e=true:=by
 subst h
 try dsimp only at hk
 obtain ⟨hA,h5⟩:=al hk
 obtain ⟨hA,h4⟩:=al hA
 obtain ⟨hA,h3⟩:=al hA
 obtain ⟨h1,h2⟩:=al hA
 simp [bb,okX,h1,h2,h3,h4,h5]
theorem bd {α:Type}{e:Expr}{k:Nat}{x y:α}(h:(if (view e).tag=k then some x else none)=some y)(hk:(k != 9&&k != 14&&k != 3&&k != 4&&k != 5)=true):bb e=true:=ti (bo h).1 hk
theorem fj {e:Expr}{q:Str × List Expr × Pos}(h:xFn e=some q):bb e=true:=by
 unfold xFn at h
 obtain ⟨q,h,_⟩:=Option.bind_eq_some_iff.mp h
 exact bd h rfl
theorem kC {e:Expr}{q:(Expr × Str × Pos) × List Expr × Pos}(h:lY e=some q):bb e=true:=by
 unfold lY at h
 obtain ⟨q,h,_⟩:=Option.bind_eq_some_iff.mp h
 exact bd h rfl
noncomputable def ST (C:Glo)(X:XM)(n:Nat)(c:Cx)(F:Fm)(me:ME):Prop:=
 ∀(e:Expr),aI c me e=true→∀(Q:Bool→MS→Prop) (m:MS),wpE (Call C) n me (cS Q) X m→WPt C F X (isTrue e F.env (eval e F.env)) Q m
section
variable {C:Glo}{F:Fm}{X:XM}{c:Cx}{n:Nat}
theorem we (G:GOk C)(cx:av C c F n){me:ME}(ia:SV C X n c F me)(hpl:∀e,aI c me e=true→bb e=true):ST C X n c F me:=by
 intro e hc Q m h s ρ R
 refine wpAny_isTrue_value ((ia e hc _ m h).go R (.refl _ _ _) fun ρ₁ s₁ m₁ x v st t1 R₁ rx h₁=>?_) (lJ (hpl e hc) _ _)
 obtain ⟨b,rfl,h₁⟩:=eu h₁
 cases rx;exact wpAny_truthy_bool ⟨_,_,t1,R₁,h₁⟩
theorem AD (G:GOk C)(cx:av C c F n):∀{es:List ME},(∀a∈es,ST C X n c F a)→∀(xs:List Expr),bh c es xs=true→∀(Q:Bool→MS→Prop) (m:MS),qR (Call C) n es (cS Q) X m→WPt C F X (allTrue .And xs F.env) Q m
 | [],ih,xs,hc,Q,m,h=>h.elim
 | [e],ih,xs,hc,Q,m,h=>by
  cases xs with
  | nil=>exact ff hc
  | cons x xs=>
   replace hc:=aW hc
   cases xs with
   | nil=>
    intro s ρ R
    refine wpAny_allTrue_And_cons ((ih e (by exact List.mem_singleton.mpr rfl) x hc.1.2 _ m h).go R (.refl _ _ _) fun ρ₁ s₁ m₁ b st t1 R₁ h₁=>?_)
    cases b with
    | true=>exact wpAny_allTrue_And_nil ⟨_,_,t1,R₁,h₁⟩
    | false=>exact ⟨_,_,t1,R₁,h₁⟩
   | cons=>cases hc.2
 | e::e'::es,ih,xs,hc,Q,m,h=>by
  cases xs with
  | nil=>exact ff hc
  | cons x xs=>
   replace hc:=aW hc
   intro s ρ R
   refine wpAny_allTrue_And_cons ((ih e (by exact List.mem_cons_self ..) x hc.1.2 _ m h).go R (.refl _ _ _) fun ρ₁ s₁ m₁ b st t1 R₁ h₁=>?_)
   cases b with
   | true=>exact wpAny_mono (AD G cx (fun a ha=>ih a (List.mem_cons_of_mem _ ha)) xs hc.2 Q m₁ h₁ s₁ ρ₁ R₁) (fun b s' ⟨ρ',m',a,b',c'⟩=>⟨ρ',m',t1.trans a,b',c'⟩) (Er.back t1)
   | false=>exact ⟨_,_,t1,R₁,h₁⟩
theorem ET (G:GOk C)(cx:av C c F n):∀{es:List ME},(∀a∈es,ST C X n c F a)→∀(xs:List Expr),bh c es xs=true→∀(Q:Bool→MS→Prop) (m:MS),xW (Call C) n es (cS Q) X m→WPt C F X (allTrue .Or xs F.env) Q m
 | [],ih,xs,hc,Q,m,h=>h.elim
 | [e],ih,xs,hc,Q,m,h=>by
  cases xs with
  | nil=>exact ff hc
  | cons x xs=>
   replace hc:=aW hc
   cases xs with
   | nil=>
    intro s ρ R
    refine wpAny_allTrue_Or_cons ((ih e (by exact List.mem_singleton.mpr rfl) x hc.1.2 _ m h).go R (.refl _ _ _) fun ρ₁ s₁ m₁ b st t1 R₁ h₁=>?_)
    cases b with
    | true=>exact ⟨_,_,t1,R₁,h₁⟩
    | false=>exact wpAny_allTrue_Or_nil ⟨_,_,t1,R₁,h₁⟩
   | cons=>cases hc.2
 | e::e'::es,ih,xs,hc,Q,m,h=>by
  cases xs with
  | nil=>exact ff hc
  | cons x xs=>
   replace hc:=aW hc
   intro s ρ R
   refine wpAny_allTrue_Or_cons ((ih e (by exact List.mem_cons_self ..) x hc.1.2 _ m h).go R (.refl _ _ _) fun ρ₁ s₁ m₁ b st t1 R₁ h₁=>?_)
   cases b with
   | false=>exact wpAny_mono (ET G cx (fun a ha=>ih a (List.mem_cons_of_mem _ ha)) xs hc.2 Q m₁ h₁ s₁ ρ₁ R₁) (fun b s' ⟨ρ',m',a,b',c'⟩=>⟨ρ',m',t1.trans a,b',c'⟩) (Er.back t1)
   | true=>exact ⟨_,_,t1,R₁,h₁⟩
theorem CA (G:GOk C)(cx:av C c F n){a:ME}(ia:ST C X n c F a):ST C X n c F (.not a):=by
 intro e hc Q m h
 replace hc:=ae hc
 obtain ⟨⟨o,x⟩,hx,hc⟩:=hc
 obtain ⟨p,rfl⟩:=m8 hx
 try dsimp only at hc
 obtain ⟨hE1,hc⟩:=al hc
 first | with_reducible replace hc:=eq_of_beq hc | skip
 obtain rfl:=eq_of_beq hE1
 intro s ρ R
 exact wpAny_isTrue_Not ((ia _ hc _ m h).go R (.refl _ _ _) fun ρ₁ s₁ m₁ b st t1 R₁ h₁=>⟨_,_,t1,R₁,h₁⟩)
theorem CB (G:GOk C)(cx:av C c F n){es:List ME}(ies:∀a∈es,ST C X n c F a):ST C X n c F (.and es):=by
 intro e hc Q m h
 replace hc:=ae hc
 obtain ⟨⟨o,xs⟩,hx,hc⟩:=hc
 obtain ⟨p,rfl⟩:=g6 hx
 try dsimp only at hc
 obtain ⟨hE2,hc⟩:=al hc
 first | with_reducible replace hc:=eq_of_beq hc | skip
 obtain rfl:=eq_of_beq hE2
 intro s ρ R;exact wpAny_isTrue_BoolOp (AD G cx ies _ hc _ m h s ρ R)
theorem EU (G:GOk C)(cx:av C c F n){es:List ME}(ies:∀a∈es,ST C X n c F a):ST C X n c F (.or es):=by
 intro e hc Q m h
 replace hc:=ae hc
 obtain ⟨⟨o,xs⟩,hx,hc⟩:=hc
 obtain ⟨p,rfl⟩:=g6 hx
 try dsimp only at hc
 obtain ⟨hE3,hc⟩:=al hc
 first | with_reducible replace hc:=eq_of_beq hc | skip
 obtain rfl:=eq_of_beq hE3
 intro s ρ R;exact wpAny_isTrue_BoolOp (ET G cx ies _ hc _ m h s ρ R)
theorem CC (G:GOk C)(cx:av C c F n){op:Cmp}{a b:ME}(ia:SV C X n c F a)(ib:SV C X n c F b):ST C X n c F (.cmp op a b):=by
 intro e hc Q m h
 replace hc:=ae hc
 obtain ⟨⟨l,os,rs⟩,hxx,hc⟩:=hc
 replace hc:=ae hc
 obtain ⟨o,ho,hc⟩:=hc
 replace hc:=ae hc
 obtain ⟨r,hr,hc⟩:=hc
 cases bU ho
 cases bU hr
 obtain ⟨p,rfl⟩:=g7 hxx
 try dsimp only at hc
 obtain ⟨hA,hb⟩:=al hc
 first | with_reducible replace hb:=eq_of_beq hb | skip
 obtain ⟨hA,ha⟩:=al hA
 first | with_reducible replace ha:=eq_of_beq ha | skip
 obtain ⟨hE4,hx⟩:=al hA
 first | with_reducible replace hx:=eq_of_beq hx | skip
 obtain rfl:=eq_of_beq hE4
 intro s ρ R
 exact wpAny_isTrue_Compare1 (mf G cx ia ib ha hb R h fun b ρ' m' s' st R' hq=>wpAny_truthy_bool ⟨_,_,st,R',hq⟩) (fN hx _)
theorem CD (G:GOk C)(cx:av C c F n){p:Bool}{a:ME}(ia:SV C X n c F a):ST C X n c F (.isN p a):=by
 intro e hc Q m h
 replace hc:=ae hc
 obtain ⟨⟨l,os,rs⟩,hxx,hc⟩:=hc
 replace hc:=ae hc
 obtain ⟨o,ho,hc⟩:=hc
 replace hc:=ae hc
 obtain ⟨r,hr,hc⟩:=hc
 cases bU ho
 cases bU hr
 obtain ⟨p2,rfl⟩:=g7 hxx
 try dsimp only at hc
 obtain ⟨hA,ha⟩:=al hc
 first | with_reducible replace ha:=eq_of_beq ha | skip
 obtain ⟨hE5,hn⟩:=al hA
 first | with_reducible replace hn:=eq_of_beq hn | skip
 obtain rfl:=eq_of_beq hE5
 obtain ⟨_,_,rfl⟩:=iQ hn
 intro s ρ R
 exact wpAny_isTrue_Compare1 (oA G cx ia ha R h fun b ρ' m' s' st R' hq=>wpAny_truthy_bool ⟨_,_,st,R',hq⟩) rfl
theorem aZ {α:Type}{o:Option α}{f:α→Bool}(h:ao o f=true):∃a,o=some a:=let ⟨a,h,_⟩:=ae h;⟨a,h⟩
theorem CE {v:MV}:∀e,aI c (.cst v) e=true→bb e=true:=fun e hc=>by
 obtain ⟨_,hx⟩:=aZ hc
 exact bd hx rfl
theorem CF {i:Nat}:∀e,aI c (.var i) e=true→bb e=true:=fun e hc=>by
 obtain ⟨_,hx⟩:=aZ hc
 exact bd hx rfl
theorem yU {g:Nat}{v:MV}:∀e,aI c (.glob g v) e=true→bb e=true:=fun e hc=>by
 obtain ⟨_,hx⟩:=aZ hc
 exact bd hx rfl
theorem CG {op:Op}{a b:ME}:∀e,aI c (.bin op a b) e=true→bb e=true:=fun e hc=>by
 obtain ⟨_,hx⟩:=aZ hc
 exact bd hx rfl
theorem CH {o i:ME}:∀e,aI c (.idx o i) e=true→bb e=true:=fun e hc=>by
 obtain ⟨_,hx⟩:=aZ hc
 exact bd hx rfl
theorem EV {o:ME}{lo hi:Option ME}:∀e,aI c (.sl o lo hi) e=true→bb e=true:=fun e hc=>by
 obtain ⟨_,hx⟩:=aZ hc
 exact bd hx rfl
theorem yV {es:List ME}:∀e,aI c (.list es) e=true→bb e=true:=fun e hc=>by
 obtain ⟨_,hx⟩:=aZ hc
 exact bd hx rfl
theorem CI {es:List ME}:∀e,aI c (.tup es) e=true→bb e=true:=fun e hc=>by
 obtain ⟨_,hx⟩:=aZ hc
 exact bd hx rfl
theorem wf:∀e,aI c (.dict0) e=true→bb e=true:=fun e hc=>by
 obtain ⟨_,hx⟩:=aZ hc
 exact bd hx rfl
theorem yW {elt:ME}{t:List Nat}{many:Bool}{k:IK}{src ifs:List ME}:∀e,aI c (.comp elt t many k src ifs) e=true→bb e=true:=fun e hc=>by
 obtain ⟨_,hx⟩:=aZ hc
 exact bd hx rfl
theorem yX {f:Nat}{args:List ME}:∀e,aI c (.call f args) e=true→bb e=true:=fun e hc=>by
 obtain ⟨_,hx⟩:=aZ hc
 exact fj hx
theorem CJ {a:ME}{ts:List TS}:∀e,aI c (.isi a ts) e=true→bb e=true:=fun e hc=>by
 obtain ⟨_,hx⟩:=aZ hc
 exact fj hx
theorem CL {k:Me}{o:ME}{args:List ME}:∀e,aI c (.mth k o args) e=true→bb e=true:=fun e hc=>by
 obtain ⟨_,hx⟩:=aZ hc
 exact kC hx
theorem yY {k f:Nat}{x:List Nat}{o:ME}{args:List ME}:∀e,aI c (.umth k f x o args) e=true→bb e=true:=fun e hc=>by
 obtain ⟨_,hx⟩:=aZ hc
 exact kC hx
theorem CM {k f:Nat}{args:List ME}:∀e,aI c (.new k f args) e=true→bb e=true:=fun e hc=>by
 obtain ⟨_,hx⟩:=aZ hc
 exact fj hx
theorem yZ {k:Nat}{o:ME}{x:List Nat}:∀e,aI c (.attr k o x) e=true→bb e=true:=fun e hc=>by
 obtain ⟨_,hx⟩:=aZ hc
 exact bd hx rfl
theorem CN {b:Bi}{args:List ME}:∀e,aI c (.blt b args) e=true→bb e=true:=fun e hc=>by
 replace hc:(if yq b=true then _ else _)=true:=hc
 split at hc
 ·obtain ⟨_,hx⟩:=aZ hc
  unfold xSS at hx
  obtain ⟨_,hx,_⟩:=Option.bind_eq_some_iff.mp hx
  exact fj hx
 ·obtain ⟨_,hx⟩:=aZ hc
  exact fj hx
theorem CO {a:ME}:∀e,aI c (.neg a) e=true→bb e=true:=fun e hc=>by
 replace hc:=ae hc
 obtain ⟨⟨o,x⟩,hx,hc⟩:=hc
 obtain ⟨p,rfl⟩:=m8 hx
 try dsimp only at hc
 obtain ⟨hE6,_⟩:=al hc
 obtain rfl:=eq_of_beq hE6
 rfl
end
end Internal
end
section
namespace Internal
open PySem PyProof.Rows
section
variable {M:Model}{A:Around}{E:Value→Shared→Prop}{s:Shared}{env:Env}
theorem AE {vs:List Value}{t:Sem Value}{Q:Value→Shared→Prop}(h:wpAny M A t Q E s):wpAny M A (operate vs t) Q E s:=fun Γ p hΓ=>by
 rw [Sem.wp_operate];exact h Γ p hΓ
theorem oM {l r r':Expr}{o o':CmpOp}{pos:Pos}{Q:Value→Shared→Prop}(hm':behindInMarks o' r'=false)
  (h:wpAny M A (eval l env) (fun a s₁=>wpAny M A (eval r env) (fun b s₂=>wpAny M A (compareOp o a b) (fun c s₃=>wpAny M A (truthy c) (fun t s₄=>
   match t with
   | true=>wpAny M A (eval r' env) (fun d s₅=>wpAny M A (compareOp o' b d) Q E s₅) E s₄
   | false=>Q c s₄) E s₃) E s₂) E s₁) E s):wpAny M A (eval (.Compare l [o,o'] [r,r'] pos) env) Q E s:=by
 show wpAny M A (eval l env >>= fun a=>compareChain pos a [o,o'] [eval r env,markedBehindIn o' r' (eval r' env)]) Q E s
 rw [markedBehindIn_of_false hm']
 refine wpAny_bind (wpAny_mono h (fun a s₁ h₁=>?_) fun _ _ x=>x)
 show wpAny M A (do
  let rv ←holding [a] (eval r env)
  standAt pos
  let c ←holding [a,rv] (compareOp o a rv)
  release [a,rv] [c]
  if ←holding [c,rv] (truthy c) then compareChain pos rv [o'] [eval r' env] else pure c) Q E s₁
 refine wpAny_bind (wpAny_holding (wpAny_mono h₁ (fun b s₂ h₂=>?_) fun _ _ x=>x))
 refine wpAny_bind (wpAny_standAt (wpAny_bind (wpAny_holding (wpAny_mono h₂ (fun c s₃ h₃=>?_) fun _ _ x=>x))))
 refine wpAny_bind (wpAny_release (wpAny_bind (wpAny_holding (wpAny_mono h₃ (fun t s₄ h₄=>?_) fun _ _ x=>x))))
 cases t with
 | false=>exact wpAny_pure h₄
 | true=>
  show wpAny M A (do
   let rv ←holding [b] (eval r' env)
   standAt pos
   operate [b,rv] (compareOp o' b rv)) Q E s₄
  exact wpAny_bind (wpAny_holding (wpAny_mono h₄ (fun d s₅ h₅=>wpAny_bind (wpAny_standAt (AE h₅))) fun _ _ x=>x))
theorem wg {l r r':Expr}{o o':CmpOp}{pos:Pos}{whole:Sem Value}{Q:Bool→Shared→Prop}(hm':behindInMarks o' r'=false)
  (h:wpAny M A (eval l env) (fun a s₁=>wpAny M A (eval r env) (fun b s₂=>wpAny M A (compareOp o a b) (fun c s₃=>wpAny M A (truthy c) (fun t s₄=>
   match t with
   | true=>wpAny M A (eval r' env) (fun d s₅=>wpAny M A (compareOp o' b d) (fun c s₆=>wpAny M A (truthy c) Q E s₆) E s₅) E s₄
   | false=>Q false s₄) E s₃) E s₂) E s₁) E s):wpAny M A (isTrue (.Compare l [o,o'] [r,r'] pos) env whole) Q E s:=by
 show wpAny M A (eval l env >>= fun a=>testChain pos a [o,o'] [eval r env,markedBehindIn o' r' (eval r' env)]) Q E s
 rw [markedBehindIn_of_false hm']
 refine wpAny_bind (wpAny_mono h (fun a s₁ h₁=>?_) fun _ _ x=>x)
 show wpAny M A (do
  let rv ←holding [a] (eval r env)
  standAt pos
  let c ←holding [a,rv] (compareOp o a rv)
  release [a,rv] [c]
  if ←holding [c,rv] (truthy c) then testChain pos rv [o'] [eval r' env] else pure false) Q E s₁
 refine wpAny_bind (wpAny_holding (wpAny_mono h₁ (fun b s₂ h₂=>?_) fun _ _ x=>x))
 refine wpAny_bind (wpAny_standAt (wpAny_bind (wpAny_holding (wpAny_mono h₂ (fun c s₃ h₃=>?_) fun _ _ x=>x))))
 refine wpAny_bind (wpAny_release (wpAny_bind (wpAny_holding (wpAny_mono h₃ (fun t s₄ h₄=>?_) fun _ _ x=>x))))
 cases t with
 | false=>exact wpAny_pure h₄
 | true=>
  show wpAny M A (do
   let rv ←holding [b] (eval r' env)
   standAt pos
   let c ←operate [b,rv] (compareOp o' b rv)
   holding [c] (truthy c)) Q E s₄
  exact wpAny_bind (wpAny_holding (wpAny_mono h₄ (fun d s₅ h₅=>wpAny_bind (wpAny_standAt (wpAny_bind (AE (wpAny_mono h₅ (fun c s₆ h₆=>wpAny_holding h₆) fun _ _ x=>x))))) fun _ _ x=>x))
end
section
variable {C:Glo}{F:Fm}{X:XM}{c:Cx}{n:Nat}
theorem oN {op op':Cmp}{a b d:ME}{e:Expr}(hc:aI c (.cmp2 op op' a b d) e=true):∃l r r' p,e=.Compare l [gv op,gv op'] [r,r'] p∧okX r'=true∧aI c a l=true∧aI c b r=true∧aI c d r'=true:=by
 replace hc:=ae hc
 obtain ⟨⟨l,os,rs⟩,hxx,hc⟩:=hc
 replace hc:=ae hc
 obtain ⟨⟨o,o'⟩,ho,hc⟩:=hc
 replace hc:=ae hc
 obtain ⟨⟨r,r'⟩,hr,hc⟩:=hc
 cases m6 ho
 cases m6 hr
 obtain ⟨p,rfl⟩:=g7 hxx
 simp only [Bool.and_eq_true,beq_iff_eq] at hc
 obtain ⟨⟨⟨⟨⟨⟨rfl,rfl⟩,hx⟩,hx'⟩,ha⟩,hb⟩,hd⟩:=hc
 exact ⟨l,r,r',p,rfl,hx',ha,hb,hd⟩
theorem kD (G:GOk C)(cx:av C c F n){op op':Cmp}{a b d:ME}(ia:SV C X n c F a)(ib:SV C X n c F b)(id':SV C X n c F d){l r r':Expr}(ha:aI c a l=true)(hb:aI c b r=true)(hd:aI c d r'=true){P:Bool→MS→Prop}{m:MS}{s:Shared}{ρ:List Addr}(R:Rel C F ρ m s)
  (h:wpE (Call C) n a (fun x m=>wpE (Call C) n b (fun y m=>jd op x y (fun t m=>bt t (wpE (Call C) n d (fun z m=>jd op' y z P m) X m) (P false m)) m) X m) X m) {Q Q':Value→Shared→Prop}(k:∀b ρ' m' s',aq F.W ρ s ρ' s'→Rel C F ρ' m' s'→P b m'→Q (.bool b) s') (k':∀ρ' m' s',aq F.W ρ s ρ' s'→Rel C F ρ' m' s'→P false m'→Q' (.bool false) s') :
  wpAny (mod C) F.A (eval l F.env) (fun v s₁=>wpAny (mod C) F.A (eval r F.env) (fun w s₂=>wpAny (mod C) F.A (compareOp (gv op) v w) (fun q s₃=>wpAny (mod C) F.A (truthy q) (fun t s₄=>match t with
   | true=>wpAny (mod C) F.A (eval r' F.env) (fun u s₅=>wpAny (mod C) F.A (compareOp (gv op') w u) Q (Er C F X ρ s) s₅) (Er C F X ρ s) s₄
   | false=>Q' q s₄) (Er C F X ρ s) s₃) (Er C F X ρ s) s₂) (Er C F X ρ s) s₁) (Er C F X ρ s) s:=by
 refine (ia l ha _ m h).go R (.refl _ _ _) fun ρ₁ s₁ m₁ x v st t1 R₁ rx h₁=>?_
 refine (ib r hb _ m₁ h₁).go R₁ t1 fun ρ₂ s₂ m₂ y w st' t2 R₂ ry h₂=>?_
 refine nv G cx cx.u R₂ t2 (rx.step st') ry h₂ fun t ρ₃ m₃ s₃ st3 t3 R₃ hq=>wpAny_truthy_bool ?_
 cases t with
 | false=>exact k' ρ₃ m₃ s₃ t3 R₃ hq
 | true=>
  refine (id' r' hd _ m₃ hq).go R₃ t3 fun ρ₄ s₄ m₄ z u st4 t4 R₄ rz h₄=>?_
  exact nv G cx cx.u R₄ t4 ((ry.step st3).step st4) rz h₄ fun b ρ' m' s' _ st R' hq=>k b ρ' m' s' st R' hq
theorem y1 (G:GOk C)(cx:av C c F n){op op':Cmp}{a b d:ME}(ia:SV C X n c F a)(ib:SV C X n c F b)(id':SV C X n c F d):SV C X n c F (.cmp2 op op' a b d):=by
 intro e hc Q m h
 obtain ⟨l,r,r',p,rfl,hx',ha,hb,hd⟩:=oN hc
 intro s ρ R
 exact oM (fN hx' _) (kD G cx ia ib id' (P:=fun b m=>Q (.bool b) m) ha hb hd R h (fun b ρ' m' s' st R' hq=>⟨_,_,_,st,R',.bool b,hq⟩) fun ρ' m' s' st R' hq=>⟨_,_,_,st,R',.bool _,hq⟩)
theorem y2 (G:GOk C)(cx:av C c F n){op op':Cmp}{a b d:ME}(ia:SV C X n c F a)(ib:SV C X n c F b)(id':SV C X n c F d):ST C X n c F (.cmp2 op op' a b d):=by
 intro e hc Q m h
 obtain ⟨l,r,r',p,rfl,hx',ha,hb,hd⟩:=oN hc
 intro s ρ R
 exact wg (fN hx' _) (kD G cx ia ib id' (P:=Q) (Q':=fun _ s'=>BR C F ρ s Q false s') ha hb hd R h (fun b ρ' m' s' st R' hq=>wpAny_truthy_bool ⟨_,_,st,R',hq⟩) fun ρ' m' s' st R' hq=>⟨_,_,st,R',hq⟩)
end
end Internal
end
section
namespace Internal
open PySem PyProof.Rows
section
variable {C:Glo}{F:Fm}{X:XM}{c:Cx}{n:Nat}{ρ ρ' ρ₀:List Addr}{m:MS}{s s' s₀:Shared}{A:Around}{E:Value→Shared→Prop}
theorem my {i:Nat}{t:List Nat}{xs:List Expr}(h:dp c (i::t) xs=true):∃x p r,xs=.Name x p::r∧c.nm i=some x∧lZ c x=true∧dp c t r=true:=by
 cases xs with
 | nil=>exact ff h
 | cons e r=>
  obtain ⟨h1,h2⟩:=Bool.and_eq_true_iff.mp h
  replace h1:=ae h1
  obtain ⟨x,hx,h1⟩:=h1
  obtain ⟨p,rfl⟩:=bZ hx
  simp only [Bool.and_eq_true,beq_iff_eq] at h1
  exact ⟨x,p,r,rfl,h1.1,h1.2,h2⟩
theorem oO (cx:av C c F n){Q:MS→Prop}:∀(t:List Nat) (elts:List Expr) (xs:List MV) (vs:List Value) (m:MS) (s:Shared),dp c t elts=true→t.length=xs.length→aA C ρ s.heap xs vs→Rel C F ρ m s→Q (mU t xs m)→
  wpAny (mod C) A (assignInOrder ((assignEach elts F.env).map (·.2)) vs) (fun _ s'=>∃m',aq F.W ρ s ρ s'∧Rel C F ρ m' s'∧Q m') E s
 | [],elts,xs,vs,m,s,h,hl,hr,R,hq=>by
  cases elts with
  | nil=>
   cases hr with
   | nil=>exact wpAny_pure ⟨m,.refl _ _ _,R,hq⟩
   | cons=>cases hl
  | cons=>exact ff h
 | i::t,elts,xs,vs,m,s,h,hl,hr,R,hq=>by
  obtain ⟨x,p,r,rfl,h1,h2,h3⟩:=my h
  cases hr with
  | nil=>cases hl
  | @cons x' v' xs' vs' ra rl=>
   refine wpAny_bind (wpAny_holding ?_)
   refine PyProof.Rows.assign_Name (fS cx R h1 (hJ h2) ra fun s₁ st R₁ _=>?_)
   exact wpAny_mono (oO cx t r xs' vs' _ s₁ h3 (Nat.succ.inj hl) (rl.step st) R₁ hq) (fun _ s₂ ⟨m',st2,R₂,q⟩=>⟨m',st.trans st2,R₂,q⟩) fun _ _ x=>x
theorem fk (env:Env):∀(t:List Nat) (elts:List Expr),dp c t elts=true→(assignEach elts env).length=t.length∧(assignEach elts env).findIdx? (·.1)=none
 | [],elts,h=>by
  cases elts with
  | nil=>exact ⟨rfl,rfl⟩
  | cons=>exact ff h
 | i::t,elts,h=>by
  obtain ⟨x,p,r,rfl,_,_,h3⟩:=my h
  obtain ⟨h1,h2⟩:=fk env t r h3
  refine ⟨congrArg (·+1) h1,?_⟩
  show List.findIdx? (·.1) ((false,_)::assignEach r env)=none
  rw [List.findIdx?_cons,h2];rfl
theorem iW (cx:av C c F n){Q:MS→Prop}{t:List Nat}{many:Bool}{e:Expr}(h:lH c t many e=true){x:MV}{v:Value}(hr:Rep C ρ s.heap x v)(R:Rel C F ρ m s)(hq:asg t many x Q m)(hA:many=true→A.handled=none) :
  wpAny (mod C) A (assign e F.env v) (fun _ s'=>∃m',aq F.W ρ s ρ s'∧Rel C F ρ m' s'∧Q m') E s:=by
 cases many with
 | false=>
  obtain ⟨i,y,p,rfl,rfl,h1,h2⟩:=oy h
  exact PyProof.Rows.assign_Name (fS cx R h1 (hJ h2) hr fun s₁ st R₁ _=>⟨_,st,R₁,hq⟩)
 | true=>
  replace h:=fV h
  obtain ⟨elts,k,p,rfl,h⟩:=h
  cases x with
  | tup xs=>
   have hq:t.length=xs.length∧Q (mU t xs m):=hq
   cases hr with | @tup a k _ items g rl z=>
   obtain ⟨e1,e2⟩:=fk F.env _ _ h
   refine wpAny_assign_Tuple (hA rfl) ⟨_,g,rfl,_,rfl⟩ (by rw [e1,hq.1,List.size_toArray,rl.length]) e2 fun h' he=>?_
   have hk:∀b o,s.heap.get? b=some o→h'.get? b=some o:=fun b o eb=>he b o (fun q=>by rw [q,bB (Nat.le_refl _)] at eb;exact az eb) eb
   obtain ⟨R',st⟩:=R.grow (s':={ s with heap:=h' }) cx.fm hk rfl rfl
   exact wpAny_mono (oO cx _ _ _ _ m { s with heap:=h' } h hq.1 (rl.step st) R' hq.2) (fun _ s₂ ⟨m',st2,R₂,q⟩=>⟨m',st.trans st2,R₂,q⟩) fun _ _ x=>x
  | _=>exact (show False from hq).elim
end
end Internal
end
section
namespace Internal
open PySem PyProof.Rows
section
variable {W W' S:List Addr}{ρ ρ' ρ₂:List Addr}{s s' s₂:Shared}
theorem aq.mono (hW:∀a∈W,a∈W')(x:aq W ρ s ρ' s'):aq W' ρ s ρ' s':=
 ⟨x.pre,x.new,fun a o e h1 h2=>x.keep a o e h1 fun q=>h2 (hW a q),x.solid,x.alive,x.gens,x.os⟩
theorem aq.ofSide (sd:dQ S s s')(hS:∀a∈S,a∈W)(h1:∀a∈S,Shp s.heap a)(h2:∀a∈S,Shp s'.heap a):aq W ρ s ρ s':=
 ⟨List.prefix_refl _,fun _ h=>.inl h,fun a o e _ h=>.inl (sd.1 a o (fun q=>h (hS a q)) e),dq h1 sd,fun a o e=>by
  by_cases q:a∈S
  ·obtain ⟨o',e',_⟩:=h2 a q;exact ⟨o',e'⟩
  ·exact ⟨o,sd.1 a o q e⟩,sd.2.1,sd.2.2⟩
theorem aq.behind (x:aq W ρ s ρ₂ s₂)(y:aq W' ρ₂ s₂ ρ' s')(h:∀a∈W',s.heap.get? a=none):aq W ρ s ρ' s' where
 pre:=x.pre.trans y.pre
 new:=fun a h=>(y.new a h).elim (fun h=>x.new a h) fun h=>.inr (cN x h)
 keep:=fun a o e h1 h2=>by
  have hw:a∉W':=fun q=>by rw [h a q] at e;cases e
  have h1':a∉ρ₂:=fun h=>(x.new a h).elim h1 fun h=>by rw [h] at e;cases e
  rcases x.keep a o e h1 h2 with e1 | ⟨hc,sl,e1⟩
  ·exact y.keep a o e1 h1' hw
  ·rcases y.keep a _ e1 h1' hw with e2 | ⟨_,sl2,e2⟩
   ·exact .inr ⟨hc,sl,e2⟩
   ·exact .inr ⟨hc,sl2,e2⟩
 solid:=fun a o e h=>y.solid a o (x.solid a o e h) h
 alive:=fun a o e=>let ⟨o',e'⟩:=x.alive a o e;y.alive a o' e'
 gens:=y.gens.trans x.gens
 os:=y.os.trans x.os
end
noncomputable def dJ (F:Fm)(sc:Scope)(cl:List (Str × Addr))(t:List Nat)(tn:List Str)(L:Addr):Fm where
 env:=compEnvC sc cl L F.env
 A:=F.A
 W:=[L]
 V:=F.W++F.V
 lay:=fun i=>match (t.zip tn).lookup i with
  | some x=>some (.nm L x)
  | none=>F.lay i
 frs:=F.frs
structure kE (c:Cx)(sc:Scope)(t:List Nat)(tn:List Str):Prop where
 kind:sc.kind=.function
 cell:∀p∈sc.names,p.2≠.cell
 loc:∀p∈sc.names,p.2=.local→sc.names.lookup p.1=some .local
 free:∀p∈sc.names,p.2=.free→(∃i,c.nm i=some p.1)∧c.kind p.1≠some .local∧cdc p.1=false
 len:t.length=tn.length
 nodup:t.Nodup
 nodup':tn.Nodup
 fr:∀i∈t,c.fr i=true
 tn:∀x∈tn,sc.names.lookup x=some .local
theorem tj {c:Cx}{sc:Scope}{t:List Nat}{tn:List Str}(h:nn c sc t tn=true):kE c sc t tn:=by
 simp only [nn,Bool.and_eq_true,beq_iff_eq,decide_eq_true_eq,List.all_eq_true] at h
 obtain ⟨⟨⟨⟨⟨⟨h1,h2⟩,h3⟩,h4⟩,h5⟩,h6⟩,h7⟩:=h
 refine ⟨h1,fun p hp=>?_,fun p hp e=>?_,fun p hp e=>?_,h3,h4,h5,h6,h7⟩
 ·have:=(h2 p hp).1.1;simpa using this
 ·have:=(h2 p hp).1.2
  rw [e] at this;simpa using this
 ·have:=(h2 p hp).2
  rw [e] at this
  simp only [bne_self_eq_false,Bool.false_or,uY,Bool.and_eq_true,List.any_eq_true,beq_iff_eq,bne_iff_ne,Bool.not_eq_true'] at this
  obtain ⟨⟨⟨i,_,e1⟩,e2⟩,e3⟩:=this
  exact ⟨⟨i,e1⟩,e2,e3⟩
set_option tactic.hygienic true in
theorem qk {α β:Type} [BEq α] [LawfulBEq α]:∀{l:List (α × β)}{a:α}{b:β},l.lookup a=some b→(a,b)∈l
 | [],_,_,h=>by cases h
 | (x,y)::r,a,b,h=>by
  rw [List.lookup_cons] at h
  split at h
  ·rename_i q;cases h;have:a=x:=by simpa using q
   subst this;exact List.mem_cons_self ..
  ·exact List.mem_cons_of_mem _ (qk h)
theorem ij {t:List Nat}{tn:List Str}{i:Nat}{x:Str}(h:(t.zip tn).lookup i=some x):i∈t∧x∈tn∧∃k:Nat,t[k]?=some i∧tn[k]?=some x:=by
 have hm:=qk h
 refine ⟨(List.of_mem_zip hm).1,(List.of_mem_zip hm).2,?_⟩
 obtain ⟨k,hk⟩:=List.getElem?_of_mem hm
 exact ⟨k,(List.getElem?_zip_eq_some.mp hk).1,(List.getElem?_zip_eq_some.mp hk).2⟩
theorem y3 {t:List Nat}{tn:List Str}(hn:tn.Nodup){i j:Nat}{x:Str}(h1:(t.zip tn).lookup i=some x)(h2:(t.zip tn).lookup j=some x):i=j:=by
 obtain ⟨_,_,k,a1,a2⟩:=ij h1
 obtain ⟨_,_,l,b1,b2⟩:=ij h2
 have q1:=List.getElem?_eq_some_iff.mp a2
 have q2:=List.getElem?_eq_some_iff.mp b2
 have:k=l:=(List.getElem_inj hn).mp (q1.2.trans q2.2.symm)
 subst this
 rw [a1] at b1;cases b1;rfl
theorem wi:∀{t:List Nat}{tn:List Str},t.length=tn.length→∀{i:Nat},i∈t→∃x,(t.zip tn).lookup i=some x
 | [],_,_,_,h=>by cases h
 | _::_,[],h,_,_=>by cases h
 | a::t,x::tn,hl,i,h=>by
  simp only [List.zip_cons_cons,List.lookup_cons]
  by_cases e:i=a
  ·subst e;exact ⟨x,by simp⟩
  ·rcases List.mem_cons.mp h with q | q
   ·exact absurd q e
   ·obtain ⟨y,hy⟩:=wi (by simpa using hl) q
    exact ⟨y,by rw [show (i==a)=false by simpa using e];exact hy⟩
theorem eD {kind:Str→Option NameKind}:∀{names:List (Str × NameKind)}{x:Str}{k:NameKind},names.lookup x=some k→(kf kind names).lookup x=some (if (k==.free&&kind x==some .cell) then .cell else k)
 | [],_,_,h=>by cases h
 | (y,k')::r,x,k,h=>by
  have ih:=@eD kind r x k
  show List.lookup x ((if (k'==.free&&kind y==some .cell) then (y,NameKind.cell) else (y,k'))::kf kind r)=_
  by_cases e:x=y
  ·subst e
   simp only [List.lookup_cons,beq_self_eq_true] at h
   obtain rfl:k'=k:=Option.some.inj h
   by_cases q:(k'==NameKind.free&&kind x==some .cell)=true
   ·rw [if_pos q,if_pos q];simp [List.lookup_cons]
   ·rw [if_neg q,if_neg q];simp [List.lookup_cons]
  ·have e':(x==y)=false:=by simpa using e
   simp only [List.lookup_cons,e'] at h
   by_cases q:(k'==NameKind.free&&kind y==some .cell)=true
   ·rw [if_pos q];simp only [List.lookup_cons,e'];exact ih h
   ·rw [if_neg q];simp only [List.lookup_cons,e'];exact ih h
theorem kF {env:Env}{kind:Str→Option NameKind}(h:∀x,env.kindOf x=kind x)(hk:env.scope.kind=.function)(sc:Scope):(relabel sc env).names=kf kind sc.names:=by
 unfold relabel kf
 simp only [hk,h,beq_self_eq_true,Bool.and_true]
set_option tactic.hygienic true in
theorem eE {env:Env}{f:Str × NameKind→List (Str × Addr)→Sem (ForInStep (List (Str × Addr)))}(h1:∀x a acc,env.cells.lookup x=some a→f (x,.free) acc=pure (.yield ((x,a)::acc)))
  (h2:∀x k acc,k≠.free→f (x,k) acc=pure (.yield acc)):∀(names:List (Str × NameKind)) (acc:List (Str × Addr)),(∀p∈names,p.2=.free→∃a,env.cells.lookup p.1=some a)→(∀y b,acc.lookup y=some b→env.cells.lookup y=some b)→
   ∃cl,forIn names acc f=pure cl∧(∀y b,cl.lookup y=some b→env.cells.lookup y=some b)∧(∀y,(acc.lookup y).isSome→(cl.lookup y).isSome)∧∀y,(y,NameKind.free)∈names→(cl.lookup y).isSome
 | [],acc,_,ha=>⟨acc,rfl,ha,fun _ h=>h,fun _ h=>by cases h⟩
 | (x,k)::r,acc,hn,ha=>by
  have hr:∀p∈r,p.2=.free→∃a,env.cells.lookup p.1=some a:=fun p hp=>hn p (List.mem_cons_of_mem _ hp)
  by_cases hk:k=.free
  ·subst hk
   obtain ⟨a,e⟩:=hn (x,.free) (List.mem_cons_self ..) rfl
   have ha':∀y b,((x,a)::acc).lookup y=some b→env.cells.lookup y=some b:=fun y b q=>by
    simp only [List.lookup_cons] at q
    split at q
    ·rename_i q';cases q;have:y=x:=by simpa using q'
     subst this;exact e
    ·exact ha y b q
   obtain ⟨cl,c1,c2,c3,c4⟩:=eE h1 h2 r ((x,a)::acc) hr ha'
   have hx:(((x,a)::acc).lookup x).isSome:=by simp [List.lookup_cons]
   refine ⟨cl,?_,c2,fun y hy=>c3 y ?_,fun y hy=>?_⟩
   ·rw [List.forIn_cons,h1 x a acc e];exact c1
   ·simp only [List.lookup_cons];split
    ·rfl
    ·exact hy
   ·rcases List.mem_cons.mp hy with q | q
    ·cases q;exact c3 _ hx
    ·exact c4 y q
  ·obtain ⟨cl,c1,c2,c3,c4⟩:=eE h1 h2 r acc hr ha
   refine ⟨cl,?_,c2,c3,fun y hy=>?_⟩
   ·rw [List.forIn_cons,h2 x k acc hk];exact c1
   ·rcases List.mem_cons.mp hy with q | q
    ·cases q;exact absurd rfl hk
    ·exact c4 y q
theorem ql {env:Env}{sc:Scope}(h:∀p∈sc.names,p.2=.free→∃a,env.cells.lookup p.1=some a):∃cl,closureFor sc env=pure cl∧∀x a,(x,NameKind.free)∈sc.names→env.cells.lookup x=some a→cl.lookup x=some a:=by
 obtain ⟨cl,c1,c2,_,c4⟩:=eE (env:=env) (f:=fun p cs=>if p.2==.free then do let r ←cellOf env p.1;pure (ForInStep.yield ((p.1,r)::cs)) else pure (ForInStep.yield cs))
  (fun x a acc e=>by simp [cellOf,e]) (fun x k acc hk=>by simp [hk]) sc.names [] h (fun y b q=>by cases q)
 refine ⟨cl,?_,fun x a hx e=>?_⟩
 ·unfold closureFor
  refine Eq.trans ?_ (congrArg (· >>= pure) c1)
  rfl
 ·obtain ⟨b,hb⟩:=Option.isSome_iff_exists.mp (c4 x hx)
  have:=c2 x b hb
  rw [e] at this;cases this;exact hb
section
variable {C:Glo}{F:Fm}{X:XM}{c:Cx}{n:Nat}{ρ ρ' ρ₀:List Addr}{m:MS}{s s' s₀:Shared}{sc:Scope}{cl:List (Str × Addr)}{t:List Nat}{tn:List Str}{L:Addr}
set_option tactic.hygienic true in
theorem wj (cx:av C c F n)(h:kE c sc t tn)(hL:L∉F.W++F.V):aQ (dJ F sc cl t tn L) where
 loc:=List.mem_singleton.mpr rfl
 lay:=fun i l e=>by
  simp only [dJ] at e ⊢
  split at e
  ·cases e;exact List.mem_append_left _ (List.mem_singleton.mpr rfl)
  ·exact List.mem_append_right _ (cx.fm.lay i l e)
 inj:=fun i j l e1 e2=>by
  simp only [dJ] at e1 e2
  split at e1
  ·rename_i x hx
   cases e1
   split at e2
   ·rename_i y hy;cases e2;exact y3 h.nodup' hx hy
   ·exact absurd (cx.fm.lay j _ e2) hL
  ·split at e2
   ·rename_i y hy;cases e2;exact absurd (cx.fm.lay i _ e1) hL
   ·exact cx.fm.inj i j l e1 e2
 kind:=by show (relabel sc F.env).kind=.function;exact h.kind
 frs:=cx.fm.frs
theorem tq (cx:av C c F n)(h:kE c sc t tn):∀p∈sc.names,p.2=.free→∃a,F.env.cells.lookup p.1=some a:=fun p hp e=>by
 obtain ⟨⟨i,h1⟩,h2,_⟩:=h.free p hp e
 rcases cx.nm i _ h1 with ⟨q,_⟩ | ⟨a,_,q,_⟩
 ·rw [cx.kind] at q;exact absurd q h2
 ·exact ⟨a,q⟩
set_option tactic.hygienic true in
theorem wl (cx:av C c F n)(h:kE c sc t tn)(hL:L∉F.W++F.V)(hcl:∀x a,(x,NameKind.free)∈sc.names→F.env.cells.lookup x=some a→cl.lookup x=some a):av C (d0 c sc t tn) (dJ F sc cl t tn L) n where
 fm:=wj cx h hL
 kind:=fun x=>by
  show (relabel sc F.env).names.lookup x=(kf c.kind sc.names).lookup x
  rw [kF cx.kind cx.fm.kind]
 nm:=fun i x e=>by
  have hkk:∀x,(dJ F sc cl t tn L).env.kindOf x=(kf c.kind sc.names).lookup x:=fun x=>by
   show (relabel sc F.env).names.lookup x=_
   rw [kF cx.kind cx.fm.kind]
  simp only [d0] at e
  split at e
  ·rename_i y hy
   cases e
   refine .inl ⟨?_,?_⟩
   ·rw [hkk,eD (h.tn x (ij hy).2.1)];rfl
   ·simp only [dJ,hy];rfl
  ·rename_i hy
   unfold Ax at e
   split at e
   ·rename_i y hy'
    split at e
    ·rename_i hf
     cases e
     have hf:sc.names.lookup x=some .free:=by simpa using hf
     have hm:=qk hf
     obtain ⟨_,k2,k3⟩:=h.free _ hm rfl
     rcases cx.nm i x hy' with ⟨q,_⟩ | ⟨a,q1,q2,q3⟩
     ·rw [cx.kind] at q;exact absurd q k2
     ·refine .inr ⟨a,?_,hcl x a hm q2,by simp only [dJ,hy];exact q3⟩
      rw [hkk,eD hf]
      by_cases e:c.kind x=some .cell
      ·exact .inl (by simp [e])
      ·exact .inr ⟨by simp [e],k3⟩
    ·cases e
   ·cases e
 glob:=cx.glob
 meth:=cx.meth
 attr:=cx.attr
 hn:=cx.hn
 hf:=cx.hf
 units:=cx.units
 room:=cx.room
 inter:=by
  show interactive (compEnvC sc cl L F.env)=false
  unfold interactive
  show ((relabel sc F.env).kind==_&&_)=false
  rw [show (relabel sc F.env).kind=ScopeKind.function from h.kind];rfl
 wr:=fun i a _ e=>by cases e
 fr:=fun i e=>by
  simp only [d0,Bool.and_eq_true,Bool.not_eq_true'] at e
  simp only [dJ]
  split
  ·rename_i x hx
   have:=(ij hx).1
   have e2:=e.2
   rw [List.contains_eq_mem] at e2
   simp [this] at e2
  ·exact cx.fr i e.1
set_option tactic.hygienic true in
theorem CP (cx:av C c F n)(R:Rel C F ρ m s)(h:kE c sc t tn)(hk:∀a o,s.heap.get? a=some o→s'.heap.get? a=some o)(hg:s'.gens=s.gens)(hL:s.heap.get? L=none)(hns:∃f,s'.heap.Ns L f):Rel C (dJ F sc cl t tn L) ρ m s' where
 hp:=R.hp.up (fun a o e _=>hk a o e) (fun a _ o e=>hk a o e) fun b o e=>hk b o (R.hp.base b o e)
 ns:=hns
 w:=fun a ha=>by
  have ha:a∈[L]++(F.W++F.V):=ha
  rcases List.mem_append.mp ha with q | q
  ·have:a=L:=by simpa using q
   subst this
   refine ⟨fun q=>?_,bM R.hp hL,?_⟩
   ·obtain ⟨o,e⟩:=R.hp.there q;rw [hL] at e;cases e
   ·obtain ⟨f,o,es,ep,e1,e2,_⟩:=hns
    exact ⟨o,e1,.inl ⟨es,ep,e2⟩⟩
  ·obtain ⟨h1,h2,o,h3,h4⟩:=R.w a q
   exact ⟨h1,h2,o,hk a o h3,h4⟩
 vars:=fun i v e=>by
  obtain ⟨l,h1,h2⟩:=R.vars i v e
  refine ⟨l,?_,h2.up (fun a o e _=>hk a o e) (List.prefix_refl _) (fun o e=>⟨o,hk _ o e,rfl,rfl⟩)⟩
  simp only [dJ]
  split
  ·rename_i x hx
   rw [cx.fr i (h.fr i (ij hx).1)] at h1;cases h1
  ·exact h1
 cells:=fun i a e=>by
  simp only [dJ] at e
  split at e
  ·cases e
  ·obtain ⟨v,o,h1,h2⟩:=R.cells i a e
   exact ⟨v,o,hk a o h1,h2⟩
 out:=fun L hL=>by
  obtain ⟨h1,h2,o,h3,h4⟩:=R.out L hL
  exact ⟨h1,h2,o,hk L o h3,h4⟩
 gens:=hg.trans R.gens
end
end Internal
end
section
namespace Internal
open PySem PyProof.Rows
section
variable {C:Glo}{F:Fm}{X:XM}{c:Cx}{n:Nat}{ρ ρ' ρ₀:List Addr}{m:MS}{s s' s₀:Shared}{A:Around}
theorem qm {elt target iter:Expr}{ifs:List Expr}{scope:Scope}{pos:Pos}{it acc:Value}{env:Env}{R:Result→Shared→Prop}(I:Nat→Shared→Prop)
  (turn:∀k s,I k s→wpAny (mod C) A (pyNext it) (fun r s₁=>match r with
   | none=>R (.ok .next) s₁
   | some v=>wpAny (mod C) A (letOwnedTupleGo target it v) (fun _ s₂=>wpAny (mod C) A (assign target env v) (fun _ s₃=>
     wpAny (mod C) A (forIn ifs true fun c r=>if r=true then do let ok ←isTrue c env (eval c env);pure (ForInStep.yield ok) else pure (ForInStep.yield r)) (fun ok s₄=>
      match ok with
      | true=>wpAny (mod C) A (eval elt env) (fun x s₅=>wpAny (mod C) A (call (.builtin "list.append") [acc,x]) (fun _ s₆=>∃j,j<k∧I j s₆) (fun _ _=>False) s₅) (fun _ _=>False) s₄
      | false=>∃j,j<k∧I j s₄) (fun _ _=>False) s₃) (fun _ _=>False) s₂) (fun _ _=>False) s₁) (fun _ _=>False) s)
  (k:Nat) (h:I k s):codeAny (mod C) A (.compLoop (.ListComp elt [⟨target,iter,ifs,0⟩] scope pos) 0 it acc env) R s:=by
 refine codeAny_loop rfl I (fun k s hI=>?_) k h
 show wpAny _ A ((compTurn (.ListComp elt [⟨target,iter,ifs,0⟩] scope pos) 0 it acc env).onRaise (fun x=>do noteFrame x env;theTreesLotGoes x)) _ _ s
 refine wpAny_noted ?_
 rw [compTurn_list]
 refine wpAny_bind (wpAny_standAt (wpAny_bind (wpAny_mono (turn k s hI) (fun r s₁ h₁=>?_) fun _ _ h'=>h'.elim)))
 cases r with
 | none=>exact wpAny_pure h₁
 | some v=>
  refine wpAny_bind (wpAny_mono h₁ (fun _ s₂ h₂=>wpAny_bind (wpAny_mono h₂ (fun _ s₃ h₃=>wpAny_bind (wpAny_mono h₃ (fun ok s₄ h₄=>?_) fun _ _ h'=>h'.elim)) fun _ _ h'=>h'.elim)) fun _ _ h'=>h'.elim)
  cases ok with
  | false=>exact wpAny_pure ⟨rfl,h₄⟩
  | true=>exact wpAny_bind (wpAny_bind (wpAny_mono h₄ (fun x s₅ h₅=>wpAny_bind (wpAny_mono h₅ (fun _ s₆ h₆=>wpAny_pure (wpAny_pure ⟨rfl,h₆⟩)) fun _ _ h'=>h'.elim)) fun _ _ h'=>h'.elim))
theorem wm (cx:av C c F n):∀{ifs:List ME},(∀a∈ifs,ST C X n c F a)→∀(xs:List Expr),bh c ifs xs=true→∀(Q:Bool→MS→Prop) (m:MS),jW (Call C) n ifs Q X m→
  WPt C F X (forIn xs true fun c r=>if r=true then do let ok ←isTrue c F.env (eval c F.env);pure (ForInStep.yield ok) else pure (ForInStep.yield r)) Q m
 | [],ih,xs,hc,Q,m,h=>by
  cases xs with
  | nil=>intro s ρ R;exact wpAny_pure ⟨_,_,.refl _ _ _,R,h⟩
  | cons=>exact ff hc
 | e::es,ih,xs,hc,Q,m,h=>by
  cases xs with
  | nil=>exact ff hc
  | cons x xs=>
   replace hc:=aW hc
   intro s ρ R
   rw [List.forIn_cons]
   refine wpAny_bind ?_
   show wpAny (mod C) F.A (do let ok ←isTrue x F.env (eval x F.env);pure (ForInStep.yield ok)) _ _ _
   refine wpAny_bind ((ih e (by exact List.mem_cons_self ..) x hc.1.2 _ m h).go R (.refl _ _ _) fun ρ₁ s₁ m₁ b st t1 R₁ h₁=>wpAny_pure ?_)
   show wpAny (mod C) F.A (forIn xs b fun c r=>if r=true then do let ok ←isTrue c F.env (eval c F.env);pure (ForInStep.yield ok) else pure (ForInStep.yield r)) _ _ _
   cases b with
   | true=>exact wpAny_mono (wm cx (fun a ha=>ih a (List.mem_cons_of_mem _ ha)) xs hc.2 Q m₁ h₁ s₁ ρ₁ R₁) (fun b s' ⟨ρ',m',a,b',c'⟩=>⟨ρ',m',t1.trans a,b',c'⟩) (Er.back t1)
   | false=>
    have:∀(ys:List Expr) (P:Bool→Shared→Prop) (E:Value→Shared→Prop),P false s₁→wpAny (mod C) F.A (forIn ys false fun c r=>if r=true then do let ok ←isTrue c F.env (eval c F.env);pure (ForInStep.yield ok) else pure (ForInStep.yield r)) P E s₁:=by
     intro ys
     induction ys with
     | nil=>intro P E hp;exact wpAny_pure hp
     | cons y ys ihy=>intro P E hp;rw [List.forIn_cons];exact wpAny_bind (wpAny_pure (ihy P E hp))
    exact this xs _ _ ⟨_,_,t1,R₁,h₁⟩
termination_by structural ifs=>ifs
noncomputable def Let (C:Glo)(F:Fm)(L:Addr)(ρ₀:List Addr)(s₀:Shared)(ρ:List Addr)(s:Shared):Prop:=
 ∀ρ' m' s',aq F.W ρ s ρ' s'→Rel C F ρ' m' s'→(∃f,s'.heap.Ns L f)∧∀h',Heap.SameBut L s'.heap h'→Rel C F ρ' m' { s' with heap:=h' }∧aq F.W ρ₀ s₀ ρ' { s' with heap:=h' }∧aX s'.heap h'
theorem CQ (cx:av C c F n){L:Addr}(st₀:aq F.W ρ₀ s₀ ρ s)(R₀:Rel C F ρ₀ m s₀)(h0:s₀.heap.get? L=none)(h1:L∉ρ)(h2:L∉F.W++F.V)(h3:∃f,s.heap.Ns L f):Let C F L ρ₀ s₀ ρ s:=by
 intro ρ' m' s' st R
 obtain ⟨f,hf⟩:=h3
 obtain ⟨o,es,ep,e1,e2,e3⟩:=id hf
 have hb:=bM R₀.hp h0
 have hL:L∉ρ':=fun q=>(st.new L q).elim h1 fun q=>by exact ba q e1
 have hd:∀o,s.heap.get? L=some o→∃o',s'.heap.get? L=some o'∧o'.data=o.data:=fun o e=>by
  rcases st.keep L o e h1 (fun q=>h2 (List.mem_append_left _ q)) with q | ⟨_,sl,q⟩
  ·exact ⟨_,q,rfl⟩
  ·exact ⟨_,q,rfl⟩
 have hf':s'.heap.Ns L f:=jH hf hd
 refine ⟨⟨f,hf'⟩,fun h' hs=>?_⟩
 obtain ⟨o',g1,g2⟩:=hd o e1
 have hw:WOk s'.heap L:=⟨o',g1,.inl ⟨es,ep,g2.trans e2⟩⟩
 have hsol:aX s'.heap h':=cc (fun b ob q e=>(hs.2 b q).trans e) (gu hw)
 have sd:dQ [L] s' { s' with heap:=h' }:=⟨fun b ob hb e=>(hs.2 b (by exact fun q=>hb (List.mem_singleton.mpr q))).trans e,rfl,rfl⟩
 refine ⟨R.side0 cx.fm hsol (fun a ha=>?_) (fun L' hL' q=>?_) sd,(st₀.trans st).side sd (fun a ha=>?_),hsol⟩
 ·have:a=L:=by exact List.mem_singleton.mp ha
  subst this;exact ⟨hL,h2,hb⟩
 ·have:L'=L:=by exact List.mem_singleton.mp q
  subst this
  obtain ⟨_,_,ob,k5,_⟩:=R₀.out _ hL'
  exact ba h0 k5
 ·have:a=L:=by exact List.mem_singleton.mp ha
  subst this;exact h0
end
end Internal
end
section
namespace Internal
open PySem PyProof.Rows
section
variable {C:Glo}{F:Fm}{X:XM}{c:Cx}{n:Nat}{ρ ρ' ρ₀:List Addr}{m:MS}{s s' s₀:Shared}{A:Around}
noncomputable def KpU (U:List Addr)(s s':Shared):Prop:=∀a∈U,∀o,s.heap.get? a=some o→s'.heap.get? a=some o
theorem KpU.trans {U:List Addr}{s s' s'':Shared}(x:KpU U s s')(y:KpU U s' s''):KpU U s s'':=fun a h o e=>y a h o (x a h o e)
inductive Gl (C:Glo)(F:Fm)(U:List Addr)(ρ:List Addr)(s:Shared)(P:MS→Prop)(s':Shared):Prop
 | mk (m':MS) (st:aq F.W ρ s ρ s') (R:Rel C F ρ m' s') (h:P m') (k:KpU U s s')
inductive Gm (C:Glo)(F:Fm)(U:List Addr)(ρ:List Addr)(s:Shared)(P:Bool→MS→Prop)(b:Bool)(s':Shared):Prop
 | mk (ρ':List Addr) (m':MS) (st:aq F.W ρ s ρ' s') (R:Rel C F ρ' m' s') (h:P b m') (k:KpU U s s')
inductive Gp (C:Glo)(F:Fm)(U:List Addr)(ρ:List Addr)(s:Shared)(P:PQ)(w:Value)(s':Shared):Prop
 | mk (ρ':List Addr) (m':MS) (y:MV) (st:aq F.W ρ s ρ' s') (R:Rel C F ρ' m' s') (r:Rep C ρ' s'.heap y w) (h:P y m') (k:KpU U s s')
structure y4 (C:Glo)(n:Nat)(F:Fm)(U:List Addr)(target elt':Expr)(ifs':List Expr)(t:List Nat)(many:Bool)(elt:ME)(ifs:List ME):Prop where
 asg:∀{ρ:List Addr} {m:MS} {s:Shared} {x:MV} {v:Value} {P:MS→Prop},(∀a∈U,a∈ρ)→Rel C F ρ m s→Rep C ρ s.heap x v→Internal.asg t many x P m→wpAny (mod C) F.A (assign target F.env v) (fun _ s'=>Gl C F U ρ s P s') (fun _ _=>False) s
 ifs:∀{ρ:List Addr} {m:MS} {s:Shared} {P:Bool→MS→Prop},(∀a∈U,a∈ρ)→Rel C F ρ m s→jW (Call C) n ifs P noX m→wpAny (mod C) F.A (forIn ifs' true fun c r=>if r=true then do let ok ←isTrue c F.env (eval c F.env);pure (ForInStep.yield ok) else pure (ForInStep.yield r)) (Gm C F U ρ s P) (fun _ _=>False) s
 elt:∀{ρ:List Addr} {m:MS} {s:Shared} {P:PQ},(∀a∈U,a∈ρ)→Rel C F ρ m s→wpE (Call C) n elt P noX m→wpAny (mod C) F.A (eval elt' F.env) (Gp C F U ρ s P) (fun _ _=>False) s
theorem qn {c':Cx}(cx':av C c' F n)(hnh:c'.nh=true){target elt':Expr}{ifs':List Expr}{elt:ME}{ifs:List ME}{t:List Nat}{many:Bool}(helt:SV C noX n c' F elt)(hce:aI c' elt elt'=true)(hifs:∀a∈ifs,ST C noX n c' F a)(hci:bh c' ifs ifs'=true)(ht:lH c' t many target=true):y4 C n F [] target elt' ifs' t many elt ifs where
 asg:=fun _ R rv h=>wpAny_mono (iW cx' ht rv R h fun _=>cx'.hn hnh) (fun _ s' ⟨m',a,b,c⟩=>⟨m',a,b,c,fun _ h=>aN h⟩) fun _ _ x=>x
 ifs:=fun _ R h=>wpAny_mono ((wm cx' hifs ifs' hci _ _ h) _ _ R) (fun b s' ⟨ρ',m',a,b',c⟩=>⟨ρ',m',a,b',c,fun _ h=>aN h⟩) fun _ _ x=>Er.no x
 elt:=fun _ R h=>wpAny_mono ((helt elt' hce _ _ h) _ _ R) (fun w s' ⟨ρ',m',y,a,b,c,d⟩=>⟨ρ',m',y,a,b,c,d,fun _ h=>aN h⟩) fun _ _ x=>Er.no x
inductive EW (C:Glo)(F:Fm)(W:List Addr)(items:List MV)(g:Gd)(stp:MV→(Option MV→MS→Prop)→MS→Prop)(Q:List MV→MS→Prop)(D:Addr)(S:List Addr)(It:Nat→List Addr→Shared→Prop)(ρ₀:List Addr)(s₀:Shared)(k:Nat)(s:Shared):Prop
 | mk (ρ:List Addr) (m:MS) (i:Nat) (acc:List MV) (accv:List Value) (k₁:Nat) (hk:k=items.length-i) (st:aq W ρ₀ s₀ ρ s) (R:Rel C F ρ m s) (hit:It i ρ s) (as:cI C F ρ s.heap (D::S)) (hD:s.heap.get? D=some (cW accv k₁)) (rl:aA C ρ s.heap acc accv) (hal:acc.length≤i) (hil:i≤items.length) (hf:cq g stp Q (items.drop i) acc m)
theorem tu {F':Fm}(ok:aQ F'){L D:Addr}(hW:F'.W=[L]){target elt' iter:Expr}{ifs':List Expr}{elt:ME}{ifs:List ME}{t:List Nat}{many:Bool}{sc:Scope}{pos:Pos}{itv:Value}{items:List MV}{g:Gd}{S U:List Addr}{It:Nat→List Addr→Shared→Prop}
  (wk:nq C F'.A target itv items g S U It) (hlen:items.length≤line) (T:y4 C n F' U target elt' ifs' t many elt ifs) (hU:∀a∈U,a∈ρ)
  {stp:MV→(Option MV→MS→Prop)→MS→Prop}(hstp:∀v P m,stp v P m→asg t many v (fun m=>jW (Call C) n ifs (Bh (wpE (Call C) n elt) P) noX m) m)
  {Q:List MV→MS→Prop}(R:Rel C F' ρ m s) (h0:It 0 ρ s) (as:cI C F' ρ s.heap (D::S)) (hDS:D∉S) {k₀:Nat}(hD:s.heap.get? D=some (cW [] k₀))
  (h:cq g stp Q items [] m)
  {RR:Result→Shared→Prop}(hk:∀ρ' m' s₁ s' acc accv k,aq (L::D::S) ρ s ρ' s₁→dQ S s₁ s'→aX s₁.heap s'.heap→Rel C F' ρ' m' s'→s'.heap.get? D=some (cW accv k)→aA C ρ' s'.heap acc accv→acc.length≤line→Q acc m'→RR (.ok .next) s') :
  codeAny (mod C) F'.A (.compLoop (.ListComp elt' [⟨target,iter,ifs',0⟩] sc pos) 0 itv (.ref D) F'.env) RR s:=by
 refine qm (EW C F' (L::D::S) items g stp Q D S It ρ s) (fun k s₁ hI=>?_) _ ⟨ρ,m,0,[],[],k₀,rfl,.refl _ _ _,R,h0,as,hD,.nil,Nat.le_refl _,Nat.zero_le _,by exact h⟩
 obtain ⟨ρ₁,m₁,i,acc,accv,k₁,rfl,st₁,R₁,hit,as₁,hD₁,rl,hal,hil,hf⟩:=hI
 have hsub:∀a∈S,a∈L::D::S:=fun a ha=>List.mem_cons_of_mem _ (List.mem_cons_of_mem _ ha)
 have hsubD:∀a∈[D],a∈L::D::S:=fun a ha=>by
  have:a=D:=by exact List.mem_singleton.mp ha
  subst this;exact List.mem_cons_of_mem _ (List.mem_cons_self ..)
 have hsubL:∀a∈F'.W,a∈L::D::S:=fun a ha=>by
  rw [hW] at ha
  have:a=L:=by exact List.mem_singleton.mp ha
  subst this;exact List.mem_cons_self ..
 have asS:cI C F' ρ₁ s₁.heap S:=fun a ha=>as₁ a (List.mem_cons_of_mem _ ha)
 cases e:items[i]? with
 | none=>
  have hd:items.drop i=[]:=by rw [List.drop_eq_nil_iff];exact List.getElem?_eq_none_iff.mp e
  rw [hd,iO] at hf
  obtain ⟨hg,hq⟩:=hf
  refine wpAny_mono (wk.done i ρ₁ m₁.heap s₁ R₁.hp hg hit e (fun _ _=>False) (fun s₂=>dQ S s₁ s₂) fun s₂ sd=>sd) (fun r s₂ ⟨hr,sd⟩=>?_) fun _ _ x=>x.elim
  subst hr
  have hsol:=asS.solids sd
  exact hk ρ₁ m₁ s₁ s₂ acc accv k₁ st₁ sd hsol (R₁.side ok asS sd) (sd.1 D _ hDS hD₁) (rl.up hsol (List.prefix_refl _)) (Nat.le_trans hal (Nat.le_trans hil hlen)) hq
 | some x=>
  obtain ⟨hlt,hx⟩:=List.getElem?_eq_some_iff.mp e
  rw [List.drop_eq_getElem_cons hlt,hx,ej] at hf
  obtain ⟨hg,hq⟩:=hf
  refine wk.item i ρ₁ m₁.heap s₁ x R₁.hp hg hit e _ _ _ fun v s₂ sd hit' rv=>?_
  have hsol:=asS.solids sd
  have R₂:=R₁.side ok asS sd
  have sh₂:=wk.shape _ _ _ hit'
  have hD₂:=sd.1 D _ hDS hD₁
  have as₂:cI C F' ρ₁ s₂.heap (D::S):=as₁.shape fun a ha=>by
   rcases List.mem_cons.mp ha with rfl | ha
   ·exact cw hD₂ rfl (by decide) (fun ⟨_,_,q⟩=>by cases q) a (by exact List.mem_singleton.mpr rfl)
   ·exact sh₂ a ha
  have rl₂:=rl.up hsol (List.prefix_refl _)
  have st₂:=st₁.trans (aq.ofSide sd hsub (fun a ha=>(asS a ha).2.2.2) sh₂)
  have hU₁:∀a∈U,a∈ρ₁:=fun a ha=>st₁.pre.subset (hU a ha)
  refine wpAny_mono (T.asg hU₁ R₂ rv (hstp _ _ _ hq)) (fun _ s₃ h₃=>?_) fun _ _ x=>x
  obtain ⟨m₃,st₃,R₃,hq₃,ku₃⟩:=h₃
  refine wpAny_mono (T.ifs hU₁ R₃ hq₃) (fun b s₄ h₄=>?_) fun _ _ x=>x
  obtain ⟨ρ₄,m₄,st₄,R₄,h₄,ku₄⟩:=h₄
  have t₄:=st₃.trans st₄
  have ku₄:=ku₃.trans ku₄
  obtain ⟨as₄,kp₄⟩:=as₂.step t₄
  cases b with
  | false=>exact ⟨_,Nat.sub_succ_lt_self _ _ hlt,ρ₄,m₄,i+1,acc,accv,k₁,rfl,st₂.trans (t₄.mono hsubL),R₄,wk.keep _ _ _ _ _ hit' t₄.pre t₄.solid (fun a ha=>(List.mem_append.mp ha).elim (fun ha=>kp₄ a (List.mem_cons_of_mem _ ha)) (ku₄ a)),as₄,kp₄ D (List.mem_cons_self ..) _ hD₂,rl₂.step t₄,Nat.le_succ_of_le hal,hlt,h₄⟩
  | true=>
   refine wpAny_mono (T.elt (fun a ha=>t₄.pre.subset (hU₁ a ha)) R₄ h₄) (fun w s₅ h₅=>?_) fun _ _ x=>x
   obtain ⟨ρ₅,m₅,y,st₅,R₅,ry,h₅,ku₅⟩:=h₅
   have t₅:=t₄.trans st₅
   have ku₅:=ku₄.trans ku₅
   obtain ⟨as₅,kp₅⟩:=as₂.step t₅
   have hD₅:=kp₅ D (List.mem_cons_self ..) _ hD₂
   have rl₅:=rl₂.step t₅
   refine PySem.wpAny_list_append_plain ⟨_,hD₅⟩ (fun h' hl hs=>?_) (by rw [List.size_toArray,rl₅.length];exact Nat.le_trans hal (Nat.le_trans (Nat.le_of_lt hlt) hlen))
   obtain ⟨k₆,hl⟩:=hl
   have sd₆:dQ [D] s₅ { s₅ with heap:=h' }:=⟨fun b ob hb e=>(hs.2 b (by exact fun q=>hb (List.mem_singleton.mpr q))).trans e,rfl,rfl⟩
   have asD:cI C F' ρ₅ s₅.heap [D]:=fun a ha=>as₅ a (by
    have:a=D:=by exact List.mem_singleton.mp ha
    subst this;exact List.mem_cons_self ..)
   have hsol₆:=asD.solids sd₆
   have hD₆:h'.get? D=some (cW (accv++[w]) k₆):=by rw [hl];simp
   have shD:∀a∈[D],Shp h' a:=cw hD₆ rfl (by decide) (fun ⟨_,_,q⟩=>by cases q)
   have kS:∀a∈S,∀o,s₅.heap.get? a=some o→h'.get? a=some o:=fun a ha o e=>sd₆.1 a o (fun q=>by
    have:a=D:=by exact List.mem_singleton.mp q
    subst this;exact hDS ha) e
   refine ⟨_,Nat.sub_succ_lt_self _ _ hlt,ρ₅,m₅,i+1,acc++[y],accv++[w],k₆,rfl,(st₂.trans (t₅.mono hsubL)).trans (aq.ofSide sd₆ hsubD (fun a ha=>(asD a ha).2.2.2) shD),R₅.side ok asD sd₆,
    wk.keep _ _ _ _ _ hit' t₅.pre (fun a o e h=>hsol₆ a o (t₅.solid a o e h) h) (fun a ha o e=>(List.mem_append.mp ha).elim (fun ha=>kS a ha o (kp₅ a (List.mem_cons_of_mem _ ha) o e)) fun ha=>sd₆.1 a o (fun q=>(asD a q).1 (t₅.pre.subset (hU₁ a ha))) (ku₅ a ha o e)),as₅.shape (fun a ha=>?_),hD₆,
    (rl₅.append (.cons ry .nil)).up hsol₆ (List.prefix_refl _),(by rw [List.length_append];exact Nat.succ_le_succ hal),hlt,h₅⟩
   rcases List.mem_cons.mp ha with rfl | ha
   ·exact shD a (by exact List.mem_singleton.mpr rfl)
   ·obtain ⟨o,e1,e2⟩:=(as₅ a (List.mem_cons_of_mem _ ha)).2.2.2
    exact ⟨o,kS a ha o e1,e2⟩
end
end Internal
end
section
namespace Internal
open PySem PyProof.Rows
section
variable {C:Glo}{F:Fm}{X:XM}{c:Cx}{n:Nat}{ρ ρ' ρ₀:List Addr}{m:MS}{s s' s₀:Shared}{A:Around}
theorem wn (G:GOk C){c':Cx}(cx':av C c' F n){U:List Addr}{target elt':Expr}{ifs':List Expr}{elt:ME}{ifs:List ME}{t:List Nat}{many:Bool}(hs:(qO&&u0 elt t many ifs)=true)(hce:aI c' elt elt'=true)(hci:bh c' ifs ifs'=true)(ht:lH c' t many target=true):y4 C n F U target elt' ifs' t many elt ifs:=ff hs
end
end Internal
end
section
namespace Internal
open PySem PyProof.Rows
section
variable {C:Glo}{F:Fm}{X:XM}{c:Cx}{n:Nat}{ρ ρ' ρ₀:List Addr}{m:MS}{s s' s₀:Shared}{A:Around}
theorem rh (G:GOk C)(cx:av C c F n)(hnh:c.nh=true){elt:ME}{t:List Nat}{many:Bool}{k:IK}{src ifs:List ME}{elt':Expr}{g:Comprehension}{sc:Scope}{pos p':Pos}{xs:List Expr}
  (hasync:g.is_async=0) (hx:okX g.iter=true) (hen:ki k=true→many=true) (hsel:kg k=true→(qO&&u0 elt t many ifs)=true) (hco:nn c sc t (bF g.target)=true) (hxs:kh c k g.iter=some xs) (hcs:bh c src xs=true)
  (ht:lH (d0 c sc t (bF g.target)) t many g.target=true) (hci:bh (d0 c sc t (bF g.target)) ifs g.ifs=true) (hce:aI (d0 c sc t (bF g.target)) elt elt'=true)
  (hsrc:∀a∈src,SV C X n c F a) (helt:∀F',av C (d0 c sc t (bF g.target)) F' n→SV C noX n (d0 c sc t (bF g.target)) F' elt)
  (hifs:∀F',av C (d0 c sc t (bF g.target)) F' n→∀a∈ifs,ST C noX n (d0 c sc t (bF g.target)) F' a)
  {Q:PQ}(h:wpE (Call C) n (.comp elt t many k src ifs) Q X m) (R:Rel C F ρ m s) {use:Option (Value→Sem Unit)}{QQ:Value→Shared→Prop}
  (hk:∀D L ρ' m' s' i,aq F.W ρ s ρ' s'→Rel C F ρ' m' s'→Rep C ρ' s'.heap (.ref i) (.ref D)→Q (.ref i) m'→Let C F L ρ s ρ' s'→compPost (mod C) F.A (Er C F X ρ s) use QQ (.ref D) L (.ok .next) s') :
  wpAny (mod C) F.A (comprehension (.ListComp elt' [g] sc pos) sc F.env p' (newList []) false (eval g.iter F.env) use) QQ (Er C F X ρ s) s:=by
 obtain ⟨target,iter,ifs',isa⟩:=g
 replace h:gk (Call C) n src _ X m:=h
 simp only at *
 subst hasync
 have hCO:=tj hco
 obtain ⟨cl,hcl,hcl'⟩:=ql (tq cx hCO)
 have htt:=jk ht
 refine wpAny_comprehension_free rfl (j5 hx _) hcl hCO.kind hCO.loc (wpAny_mono (qZ G cx hnh hsrc hxs hcs htt (fun e=>by have:=hen e;subst this;obtain ⟨a,b,d,e,_⟩:=fV ht;exact ⟨a,b,d,e,trivial⟩)
  (P:=fun items g m=>cq g (fun v P m=>asg t many v (fun m=>jW (Call C) n ifs (Bh (wpE (Call C) n elt) P) noX m) m) (fun acc m'=>Q (.ref m'.heap.length) ⟨m.vars,m'.heap++[.list acc]⟩) items [] m) h R) (fun xv s₁ h₁=>wpAny_mono h₁ (fun itv s₂ h₂=>?_) fun _ _ x=>x) fun _ _ x=>x)
 obtain ⟨ρ₂,m₂,items,gg,S,U,It,st₂,R₂,wk,h0,as,hS,hlen,hP,hU,hUr⟩:=h₂
 refine wpAny_newObj_type (wpAny_newFunctionEnv hCO.cell (by intro y hy;exact aN hy) (fun h₁ hns₁ hsb₁=>?_) hCO.kind)
 dsimp only at hns₁ hsb₁ ⊢
 generalize hH2:s₂.heap.push { cls:=.type "list",dict:=none,data:=.seq ([]:List Value).toArray }=H2 at hns₁ hsb₁ ⊢
 have hC:H2.objs.size=s₂.heap.objs.size+1:=by rw [←hH2,Heap.size_push]
 generalize hLL:H2.objs.size=L at hns₁ hsb₁ hC ⊢
 generalize hDD:s₂.heap.objs.size=D at hC ⊢
 have hD0:s₂.heap.get? D=none:=bB (by rw [hDD];exact Nat.le_refl _)
 have hL0:s₂.heap.get? L=none:=bB (by rw [hDD,hC];exact Nat.le_succ _)
 have hDL:D≠L:=by rw [hC];exact (Nat.succ_ne_self _).symm
 have hk4:∀a o,s₂.heap.get? a=some o→h₁.get? a=some o:=fun a o e=>by
  have ha:a≠L:=fun q=>by rw [q,hL0] at e;exact az e
  exact (hsb₁.2 a ha).trans (Heap.get?_push_of_some _ (hH2▸Heap.get?_push_of_some _ e))
 have hD4:h₁.get? D=some (cW [] 0):=(hsb₁.2 D hDL).trans (Heap.get?_push_of_some _ (by rw [←hH2,←hDD];exact Heap.get?_push_size _ rfl))
 generalize hs4:({ s₂ with heap:=h₁,toks:=s₂.toks+([]:List (Str × Value)).length }:Shared)=s₄
 have e4:s₄.heap=h₁∧s₄.gens=s₂.gens∧s₄.os=s₂.os:=by rw [←hs4];exact ⟨rfl,rfl,rfl⟩
 rw [←e4.1] at hns₁ hD4 hk4
 have notW:∀a,s₂.heap.get? a=none→a∉F.W++F.V:=fun a e q=>by
  obtain ⟨_,_,o,e',_⟩:=R₂.w a q;exact ba e e'
 have cx':=wl (cl:=cl) cx hCO (notW L hL0) hcl'
 have R₄:=CP (cl:=cl) (s':=s₄) cx R₂ hCO hk4 e4.2.1 hL0 ⟨_,hns₁⟩
 have hsol4:aX s₂.heap s₄.heap:=fun a o e _=>hk4 a o e
 have h04:It 0 ρ₂ s₄:=wk.keep _ _ _ _ _ h0 (List.prefix_refl _) hsol4 fun a _ o e=>hk4 a o e
 have hSthere:∀a∈S,∃o,s₂.heap.get? a=some o:=fun a ha=>by obtain ⟨_,_,_,o,e,_⟩:=as a ha;exact ⟨o,e⟩
 have hDS:D∉S:=fun q=>by obtain ⟨o,e⟩:=hSthere D q;exact ba hD0 e
 have notρ:∀a,s₂.heap.get? a=none→a∉ρ₂:=fun a e q=>by obtain ⟨o,e'⟩:=R₂.hp.there q;exact ba e e'
 have as4:cI C (dJ F sc cl t (bF target) L) ρ₂ s₄.heap (D::S):=fun a ha=>by
  rcases List.mem_cons.mp ha with rfl | ha
  ·refine ⟨notρ a hD0,fun q=>?_,bM R₂.hp hD0,cw hD4 rfl (by decide) (fun ⟨_,_,q⟩=>by cases q) a (by exact List.mem_singleton.mpr rfl)⟩
   have q:a∈[L]++(F.W++F.V):=q
   rcases List.mem_append.mp q with q | q
   ·exact hDL (by exact List.mem_singleton.mp q)
   ·exact notW a hD0 q
  ·obtain ⟨a1,a2,a3,o,a4,a5⟩:=as a ha
   refine ⟨a1,fun q=>?_,a3,o,hk4 a o a4,a5⟩
   have q:a∈[L]++(F.W++F.V):=q
   rcases List.mem_append.mp q with q | q
   ·have:a=L:=by exact List.mem_singleton.mp q
    subst this;exact ba hL0 a4
   ·exact a2 q
 have fin:∀ρ' m' s₁' s' acc accv k',aq (L::D::S) ρ₂ s₄ ρ' s₁'→dQ S s₁' s'→aX s₁'.heap s'.heap→Rel C (dJ F sc cl t (bF target) L) ρ' m' s'→s'.heap.get? D=some (cW accv k')→aA C ρ' s'.heap acc accv→acc.length≤line→
   Q (.ref m'.heap.length) ⟨m₂.vars,m'.heap++[.list acc]⟩→compPost (mod C) F.A (Er C F X ρ s) use QQ (.ref D) L (.ok .next) s':=by
  intro ρ' m' s₁' s' acc accv k' st' sd hsol R' hD' rl hal hq
  have hDρ:D∉ρ':=fun q=>(st'.new D q).elim (notρ D hD0) fun q=>by exact ba q hD4
  have hLW:=R'.w L (List.mem_append_left _ (List.mem_singleton.mpr rfl))
  have hH:Hp C (ρ'++[D]) (m'.heap++[.list acc]) s'.heap:=R'.hp.alloc (fun a o e _=>e) (fun a _ o e=>e) R'.hp.base hDρ (bM R₂.hp hD0) ⟨accv,k',hD',rl.up (fun a o e _=>e) (List.prefix_append _ _),hal⟩
  have hkeep:∀a o,s₂.heap.get? a=some o→a∉ρ₂→a∉S→s'.heap.get? a=some o∨(IsD o∧∃sl,s'.heap.get? a=some { o with slots:=sl }):=fun a o e h1 h2=>by
   have hn:a∉L::D::S:=fun q=>by
    rcases List.mem_cons.mp q with rfl | q
    ·exact ba hL0 e
    ·rcases List.mem_cons.mp q with rfl | q
     ·exact ba hD0 e
     ·exact h2 q
   rcases st'.keep a o (hk4 a o e) h1 hn with q | ⟨q,sl,q'⟩
   ·exact .inl (sd.1 a _ h2 q)
   ·exact .inr ⟨q,sl,sd.1 a _ h2 q'⟩
  have hKD:∀a,a∉ρ₂→a∉S→jg s₂.heap s'.heap a:=fun a h1 h2 o e=>by
   rcases hkeep a o e h1 h2 with q | ⟨_,sl,q⟩
   ·exact ⟨_,q,rfl,rfl⟩
   ·exact ⟨_,q,rfl,rfl⟩
  have hs2:aX s₂.heap s'.heap:=fun a o e h=>hsol a o (st'.solid a o (hk4 a o e) h) h
  have hpre:ρ₂<+:ρ'++[D]:=st'.pre.trans (List.prefix_append _ _)
  have hnew:∀a∈ρ'++[D],a∈ρ₂∨s₂.heap.get? a=none:=fun a ha=>by
   rcases List.mem_append.mp ha with q | q
   ·exact (st'.new a q).imp id fun q=>by
     cases e:s₂.heap.get? a with
     | none=>rfl
     | some o=>rw [hk4 a o e] at q;exact rU q
   ·have:a=D:=by exact List.mem_singleton.mp q
    subst this;exact .inr hD0
  have hgens:s'.gens=s₂.gens:=sd.2.1.trans (st'.gens.trans e4.2.1)
  have Rf:Rel C F (ρ'++[D]) ⟨m₂.vars,m'.heap++[.list acc]⟩ s':=R₂.up cx.fm hs2 hpre hH hnew (fun a ha=>hKD a (R₂.w a ha).1 fun q=>(as a q).2.1 ha)
   (fun L' hL'=>by
    obtain ⟨k3,_,o,k5,k6⟩:=R₂.out L' hL'
    refine hKD L' k3 fun q=>?_
    obtain ⟨_,_,_,o2,g1,_,g2⟩:=as L' q
    obtain rfl:=same k5 g1
    exact g2 k6) hgens
  have fr:∀a∈L::D::S,s.heap.get? a=none:=fun a ha=>by
   rcases List.mem_cons.mp ha with rfl | q
   ·exact cN st₂ hL0
   ·rcases List.mem_cons.mp q with rfl | q
    ·exact cN st₂ hD0
    ·exact hS a q
  have stf:aq F.W ρ s (ρ'++[D]) s':=by
   have g:aq F.W ρ₂ s₂ ρ₂ s₄:=⟨List.prefix_refl _,fun _ h=>.inl h,fun a o e _ _=>.inl (hk4 a o e),hsol4,fun a o e=>⟨o,hk4 a o e⟩,e4.2.1,e4.2.2⟩
   have z:=((st₂.trans g).behind st' fr).side sd fun a ha=>hS a ha
   exact ⟨z.pre.trans (List.prefix_append _ _),fun a ha=>by
    rcases List.mem_append.mp ha with q | q
    ·exact z.new a q
    ·have:a=D:=by exact List.mem_singleton.mp q
     subst this;exact .inr (cN st₂ hD0),z.keep,z.solid,z.alive,z.gens,z.os⟩
  refine hk D L (ρ'++[D]) _ s' m'.heap.length stf Rf (.ref ?_) hq (CQ cx stf R (cN st₂ hL0) (fun q=>?_) (notW L hL0) R'.ns)
  ·rw [←R'.hp.len,List.getElem?_append_right (Nat.le_refl _)];simp
  ·rcases List.mem_append.mp q with q | q
   ·exact hLW.1 q
   ·exact hDL (by exact List.mem_singleton.mp q:L=D).symm
 have T:y4 C n (dJ F sc cl t (bF target) L) U target elt' ifs' t many elt ifs:=by
  cases hkk:kg k with
  | false=>obtain rfl:=hU hkk;exact qn cx' hnh (helt _ cx') hce (hifs _ cx') hci ht
  | true=>exact wn G cx' (hsel hkk) hce hci ht
 have loop:codeAny (mod C) F.A (.compLoop (.ListComp elt' [⟨target,iter,ifs',0⟩] sc pos) 0 itv (.ref D) (compEnvC sc cl L F.env)) (compPost (mod C) F.A (Er C F X ρ s) use QQ (.ref D) L) s₄:=
  tu cx'.fm rfl wk hlen T hUr (fun _ _ _ h=>h) R₄ h04 as4 hDS hD4 hP fin
 exact codeAny_compStart_list loop (wk.self 0 ρ₂ s₄ h04 _ _ loop)
end
end Internal
end
section
namespace Internal
open PySem PyProof.Rows
section
variable {C:Glo}{F:Fm}{X:XM}{c:Cx}{n:Nat}
theorem y5 (G:GOk C)(cx:av C c F n){elt:ME}{t:List Nat}{many:Bool}{k:IK}{src ifs:List ME}(hsrc:∀a∈src,SV C X n c F a)(helt:∀c' F',av C c' F' n→SV C noX n c' F' elt)
  (hifs:∀c' F',av C c' F' n→∀a∈ifs,ST C noX n c' F' a):SV C X n c F (.comp elt t many k src ifs):=by
 intro e hc Q m h
 replace hc:=ae hc
 obtain ⟨⟨elt',gs,sc⟩,hxx,hc⟩:=hc
 replace hc:=ae hc
 obtain ⟨g,hg,hc⟩:=hc
 cases bU hg
 obtain ⟨pos,rfl⟩:=nc hxx
 simp only [Bool.and_eq_true,beq_iff_eq,Bool.or_eq_true,Bool.not_eq_true'] at hc
 obtain ⟨⟨⟨⟨⟨⟨⟨⟨⟨h0,h1⟩,h2⟩,h3⟩,h9⟩,h4⟩,h5⟩,h6⟩,h7⟩,h8⟩:=hc
 obtain ⟨xs,hxs,h5⟩:=ae h5
 intro s ρ R
 have ha:firstAsync [g]=false:=by
  obtain ⟨_,_,_,a⟩:=g;simp only at h1;subst h1;rfl
 have hfi:firstIter [g] F.env=eval g.iter F.env:=by cases g;rfl
 rw [eval_ListComp,ha,hfi]
 refine rh (use:=none) G cx h0 h1 h2 (fun e=>h3.resolve_left (by rw [e];decide)) (fun e=>Bool.and_eq_true_iff.mpr (h9.resolve_left (by rw [e];decide))) h4 hxs h5 h6 h7 h8 hsrc (helt _) (hifs _) h R fun D L ρ' m' s' i st R' rx hq hl=>?_
 obtain ⟨⟨f,hf⟩,hs⟩:=hl ρ' m' s' (.refl _ _ _) R'
 refine ⟨f,hf,fun h' hsb=>?_⟩
 obtain ⟨Rf,stf,hsol⟩:=hs h' hsb
 exact ⟨ρ',m',.ref i,stf,Rf,rx.up hsol (List.prefix_refl _),hq⟩
theorem GE {me:ME}(h:∀e,aI c me e=false):SV C X n c F me∧ST C X n c F me:=
 ⟨fun e hc=>by rw [h e] at hc;exact Bool.noConfusion hc,fun e hc=>by rw [h e] at hc;exact Bool.noConfusion hc⟩
theorem br (G:GOk C)(cx:av C c F n){me:ME}(ia:SV C X n c F me)(hpl:∀e,aI c me e=true→bb e=true):SV C X n c F me∧ST C X n c F me:=⟨ia,we G cx ia hpl⟩
mutual
theorem sE (G:GOk C):∀(me:ME) (X:XM) (c:Cx) (F:Fm),av C c F n→SV C X n c F me∧ST C X n c F me
 | .cst v,X,c,F,cx=>br G cx (BZ G cx) CE
 | .var i,X,c,F,cx=>br G cx (B1 G cx) CF
 | .glob g v,X,c,F,cx=>br G cx (yz G cx) yU
 | .bin op a b,X,c,F,cx=>br G cx (B2 G cx (sE G a X c F cx).1 (sE G b X c F cx).1) CG
 | .neg a,X,c,F,cx=>br G cx (B3 G cx (sE G a X c F cx).1) CO
 | .not a,X,c,F,cx=>⟨B4 G cx (sE G a X c F cx).1,CA G cx (sE G a X c F cx).2⟩
 | .and es,X,c,F,cx=>⟨B6 G cx fun a ha=>(sEs G es X c F cx a ha).1,CB G cx fun a ha=>(sEs G es X c F cx a ha).2⟩
 | .or es,X,c,F,cx=>⟨EB G cx fun a ha=>(sEs G es X c F cx a ha).1,EU G cx fun a ha=>(sEs G es X c F cx a ha).2⟩
 | .cmp op a b,X,c,F,cx=>⟨B7 G cx (sE G a X c F cx).1 (sE G b X c F cx).1,CC G cx (sE G a X c F cx).1 (sE G b X c F cx).1⟩
 | .cmp2 op op' a b d,X,c,F,cx=>⟨y1 G cx (sE G a X c F cx).1 (sE G b X c F cx).1 (sE G d X c F cx).1,y2 G cx (sE G a X c F cx).1 (sE G b X c F cx).1 (sE G d X c F cx).1⟩
 | .isN p a,X,c,F,cx=>⟨B8 G cx (sE G a X c F cx).1,CD G cx (sE G a X c F cx).1⟩
 | .call f args,X,c,F,cx=>br G cx (yB G cx fun a ha=>(sEs G args X c F cx a ha).1) yX
 | .blt b args,X,c,F,cx=>br G cx (Cs G cx fun a ha=>(sEs G args X c F cx a ha).1) CN
 | .mth k o args,X,c,F,cx=>br G cx (B9 G cx (sE G o X c F cx).1 fun a ha=>(sEs G args X c F cx a ha).1) CL
 | .umth k f x o args,X,c,F,cx=>br G cx (yQ G cx (sE G o X c F cx).1 fun a ha=>(sEs G args X c F cx a ha).1) yY
 | .new k f args,X,c,F,cx=>br G cx (Cu G cx fun a ha=>(sEs G args X c F cx a ha).1) CM
 | .attr k o x,X,c,F,cx=>br G cx (yP G cx (sE G o X c F cx).1) yZ
 | .idx o i,X,c,F,cx=>br G cx (Ca G cx (sE G o X c F cx).1 (sE G i X c F cx).1) CH
 | .sl o lo hi,X,c,F,cx=>br G cx (EC G cx (sE G o X c F cx).1 (sO G lo X c F cx) (sO G hi X c F cx)) EV
 | .list es,X,c,F,cx=>br G cx (yC G cx fun a ha=>(sEs G es X c F cx a ha).1) yV
 | .tup es,X,c,F,cx=>br G cx (Cb G cx fun a ha=>(sEs G es X c F cx a ha).1) CI
 | .dict0,X,c,F,cx=>br G cx (ve G cx) wf
 | .comp elt t many k src ifs,X,c,F,cx=>br G cx (y5 G cx (fun a ha=>(sEs G src X c F cx a ha).1) (fun c' F' cx'=>(sE G elt noX c' F' cx').1) fun c' F' cx' a ha=>(sEs G ifs noX c' F' cx' a ha).2) yW
 | .isi a ts,X,c,F,cx=>br G cx (Cz G cx (sE G a X c F cx).1) CJ
theorem sEs (G:GOk C):∀(es:List ME) (X:XM) (c:Cx) (F:Fm),av C c F n→∀a∈es,SV C X n c F a∧ST C X n c F a
 | [],X,c,F,cx,a,ha=>by exact aN ha
 | e::es,X,c,F,cx,a,ha=>(List.mem_cons.mp ha).elim (fun h=>h▸sE G e X c F cx) fun h=>sEs G es X c F cx a h
theorem sO (G:GOk C):∀(o:Option ME) (X:XM) (c:Cx) (F:Fm),av C c F n→∀a,o=some a→SV C X n c F a
 | none,X,c,F,cx,a,ha=>by exact az ha
 | some e,X,c,F,cx,a,ha=>(Option.some.inj ha)▸(sE G e X c F cx).1
end
theorem eH (G:GOk C)(cx:av C c F n)(me:ME)(e:Expr)(hc:aI c me e=true)(Q:PQ)(m:MS)(h:wpE (Call C) n me Q X m):WPv C F X (eval e F.env) Q m:=(sE G me X c F cx).1 e hc Q m h
theorem wo (G:GOk C)(cx:av C c F n)(me:ME)(e:Expr)(hc:aI c me e=true)(Q:Bool→MS→Prop)(m:MS)(h:wpE (Call C) n me (cS Q) X m):WPt C F X (isTrue e F.env (eval e F.env)) Q m:=(sE G me X c F cx).2 e hc Q m h
end
end Internal
end
section
namespace Internal
open PySem PyProof.Rows
section
variable {C:Glo}{F:Fm}{X:XM}{ρ ρ₀:List Addr}{m:MS}{s s₀:Shared}{E:Value→Shared→Prop}{A:Around}
theorem y6 (ok:aQ F)(R:Rel C F ρ m s){r:Nat}{k:Int}{t:Tok}{xs:List MV}{j:Nat}{u:MV}{xv uv:Value}(rx:Rep C ρ s.heap (.ref r) xv)(hi:m.heap[r]?=some (.list xs))(hj:gZ k xs.length=some j)(hu:Ad=true∧0≤k)(ru:Rep C ρ s.heap u uv){P:Unit→Shared→Prop}(hp:∀s',Rel C F ρ (m.put r (.list (xs.set j u))) s'→aq F.W ρ s ρ s'→P () s') :
  wpAny (mod C) A (setItem xv (.int k t) uv) P E s:=absurd hu.1 (by decide)
end
end Internal
end
section
namespace Internal
open PySem
noncomputable def nz (F:Fm):Prop:=(∃outer,F.A.frames=some (F.env::outer))∧F.env.frame=some F.env.locals
theorem jO {C:Glo}{F:Fm}{X:XM}{ρ₀:List Addr}{s s₀:Shared}(ok:aQ F)(fo:nz F)(hb:C.base.StaysIn s₀.heap){e:Value}(h:Er C F X ρ₀ s₀ e s):notedBy (mod C) F.A F.env (fun e s'=>cameBackBy (mod C) F.A F.env (Er C F X ρ₀ s₀) e s') e s:=False.elim h
noncomputable def ErC (C:Glo)(X:XT)(ρ:List Addr)(s:Shared)(e:Value)(s':Shared):Prop:=False
end Internal
end
section
namespace Internal
open PySem PyProof.Rows
noncomputable def qo (e:Expr):Bool:=(pS e).isSome
theorem qp {elts:List Expr}{k:Nat}{p:Pos}{v:Expr}(h:qo v=false)(h':okX v=true)(env:Env):swappedStores [.Tuple elts k p] v env=pure none:=
 cL (P:=fun v=>qo v=false→swappedStores [.Tuple elts k p] v env=pure none) h' (fun _ _ _ _=>rfl) (fun _ _ _=>rfl) (fun _ _ _ _ _=>rfl) (fun _ _ _ _=>rfl) (fun _ _ _ _=>rfl) (fun _ _ _ _ _=>rfl) (fun _ _ _ _ _=>rfl) (fun _ _ _ _=>rfl) (fun _ _ _ _=>rfl) (fun _ _ _=>rfl) (fun _ _ _ h=>by exact tf h) (fun _ _ _ _=>rfl) (fun _ _ _ _ _=>rfl) h
noncomputable def nA:ME→Bool
 | .comp ..=>true
 | _=>false
set_option genCtorIdx false in
structure VS where
 tag:Nat
 p:Pos:=uo
 ts:List Expr:=[]
 e1:Expr:=noE
 e2:Expr:=noE
 o1:Option Expr:=none
 o2:Option Expr:=none
 b1:List Stmt:=[]
 b2:List Stmt:=[]
 b3:List Stmt:=[]
 hs:List ExceptHandler:=[]
noncomputable def aM:Stmt→VS
 | .Assign ts e2 p=>{ tag:=0,ts,e2,p }
 | .Expr e1 p=>{ tag:=1,e1,p }
 | .If e1 b1 b2 p=>{ tag:=2,e1,b1,b2,p }
 | .For e1 e2 b1 b2 p=>{ tag:=3,e1,e2,b1,b2,p }
 | .While e1 b1 b2 p=>{ tag:=4,e1,b1,b2,p }
 | .Return o1 p=>{ tag:=5,o1,p }
 | .Continue p=>{ tag:=6,p }
 | .Raise o1 o2 p=>{ tag:=8,o1,o2,p }
 | .Try b1 hs b2 b3 p=>{ tag:=9,b1,hs,b2,b3,p }
 | _=>{ tag:=7 }
noncomputable def wq (v:VS):Nat→Option Stmt
 | 0=>some (.Assign v.ts v.e2 v.p)
 | 1=>some (.Expr v.e1 v.p)
 | 2=>some (.If v.e1 v.b1 v.b2 v.p)
 | 3=>some (.For v.e1 v.e2 v.b1 v.b2 v.p)
 | 4=>some (.While v.e1 v.b1 v.b2 v.p)
 | 5=>some (.Return v.o1 v.p)
 | 6=>some (.Continue v.p)
 | 8=>some (.Raise v.o1 v.o2 v.p)
 | 9=>some (.Try v.b1 v.hs v.b2 v.b3 v.p)
 | _=>none
theorem wu (e:Stmt):∀x,wq (aM e) (aM e).tag=some x→e=x:=by
 cases e<;>first | exact fun x h=>Option.some.inj h | exact fun x h=>az h
theorem wv {e:Stmt}{n:Nat}{x:Stmt}(h:(aM e).tag=n)(hx:wq (aM e) n=some x):e=x:=wu e x (h▸hx)
noncomputable def eR (st:Stmt)(n:Nat):Bool:=(aM st).tag==n
theorem cA {e:Stmt}{n:Nat}{x:Stmt}(h:eR e n=true)(hx:wq (aM e) n=some x):e=x:=wv (eq_of_beq h) hx
noncomputable def y7:MV→Bool
 | .none=>true
 | _=>false
noncomputable def rj:ME→Bool
 | .cst v=>y7 v
 | _=>false
noncomputable def exh:ExceptHandler→Option Expr × Option Str × List Stmt × Pos
 | .ExceptHandler a b c p=>(a,b,c,p)
theorem Gq (h:ExceptHandler):h=.ExceptHandler (exh h).1 (exh h).2.1 (exh h).2.2.1 (exh h).2.2.2:=by cases h;rfl
noncomputable def CR:Const→Bool
 | .str _=>true
 | _=>false
noncomputable def inH (c:Cx):Cx:={ c with nh:=false }
mutual
noncomputable def EX:Cx→MSt→Stmt→Bool
 | c,.asg t many e,st=>eR st 0&&ao (one (aM st).ts) fun tg=>lH c t many tg&&okX (aM st).e2&&(!many||!qo (aM st).e2)&&(!cT (aM st).e2||nA e)&&(c.nh||!many)&&aI c e (aM st).e2
 | c,.setAttr k o x e,st=>eR st 0&&ao (one (aM st).ts) fun tg=>okX (aM st).e2&&!cT (aM st).e2&&aI c e (aM st).e2&&ao (qV tg) fun q=>q.2.1.cps.toList==x&&cM.contains q.2.1&&c.at_ k q.2.1&&aI c o q.1
 | c,.setIdx o i e,st=>eR st 0&&ao (one (aM st).ts) fun tg=>okX (aM st).e2&&!cT (aM st).e2&&aI c e (aM st).e2&&ao (x3 tg) fun q=>aI c o q.1&&aI c i q.2
 | c,.expr e,st=>eR st 1&&(okX (aM st).e1&&!cT (aM st).e1&&aI c e (aM st).e1)
 | c,.ite d a b,st=>eR st 2&&(aI c d (aM st).e1&&gz c a (aM st).b1&&gz c b (aM st).b2)
 | c,.for_ t many k src body,st=>eR st 3&&(c.nh&&(aM st).b2.isEmpty&&lH c t many (aM st).e1&&(!ki k||many)&&!kg k&&okX (aM st).e2&&ao (kh c k (aM st).e2) (fun xs=>bh c src xs)&&gz c body (aM st).b1)
 | c,.while_ d body,st=>eR st 4&&((aM st).b2.isEmpty&&aI c d (aM st).e1&&gz c body (aM st).b1)
 | c,.ret e,st=>eR st 5&&match (aM st).o1 with
  | some x=>aI c e x
  | none=>rj e
 | c,.cont,st=>eR st 6
 | c,.raise k,st=>!xK||eR st 8&&((aM st).o2.isNone&&c.nh&&ao (aM st).o1 fun e=>ao (xFn e) fun q=>cv c q.1&&c.xn k==some q.1&&ao (one q.2.1) fun y=>ao (m7 y) CR)
 | c,.try_ body k v h,st=>!xK||eR st 9&&((aM st).b2.isEmpty&&(aM st).b3.isEmpty&&ao (one (aM st).hs) fun hh=>ao (exh hh).1 fun ty=>ao (exh hh).2.1 fun nm=>k==0&&c.nm v==some nm&&c.kind nm==some .local&&!(exh hh).2.2.1.isEmpty&&ao (dF ty) (fun x=>cv c x&&c.xn k==some x)&&gz c body (aM st).b1&&gz (inH c) h (exh hh).2.2.1)
noncomputable def gz:Cx→List MSt→List Stmt→Bool
 | c,[],xs=>xs.isEmpty
 | c,s::ss,xs=>match xs with
  | []=>false
  | x::xs=>EX c s x&&gz c ss xs
end
section
variable {C:Glo}{F:Fm}{X:XM}{c:Cx}{n:Nat}{ρ ρ' ρ₀:List Addr}{m:MS}{s s' s₀:Shared}{A:Around}{E:Value→Shared→Prop}
inductive FlR (C:Glo)(ρ:List Addr)(h:Heap):Fl→Flow→Prop
 | next:FlR C ρ h .next .next
 | brk:FlR C ρ h .brk .brk
 | cont:FlR C ρ h .cont .cont
 | ret {x v}:Rep C ρ h x v→FlR C ρ h (.ret x) (.ret v)
noncomputable def FlI (C:Glo)(ρ:List Addr)(h:Heap)(fl:Fl)(f:Flow):Prop:=match fl with
 | .next=>f=.next
 | .brk=>f=.brk
 | .cont=>f=.cont
 | .ret x=>∃v,f=.ret v∧Rep C ρ h x v
theorem FlR.inv {h:Heap}{fl:Fl}{f:Flow}(r:FlR C ρ h fl f):FlI C ρ h fl f:=FlR.casesOn (motive:=fun fl f _=>FlI C ρ h fl f) r rfl rfl rfl (fun r=>⟨_,rfl,r⟩)
inductive ik (C:Glo)(F:Fm)(ρ:List Addr)(s:Shared)(Q:Fl→MS→Prop)(f:Flow)(s':Shared):Prop
 | mk (ρ':List Addr) (m':MS) (fl:Fl) (st:aq F.W ρ s ρ' s') (R:Rel C F ρ' m' s') (hf:FlR C ρ' s'.heap fl f) (hq:Q fl m'):ik C F ρ s Q f s'
theorem ik.back {Q:Fl→MS→Prop}(st:aq F.W ρ₀ s₀ ρ s):∀f s',ik C F ρ s Q f s'→ik C F ρ₀ s₀ Q f s':=
 fun _ _ ⟨ρ',m',x,a,b,c,d⟩=>⟨ρ',m',x,st.trans a,b,c,d⟩
noncomputable def WPs (C:Glo)(F:Fm)(X:XM)(t:Sem Flow)(Q:Fl→MS→Prop)(m:MS):Prop:=
 ∀s ρ,Rel C F ρ m s→wpAny (mod C) F.A t (ik C F ρ s Q) (Er C F X ρ s) s
inductive Gr (C:Glo)(F:Fm)(items:List MV)(g:Gd)(st:MV→(Fl→MS→Prop)→MS→Prop)(Q:Fl→MS→Prop)(S:List Addr)(It:Nat→List Addr→Shared→Prop)(ρ₀:List Addr)(s₀:Shared)(k:Nat)(s:Shared):Prop
 | mk (ρ:List Addr) (m:MS) (i:Nat) (hk:k=items.length-i) (st₁:aq F.W ρ₀ s₀ ρ s) (R:Rel C F ρ m s) (hit:It i ρ s) (as:cI C F ρ s.heap S) (hf:eX g st Q (items.drop i) m)
inductive WhI (C:Glo)(F:Fm)(P:Nat→MS→Prop)(ρ₀:List Addr)(s₀:Shared)(k:Nat)(s:Shared):Prop
 | mk (ρ:List Addr) (m:MS) (st₁:aq F.W ρ₀ s₀ ρ s) (R:Rel C F ρ m s) (hw:P k m)
theorem CS (cx:av C c F n)(fo:nz F)(hbs:C.base.StaysIn s₀.heap){target:Expr}{itv:Value}{items:List MV}{g:Gd}{S:List Addr}{It:Nat→List Addr→Shared→Prop}(wk:nq C F.A target itv items g S [] It)
  {st:MV→(Fl→MS→Prop)→MS→Prop}{Q:Fl→MS→Prop}{body:List Stmt}(hS:∀a∈S,s₀.heap.get? a=none)
  (hb:∀x v ρ m s (P:Fl→MS→Prop),Rel C F ρ m s→Rep C ρ s.heap x v→st x P m→wpAny (mod C) F.A (assign target F.env v) (fun _ s₁=>wpAny (mod C) F.A (execs body F.env) (ik C F ρ s P) (Er C F X ρ s) s₁) (Er C F X ρ s) s)
  (st₀:aq F.W ρ₀ s₀ ρ s) (R:Rel C F ρ m s) (h0:It 0 ρ s) (as:cI C F ρ s.heap S) (h:eX g st Q items m) :
  codeAny (mod C) F.A (.forLoop target itv body [] F.env) (fun r s'=>match r with | .ok f=>ik C F ρ₀ s₀ Q f s' | .error e=>cameBackBy (mod C) F.A F.env (Er C F X ρ₀ s₀) e s') s:=by
 refine codeAny_forLoop_any (Gr C F items g st Q S It ρ₀ s₀) (fun k s hI=>?_) _ ⟨ρ,m,0,rfl,st₀,R,h0,as,by exact h⟩
 obtain ⟨ρ,m,i,rfl,st₁,R,hit,as,hf⟩:=hI
 cases e:items[i]? with
 | none=>
  have:items.drop i=[]:=by rw [List.drop_eq_nil_iff];exact List.getElem?_eq_none_iff.mp e
  rw [this,n8] at hf
  obtain ⟨hg,hq⟩:=hf
  refine wpAny_mono (wk.done i ρ m.heap s R.hp hg hit e (fun _ _=>False) (fun s₂=>dQ S s s₂) fun s₂ sd=>sd) (fun r s₁ ⟨hr,sd⟩=>?_) fun _ _ x=>x.elim
  subst hr
  exact wpAny_execs_nil ⟨ρ,m,.next,st₁.side sd hS,R.side cx.fm as sd,.next,hq⟩
 | some x=>
  obtain ⟨hlt,hx⟩:=List.getElem?_eq_some_iff.mp e
  rw [List.drop_eq_getElem_cons hlt,hx,lR] at hf
  obtain ⟨hg,hq⟩:=hf
  refine wk.item i ρ m.heap s x R.hp hg hit e _ _ _ fun v s₂ sd hit' rv=>?_
  have R₂:=R.side cx.fm as sd
  have st₂:=st₁.side sd hS
  refine wpAny_mono (hb x v ρ m s₂ _ R₂ rv hq) (fun _ s₃ h₃=>wpAny_mono h₃ (fun f s₄ h₄=>?_) fun e s' x=>jO cx.fm fo hbs (Er.back st₂ e s' x)) fun e s' x=>jO cx.fm fo hbs (Er.back st₂ e s' x)
  obtain ⟨ρ₄,m₄,fl,st₄,R₄,hfl,hq₄⟩:=h₄
  obtain ⟨as₄,kp₄⟩:=(as.shape (wk.shape _ _ _ hit')).step st₄
  have hit₄:=wk.keep _ _ _ _ _ hit' st₄.pre st₄.solid (by rw [List.append_nil];exact kp₄)
  have hlt2:items.length-(i+1)<items.length-i:=Nat.sub_succ_lt_self _ _ hlt
  cases fl with
  | next=>obtain rfl:=hfl.inv;exact ⟨_,hlt2,ρ₄,m₄,i+1,rfl,st₂.trans st₄,R₄,hit₄,as₄,hq₄⟩
  | cont=>obtain rfl:=hfl.inv;exact ⟨_,hlt2,ρ₄,m₄,i+1,rfl,st₂.trans st₄,R₄,hit₄,as₄,hq₄⟩
  | brk=>obtain rfl:=hfl.inv;exact ⟨ρ₄,m₄,.next,st₂.trans st₄,R₄,.next,hq₄⟩
  | ret r=>obtain ⟨v,rfl,rv⟩:=hfl.inv;exact ⟨ρ₄,m₄,.ret _,st₂.trans st₄,R₄,.ret rv,hq₄⟩
theorem jl:∀{es:List (List Nat × MV)}{kvs:List (Str × Value)}{h:Heap},dX C ρ h es kvs→(kvs.map (·.1)).Nodup→∀{k:List Nat}{x:MV}{v:Value},k.length≤line→Rep C ρ h x v→dX C ρ h (cG es k x) (stored kvs (str k) v)
 | _,_,_,.nil,_,k,x,v,z,r=>by
  exact .cons z r .nil
 | _,_,_,@dX.cons _ _ _ k' x' v' es ds z' a b,hn,k,x,v,z,r=>by
  simp only [List.map_cons,List.nodup_cons] at hn
  show dX C ρ _ (match k'==k with
   | true=>(k',x)::es
   | false=>(k',x')::cG es k x) _
  by_cases e:k'=k
  ·subst e
   rw [beq_self_eq_true]
   have e1:stored ((str k',v')::ds) (str k') v=(str k',v)::ds:=by
    unfold stored
    rw [if_pos (by simp)]
    simp only [List.map_cons,if_true]
    congr 1
    conv=>rhs;rw [←List.map_id ds]
    refine List.map_congr_left fun p hp=>?_
    rw [if_neg (fun q=>hn.1 (by rw [←q];exact List.mem_map.mpr ⟨p,hp,rfl⟩))];rfl
   rw [e1]
   exact .cons z r b
  ·have e2:¬ str k'=str k:=fun q=>e (jJ q)
   have e1:(k'==k)=false:=by exact beq_eq_false_iff_ne.mpr e
   rw [e1]
   have e3:stored ((str k',v')::ds) (str k) v=(str k',v')::stored ds (str k) v:=by
    unfold stored
    simp only [List.any_cons,e2,decide_false,Bool.false_or,List.map_cons,if_false]
    split<;>rfl
   rw [e3]
   exact .cons z' a (jl b hn.2 z r)
theorem kG:∀(es:List (List Nat × MV)) (k:List Nat) (x:MV),(cG es k x).length≤es.length+1
 | [],_,_=>Nat.le_refl _
 | (k',x')::r,k,x=>by
  show (match k'==k with
   | true=>(k',x)::r
   | false=>(k',x')::cG r k x).length≤_
  cases k'==k with
  | true=>exact Nat.le_succ _
  | false=>exact Nat.succ_le_succ (kG r k x)
theorem qq {v:Expr}(h:okX v=true)(x:Str)(px:Pos)(l:Nat)(env:Env):∃b,swapsWith v (some (.Name x px)) l env=pure b:=by
 cases hi:cT v with
 | false=>exact ⟨false,dY hi h _ _ _⟩
 | true=>
  unfold cT at hi
  obtain ⟨k,hk⟩:=Option.isSome_iff_exists.mp hi
  obtain ⟨p,rfl⟩:=nc hk
  exact ⟨_,rfl⟩
theorem tv {v:Expr}(h:okX v=true)(elts:List Expr)(k:Nat)(p:Pos)(l:Nat)(env:Env):swapsWith v (some (.Tuple elts k p)) l env=pure false:=by
 cases hi:cT v with
 | false=>exact dY hi h _ _ _
 | true=>
  unfold cT at hi
  obtain ⟨k,hk⟩:=Option.isSome_iff_exists.mp hi
  obtain ⟨p,rfl⟩:=nc hk
  rfl
theorem ww {e:ME}(h:nA e=true):∃elt t many k src ifs,e=.comp elt t many k src ifs:=by
 cases e<;>first | exact ⟨_,_,_,_,_,_,rfl⟩ | exact ff h
theorem qr {v:Expr}{t:Option Expr}{l:Nat}{env:Env}(h':okX v=true)(h:swapsWith v t l env=pure true):cT v=true:=by
 cases hi:cT v with
 | true=>rfl
 | false=>
  rw [dY hi h'] at h
  exact absurd h (by intro h;injection h with h;exact ff h)
theorem wx (G:GOk C)(cx:av C c F n){e:ME}{v:Expr}{i:Nat}{x:Str}{px pos:Pos}(hx:c.nm i=some x)(hk:c.kind x=some .local∨(c.wr=true∧c.kind x≠some .free))(hm:nA e=true)(he:aI c e v=true)
  (hb:swapsWith v (some (.Name x px)) pos.line F.env=pure true) {Q:Fl→MS→Prop}(h:wpE (Call C) n e (fun v m=>asg [i] false v (fun m=>Q .next m) m) X m) (R:Rel C F ρ m s) :
  wpAny (mod C) F.A (exec (.Assign [.Name x px] v pos) F.env) (ik C F ρ s Q) (Er C F X ρ s) s:=by
 obtain ⟨elt,t,many,k,src,ifs,rfl⟩:=ww hm
 rw [exec_Assign_Name_used _ _ _ _ hb]
 obtain ⟨⟨elt',gs,sc⟩,hxx,he⟩:=ae he
 obtain ⟨g,hg,he⟩:=ae he
 obtain rfl:=bU hg
 obtain ⟨pos',rfl⟩:=nc hxx
 obtain ⟨he,h8⟩:=al he
 obtain ⟨he,h7⟩:=al he
 obtain ⟨he,h6⟩:=al he
 obtain ⟨he,h5⟩:=al he
 obtain ⟨he,h4⟩:=al he
 obtain ⟨he,h9⟩:=al he
 obtain ⟨he,h3⟩:=al he
 obtain ⟨he,h2⟩:=al he
 obtain ⟨h0,h1⟩:=al he
 have h1:=eq_of_beq h1
 have h3:=yp h3
 have h9:=yp h9
 obtain ⟨xs,hxs,h5⟩:=ae h5
 have ha:firstAsync [g]=false:=by
  obtain ⟨_,_,_,a⟩:=g;simp only at h1;subst h1;rfl
 refine wpAny_bind (wpAny_standAt (wpAny_bind ?_))
 show wpAny _ F.A (do let _ ←comprehension (.ListComp elt' [g] sc pos') sc F.env (firstIterPos [g] pos') (newList []) (firstAsync [g]) (firstIter [g] F.env) (some (assign (.Name x px) F.env))) _ _ s
 have hfi:firstIter [g] F.env=eval g.iter F.env:=by cases g;rfl
 rw [ha,hfi]
 refine wpAny_bind (wpAny_mono (rh (use:=some (assign (.Name x px) F.env)) (QQ:=fun _ s'=>ik C F ρ s Q .next s') G cx h0 h1 h2 (fun e=>h3.resolve_left (by rw [e];decide)) (fun e=>h9.resolve_left fun q=>q e) h4 hxs h5 h6 h7 h8 (fun a ha=>(sEs G src X c F cx a ha).1)
  (fun F' cx'=>(sE G elt noX _ F' cx').1) (fun F' cx' a ha=>(sEs G ifs noX _ F' cx' a ha).2) h R fun D L ρ' m' s' j st R' rx hq hl=>?_) (fun _ s' hq=>wpAny_pure (wpAny_pure hq)) fun _ _ x=>x)
 show wpAny _ _ (assign (.Name x px) F.env (.ref D)) _ _ _
 refine PyProof.Rows.assign_Name (fS cx R' hx hk rx fun s₂ st2 R₂ _=>?_)
 obtain ⟨⟨f,hf⟩,hs⟩:=hl ρ' _ s₂ st2 R₂
 refine ⟨f,hf,fun h' hsb=>?_⟩
 obtain ⟨Rf,stf,hsol⟩:=hs h' hsb
 exact ⟨ρ',_,.next,stf,Rf,.next,hq⟩
noncomputable def SS (C:Glo)(X:XM)(n:Nat)(c:Cx)(F:Fm)(me:MSt):Prop:=∀(e:Stmt),EX c me e=true→∀(Q:Fl→MS→Prop) (m:MS),wpS (Call C) n me Q X m→WPs C F X (exec e F.env) Q m
noncomputable def SSs (C:Glo)(X:XM)(n:Nat)(c:Cx)(F:Fm)(ss:List MSt):Prop:=∀(es:List Stmt),gz c ss es=true→∀(Q:Fl→MS→Prop) (m:MS),aP (Call C) n ss Q X m→WPs C F X (execs es F.env) Q m
theorem CT (G:GOk C)(cx:av C c F n){t:List Nat}{many:Bool}{e:ME}:SS C X n c F (.asg t many e):=by
 intro st hc Q m h
 obtain ⟨hv,hc⟩:=al hc
 obtain ⟨tg,h1,hc⟩:=ae hc
 rw [cA hv rfl,bU h1]
 clear hv h1
 generalize (aM st).e2=v at *
 generalize (aM st).p=pos at *
 obtain ⟨hc,he⟩:=al hc
 obtain ⟨hc,hnh⟩:=al hc
 obtain ⟨hc,hcm⟩:=al hc
 obtain ⟨hc,hm⟩:=al hc
 obtain ⟨ht,ho⟩:=al hc
 intro s ρ R
 cases many with
 | false=>
  obtain ⟨i,x,px,rfl,rfl,h1,h2⟩:=oy ht
  obtain ⟨b,hb⟩:=qq ho x px pos.line F.env
  cases b with
  | false=>
   refine wpAny_Assign_Name ((eH G cx e v he _ m h).go R (.refl _ _ _) fun ρ₁ s₁ m₁ y w st t1 R₁ rx h₁=>?_) hb
   exact fS cx R₁ h1 (hJ h2) rx fun s₂ st2 R₂ _=>⟨ρ₁,_,.next,t1.trans st2,R₂,.next,h₁⟩
  | true=>exact wx G cx h1 (hJ h2) ((yp hcm).resolve_left fun q=>q (qr ho hb)) he hb h R
 | true=>
  obtain ⟨elts,k,p,rfl,_⟩:=fV ht
  refine PyProof.Rows.Assign_Tuple ((eH G cx e v he _ m h).go R (.refl _ _ _) fun ρ₁ s₁ m₁ y w st t1 R₁ rx h₁=>?_) (tv ho elts k p pos.line F.env) (qp (jj hm) ho _)
  exact wpAny_mono (iW cx ht rx R₁ h₁ fun _=>cx.hn (by rw [←hnh];exact (Bool.or_false _).symm)) (fun _ s₂ ⟨m',st2,R₂,q⟩=>⟨ρ₁,m',.next,t1.trans st2,R₂,.next,q⟩) fun _ _ x=>x
theorem tw (G:GOk C)(cx:av C c F n)(R:Rel C F ρ m s)(t3:aq F.W ρ₀ s₀ ρ s){x y u:MV}{xv yv uv:Value}(rx:Rep C ρ s.heap x xv)(ry:Rep C ρ s.heap y yv)(ru:Rep C ρ s.heap u uv){Q:Fl→MS→Prop}(h:od x y u (Q .next) m) :
  wpAny (mod C) A (setItem xv yv uv) (fun _ s'=>ik C F ρ₀ s₀ Q .next s') E s:=by
 refine Classical.byContradiction fun hn=>?_
 cases y with
 | str k=>
  obtain ⟨r,rfl,h1⟩:=dE h
  obtain ⟨es,hes,hlen,hq⟩:=n5 h1
  obtain ⟨a,rfl,g⟩:=rx.inv
  obtain ⟨t,rfl,z⟩:=ry.inv
  obtain ⟨kvs,dk,rk,zz⟩:=R.hp.objs _ _ _ hes g
  refine hn (wpAny_setItem_pairs (knd:=strKind C.prog C.w) (k:=str k) (strKind_is _ _ _ _) dk (fun h' hd hs=>?_) (by rw [rk.length];exact Nat.le_of_lt hlen))
  have hk:∀b ob,b≠a→s.heap.get? b=some ob→h'.get? b=some ob:=fun b ob q e=>(hs.2 b q).trans e
  have hsol:aX s.heap h':=cc hk (bN (R.hp.objs _ _ _ hes g))
  have hnd:(kvs.map (·.1)).Nodup:=by obtain ⟨_,_,_,_,_,_,_,_,hn⟩:=dk;exact hn
  obtain ⟨R₄,st₄⟩:=R.put (s':={ s with heap:=h',toks:=s.toks+1 }) cx.fm g hes (o:=.dict (cG es k u)) hk rfl rfl
   ⟨_,hd,(jl rk hnd z ru).up hsol (List.prefix_refl _),Nat.le_trans (kG es k u) hlen⟩
  exact ⟨_,_,.next,t3.trans st₄,R₄,.next,hq⟩
 | int k=>
  obtain ⟨r,rfl,h1⟩:=dE h
  obtain ⟨xs,hi,h1⟩:=bX h1
  obtain ⟨j,hj,h1,hq⟩:=b8 h1
  obtain ⟨t,rfl⟩:=ry.inv
  exact hn (y6 cx.fm R rx hi hj h1 ru fun s' R₄ st₄=>⟨_,_,.next,t3.trans st₄,R₄,.next,hq⟩)
 | _=>exact h
set_option tactic.hygienic true in
theorem tx (G:GOk C)(cx:av C c F n){o i e:ME}:SS C X n c F (.setIdx o i e):=by
 intro st hc Q m h
 obtain ⟨hv,hc⟩:=al hc
 obtain ⟨tg,h1,hc⟩:=ae hc
 rw [cA hv rfl,bU h1]
 clear hv h1
 generalize (aM st).e2=v at *
 generalize (aM st).p=pos at *
 obtain ⟨hc,ho⟩:=al hc
 obtain ⟨hc,he⟩:=al hc
 obtain ⟨hox,hcomp⟩:=al hc
 obtain ⟨⟨ov,iv⟩,hx,ho⟩:=ae ho
 obtain ⟨p,rfl⟩:=m9 hx
 obtain ⟨ho,hi⟩:=al ho
 intro s ρ R
 refine wpAny_Assign_Subscript ((eH G cx e v he _ m h).go R (.refl _ _ _) fun ρ₁ s₁ m₁ x xv st t1 R₁ rx h₁=>?_) (dY (jj hcomp) hox _ _ _)
 refine (eH G cx o ov ho _ m₁ h₁).go R₁ t1 fun ρ₂ s₂ m₂ y yv st2 t2 R₂ ry h₂=>?_
 exact (eH G cx i iv hi _ m₂ h₂).go R₂ t2 fun ρ₃ s₃ m₃ z zv st3 t3 R₃ rz h₃=>tw G cx R₃ t3 (ry.step st3) rz ((rx.step st2).step st3) h₃
theorem y8 (G:GOk C)(cx:av C c F n){e:ME}:SS C X n c F (.expr e):=by
 intro st hc Q m h
 obtain ⟨hv,hc⟩:=al hc
 obtain ⟨hc,he⟩:=al hc
 obtain ⟨h1,h2⟩:=al hc
 rw [cA hv rfl]
 intro s ρ R
 exact wpAny_Expr_any ((eH G cx e _ he _ m h).go R (.refl _ _ _) fun ρ₁ s₁ m₁ y w st t1 R₁ rx h₁=>⟨_,_,.next,t1,R₁,.next,h₁⟩) cx.inter (dY (jj h2) h1 _ _ _)
theorem CU (G:GOk C)(cx:av C c F n){d:ME}{a b:List MSt}(ia:SSs C X n c F a)(ib:SSs C X n c F b):SS C X n c F (.ite d a b):=by
 intro st hc Q m h
 obtain ⟨hv,hc⟩:=al hc
 obtain ⟨hc,hb⟩:=al hc
 obtain ⟨hd,ha⟩:=al hc
 rw [cA hv rfl]
 intro s ρ R
 refine wpAny_If ((wo G cx d _ hd _ m h).go R (.refl _ _ _) fun ρ₁ s₁ m₁ t st t1 R₁ h₁=>?_)
 cases t with
 | true=>exact wpAny_mono (ia _ ha Q m₁ h₁ s₁ ρ₁ R₁) (ik.back t1) (Er.back t1)
 | false=>exact wpAny_mono (ib _ hb Q m₁ h₁ s₁ ρ₁ R₁) (ik.back t1) (Er.back t1)
theorem CV (G:GOk C)(cx:av C c F n)(fo:nz F){t:List Nat}{many:Bool}{k:IK}{src:List ME}{body:List MSt}(ib:SSs C X n c F body):SS C X n c F (.for_ t many k src body):=by
 intro st hc Q m h
 obtain ⟨hv,hc⟩:=al hc
 obtain ⟨hc,hb⟩:=al hc
 obtain ⟨hc,hi⟩:=al hc
 obtain ⟨hc,hx⟩:=al hc
 obtain ⟨hc,hkk⟩:=al hc
 obtain ⟨hc,hm⟩:=al hc
 obtain ⟨hc,ht⟩:=al hc
 obtain ⟨hnh,hb2⟩:=al hc
 rw [cA hv rfl,List.isEmpty_iff.mp hb2]
 intro s ρ R
 obtain ⟨xs,hxs,hi⟩:=ae hi
 refine wpAny_For (wpAny_mono (qZ G cx hnh (fun a ha=>(sEs G src X c F cx a ha).1) hxs hi (jk ht) (fun e=>by
  obtain rfl:=(yp hm).resolve_left fun q=>q e
  obtain ⟨a,b,d,e,_⟩:=fV ht
  exact ⟨a,b,d,e,trivial⟩) (P:=fun items g m=>eX g (fun v P m=>asg t many v (fun m=>aP (Call C) n body P X m) m) Q items m) h R) (fun xv s₁ h₁=>wpAny_mono h₁ (fun itv s₂ h₂=>?_) fun _ _ x=>x) fun _ _ x=>x) (j5 hx _)
 obtain ⟨ρ₂,m₂,items,g,S,U,It,st₂,R₂,wk,h0,as,hS,_,hf,hU,_⟩:=h₂
 obtain rfl:=hU (Bool.not_eq_true' _▸hkk)
 refine CS cx fo R.hp.base wk hS (fun x v ρ m s P R rv hst=>?_) st₂ R₂ h0 as hf
 refine wpAny_mono (iW (E:=fun _ _=>False) cx ht rv R hst fun _=>cx.hn hnh) (fun _ s₁ ⟨m',st1,R₁,q⟩=>?_) fun _ _ x=>x.elim
 exact wpAny_mono (ib _ hb P m' q s₁ ρ R₁) (ik.back st1) (Er.back st1)
theorem wy (G:GOk C)(cx:av C c F n)(fo:nz F){d:ME}{body:List MSt}(ib:SSs C X n c F body):SS C X n c F (.while_ d body):=by
 intro st hc Q m h
 obtain ⟨hv,hc⟩:=al hc
 obtain ⟨hc,hb⟩:=al hc
 obtain ⟨hb2,hd⟩:=al hc
 rw [cA hv rfl,List.isEmpty_iff.mp hb2]
 obtain ⟨k,h⟩:=h
 intro s ρ R
 refine wpAny_While (codeAny_whileLoop (WhI C F (dj (fun P m=>wpE (Call C) n d (cS P) X m) (fun P m=>aP (Call C) n body P X m) Q) ρ s) (fun k s₁ hI=>?_) k ⟨ρ,m,.refl _ _ _,R,h⟩)
 obtain ⟨ρ₁,m₁,st₁,R₁,hw⟩:=hI
 cases k with
 | zero=>rw [n9] at hw;exact hw.elim
 | succ k=>
  rw [je] at hw
  refine wpAny_mono (wo G cx d _ hd _ m₁ hw s₁ ρ₁ R₁) (fun t s₂ ⟨ρ₂,m₂,st₂,R₂,h₂⟩=>?_) fun e s' x=>jO cx.fm fo R.hp.base (Er.back st₁ e s' x)
  cases t with
  | true=>
   rw [if_pos rfl]
   refine wpAny_mono (ib _ hb _ m₂ h₂ s₂ ρ₂ R₂) (fun f s₃ ⟨ρ₃,m₃,fl,st₃,R₃,hfl,h₃⟩=>?_) fun e s' x=>jO cx.fm fo R.hp.base (Er.back (st₁.trans st₂) e s' x)
   have stt:=(st₁.trans st₂).trans st₃
   cases fl with
   | next=>obtain rfl:=hfl.inv;exact ⟨k,Nat.lt_succ_self k,ρ₃,m₃,stt,R₃,h₃⟩
   | cont=>obtain rfl:=hfl.inv;exact ⟨k,Nat.lt_succ_self k,ρ₃,m₃,stt,R₃,h₃⟩
   | brk=>obtain rfl:=hfl.inv;exact ⟨ρ₃,m₃,.next,stt,R₃,.next,h₃⟩
   | ret r=>obtain ⟨v,rfl,rv⟩:=hfl.inv;exact ⟨ρ₃,m₃,.ret _,stt,R₃,.ret rv,h₃⟩
  | false=>
   rw [if_neg (by decide)]
   exact wpAny_execs_nil ⟨ρ₂,m₂,.next,st₁.trans st₂,R₂,.next,h₂⟩
theorem wz {e:ME}(h:rj e=true):e=.cst .none:=by
 cases e with
 | cst v=>cases v<;>first | rfl | exact ff h
 | _=>exact ff h
theorem CW (G:GOk C)(cx:av C c F n){e:ME}:SS C X n c F (.ret e):=by
 intro st hc Q m h
 obtain ⟨hv,hc⟩:=al hc
 rw [cA hv rfl]
 clear hv
 intro s ρ R
 cases ho:(aM st).o1 with
 | some x=>
  rw [ho] at hc
  exact wpAny_Return_some ((eH G cx e _ hc _ m h).go R (.refl _ _ _) fun ρ₁ s₁ m₁ y w st t1 R₁ rx h₁=>⟨_,_,_,t1,R₁,.ret rx,h₁⟩)
 | none=>
  rw [ho] at hc
  obtain rfl:=wz hc
  exact wpAny_Return_none ⟨ρ,m,.ret .none,.refl _ _ _,R,.ret .none,h⟩
theorem y9:SS C X n c F .cont:=by
 intro st hc Q m h
 rw [cA hc rfl]
 intro s ρ R
 exact wpAny_Continue ⟨_,_,_,.refl _ _ _,R,.cont,h⟩
theorem zc:SSs C X n c F []:=by
 intro es hc Q m h
 cases es with
 | nil=>intro s ρ R;exact wpAny_execs_nil ⟨_,_,_,.refl _ _ _,R,.next,h⟩
 | cons=>exact ff hc
theorem wA {x:MSt}{ss:List MSt}(ix:SS C X n c F x)(iss:SSs C X n c F ss):SSs C X n c F (x::ss):=by
 intro es hc Q m h
 cases es with
 | nil=>exact ff hc
 | cons e es=>
  replace hc:=al hc
  intro s ρ R
  refine wpAny_execs_cons (wpAny_mono (ix e hc.1 _ m h s ρ R) (fun f s₁ ⟨ρ₁,m₁,fl,st,R₁,hfl,h₁⟩=>?_) fun _ _ x=>x)
  cases fl with
  | next=>obtain rfl:=hfl.inv;exact wpAny_mono (iss es hc.2 Q m₁ h₁ s₁ ρ₁ R₁) (ik.back st) (Er.back st)
  | brk=>obtain rfl:=hfl.inv;exact ⟨_,_,_,st,R₁,.brk,h₁⟩
  | cont=>obtain rfl:=hfl.inv;exact ⟨_,_,_,st,R₁,.cont,h₁⟩
  | ret r=>obtain ⟨v,rfl,rv⟩:=hfl.inv;exact ⟨_,_,_,st,R₁,.ret rv,h₁⟩
end
end Internal
end
section
namespace Internal
open PySem PyProof.Rows
theorem eI:∀(es:List (List Nat × MV)) (x:List Nat) (v:MV) (k:List Nat),bn (cG es x v) k=if k=x then some v else bn es k
 | [],x,v,k=>by
  show (match x==k with | true=>some v | false=>none)=_
  by_cases e:k=x
  ·subst e;rw [beq_self_eq_true,if_pos rfl]
  ·rw [if_neg e,beq_eq_false_iff_ne.mpr (Ne.symm e)];rfl
 | (y,w)::r,x,v,k=>by
  have ih:=eI r x v k
  by_cases e:y=x
  ·subst e
   show bn (match y==y with | true=>(y,v)::r | false=>(y,w)::cG r y v) k=_
   rw [beq_self_eq_true]
   show (match y==k with | true=>some v | false=>bn r k)=if k=y then some v else (match y==k with | true=>some w | false=>bn r k)
   by_cases e2:k=y
   ·subst e2;rw [beq_self_eq_true,if_pos rfl]
   ·rw [if_neg e2,beq_eq_false_iff_ne.mpr (Ne.symm e2)]
  ·show bn (match y==x with | true=>(y,v)::r | false=>(y,w)::cG r x v) k=_
   rw [beq_eq_false_iff_ne.mpr e]
   show (match y==k with | true=>some w | false=>bn (cG r x v) k)=if k=x then some v else (match y==k with | true=>some w | false=>bn r k)
   by_cases e2:y=k
   ·subst e2;rw [beq_self_eq_true,if_neg e]
   ·rw [beq_eq_false_iff_ne.mpr e2];exact ih
theorem oP:∀{es:List (List Nat × MV)}{k:List Nat},bn es k≠none→k∈es.map (·.1)
 | [],_,h=>absurd rfl h
 | (y,w)::r,k,h=>by
  by_cases e:y=k
  ·subst e;exact List.mem_cons_self ..
  ·refine List.mem_cons_of_mem _ (oP fun q=>h ?_)
   show (match y==k with | true=>some w | false=>bn r k)=none
   rw [beq_eq_false_iff_ne.mpr e];exact q
section
variable {C:Glo}{F:Fm}{X:XM}{c:Cx}{n:Nat}{ρ:List Addr}{m:MS}{s:Shared}{A:Around}{E:Value→Shared→Prop}
theorem wB (G:GOk C)(cx:av C c F n)(R:Rel C F ρ m s){k i:Nat}{x:List Nat}{y:Str}{v:Value}{u:MV}{uv:Value}(hx:Rep C ρ s.heap (.inst k i) v)(hu:Rep C ρ s.heap u uv){es:List (List Nat × MV)}(hi:m.heap[i]?=some (.attrs es))(hl:es.length<1000)(hy:y=str x)(hno:cM.contains y=true)(ha:c.at_ k y=true){P:Unit→Shared→Prop}
  (h:∀s',aq F.W ρ s ρ s'→Rel C F ρ (m.put i (.attrs (cG es x u))) s'→P () s'):wpAny (mod C) A (setAttr v y uv) P E s:=by
 obtain ⟨a,K,N,da,mA,rfl,hc,hN,hao,hρ,hns,I,had,haK,h1,h2⟩:=kB G R hx hi
 obtain ⟨q1,q2,q3⟩:=G.quiet _ _ hc
 obtain ⟨nm,q,bs,sn,sub,col,dd,k0,k1,k2,k3,k5,e⟩:=kA hN
 obtain ⟨hp,gg,dr,t,os⟩:=s
 subst hy
 refine store_attr (ns:=es.map fun p=>str p.1) PySem.F.store_object e hN.ns q1 (cx.attr _ _ ha) (oL hno) haK I (fun h' tk' I' hk hx'=>?_) (fun z hz=>?_) (by rw [List.length_map,sizeLine_eq];exact n1 hl (by simp +arith only))
 ·obtain ⟨o₁,e1,e2,e3,e4,e5⟩:=hx' _ hao
  have e6:=e5 da rfl
  obtain ⟨o₂,g1,g2,g3,g4⟩:=I'
  obtain rfl:=same e1 g1
  have hns':h'.Ns1 da (fun y=>if y=str x then some uv else mA y):=by
   rcases g4 with ⟨g4,_⟩ | ⟨d',g4,_,g5⟩
   ·exact ba g4 e6
   ·obtain rfl:=same e6 g4;exact g5
  have ho:o₁=jf K da:=by
   obtain ⟨c1,d1,t1,s1⟩:=o₁
   simp only at e2 e3 e4 e6
   subst e2;subst e3;subst e4;subst e6;rfl
  subst ho
  have hkk:∀b ob,b≠da→hp.get? b=some ob→h'.get? b=some ob:=fun b ob hb eb=>by
   by_cases hba:b=a
   ·subst hba;obtain rfl:=same hao eb;exact e1
   ·exact hk b ob hba (fun o₀ dx q1 q2=>by obtain rfl:=same hao q1;obtain rfl:=Option.some.inj q2;exact hb) eb
  have hsol:aX hp h':=cc hkk (bN (R.hp.objs _ _ _ hi hρ))
  obtain ⟨R',st⟩:=R.put (s':=⟨h',gg,dr,tk',os⟩) cx.fm hρ hi (o:=.attrs (cG es x u)) hkk rfl rfl
   (show ui _ _ _ _ _ from ⟨_,hns',fun z w e=>by
    rw [eI] at e
    by_cases ez:z=x
    ·subst ez
     obtain rfl:=Option.some.inj ((if_pos rfl).symm.trans e)
     exact ⟨uv,if_pos rfl,hu.up hsol (List.prefix_refl _)⟩
    ·rw [if_neg ez] at e
     obtain ⟨w',hw,rw'⟩:=h1 z w e
     exact ⟨w',by rw [if_neg fun q=>ez (jJ q)];exact hw,rw'.up hsol (List.prefix_refl _)⟩,fun z e=>by
    rw [eI] at e
    by_cases ez:z=x
    ·subst ez;exact rU ((if_pos rfl).symm.trans e)
    ·rw [if_neg ez] at e
     rw [if_neg fun q=>ez (jJ q)];exact h2 z e,Nat.le_trans (kG es x u) hl⟩)
  exact h _ st R'
 ·have ez:z=str z.cps.toList:=by obtain ⟨⟨l⟩⟩:=z;rfl
  rw [ez]
  refine List.mem_map.mpr ?_
  have hk:z.cps.toList∈es.map (·.1):=oP fun q=>hz (by rw [ez];exact h2 _ q)
  obtain ⟨p,hp,e⟩:=List.mem_map.mp hk
  exact ⟨p,hp,congrArg str e⟩
theorem qt (G:GOk C)(cx:av C c F n){k:Nat}{o e:ME}{x:List Nat}:SS C X n c F (.setAttr k o x e):=by
 intro st hc Q m h
 obtain ⟨hv,hc⟩:=al hc
 obtain ⟨tg,h1,hc⟩:=ae hc
 rw [cA hv rfl,bU h1]
 clear hv h1
 generalize (aM st).e2=v at *
 generalize (aM st).p=pos at *
 obtain ⟨hc,ho⟩:=al hc
 obtain ⟨hc,he⟩:=al hc
 obtain ⟨hox,hcomp⟩:=al hc
 obtain ⟨⟨ov,name,p⟩,hx,ho⟩:=ae ho
 obtain rfl:=j4 hx
 obtain ⟨hc,ho⟩:=al ho
 obtain ⟨hc,hat⟩:=al hc
 obtain ⟨hn,hno⟩:=al hc
 intro s ρ R
 refine plainObj_wpAny_Assign_Attribute ((eH G cx e v he _ m h).go R (.refl _ _ _) fun ρ₁ s₁ m₁ u uv st t1 R₁ ru h₁=>?_) (dY (jj hcomp) hox _ _ _)
 refine (eH G cx o ov ho _ m₁ h₁).go R₁ t1 fun ρ₂ s₂ m₂ y yv st2 t2 R₂ ry h₂=>?_
 obtain ⟨i,rfl,h3⟩:=oc h₂
 obtain ⟨es,hi,hl,hq⟩:=oa h3
 exact wB G cx R₂ ry (ru.step st2) hi hl (qi hn) hno hat fun s' st3 R'=>⟨_,_,.next,t2.trans st3,R',.next,hq⟩
end
end Internal
end
section
namespace Internal
open PySem PyProof.Rows
section
variable {C:Glo}{F:Fm}{X:XM}{c:Cx}{n:Nat}{ρ:List Addr}{m:MS}{s:Shared}{A:Around}{E:Value→Shared→Prop}
theorem wC (G:GOk C)(cx:av C c F n){k:Nat}:SS C X n c F (.raise k):=fun st hc Q m h=>ff h.1
end
end Internal
end
section
namespace Internal
open PySem PyProof.Rows
section
variable {C:Glo}{F:Fm}{X:XM}{c:Cx}{n:Nat}{ρ ρ₀:List Addr}{m:MS}{s s₀:Shared}{A:Around}{E:Value→Shared→Prop}
theorem CX (G:GOk C)(cx:av C c F n)(fo:nz F){body h:List MSt}{k v:Nat}(ib:∀X',SSs C X' n c F body)(ih:∀F',av C (inH c) F' n→nz F'→SSs C noX n (inH c) F' h):SS C X n c F (.try_ body k v h):=fun st hc Q m h=>ff h.1
end
end Internal
end
section
namespace Internal
open PySem PyProof.Rows
section
variable {C:Glo}{n:Nat}
mutual
theorem CY (G:GOk C):∀(me:MSt) (X:XM) (c:Cx) (F:Fm),av C c F n→nz F→SS C X n c F me
 | .asg t many e,X,c,F,cx,fo=>CT G cx
 | .setAttr k o x e,X,c,F,cx,fo=>qt G cx
 | .setIdx o i e,X,c,F,cx,fo=>tx G cx
 | .expr e,X,c,F,cx,fo=>y8 G cx
 | .ite d a b,X,c,F,cx,fo=>CU G cx (dK G a X c F cx fo) (dK G b X c F cx fo)
 | .for_ t many k src body,X,c,F,cx,fo=>CV G cx fo (dK G body X c F cx fo)
 | .while_ d body,X,c,F,cx,fo=>wy G cx fo (dK G body X c F cx fo)
 | .ret e,X,c,F,cx,fo=>CW G cx
 | .cont,X,c,F,cx,fo=>y9
 | .raise k,X,c,F,cx,fo=>wC G cx
 | .try_ body k v h,X,c,F,cx,fo=>CX G cx fo (fun X'=>dK G body X' c F cx fo) fun F' cx' fo'=>dK G h noX _ F' cx' fo'
theorem dK (G:GOk C):∀(ss:List MSt) (X:XM) (c:Cx) (F:Fm),av C c F n→nz F→SSs C X n c F ss
 | [],X,c,F,cx,fo=>zc
 | x::ss,X,c,F,cx,fo=>wA (CY G x X c F cx fo) (dK G ss X c F cx fo)
end
end
end Internal
end
section
namespace Internal
open PySem PyProof.Rows
set_option genCtorIdx false in
structure Sg where
 fn:Nat→Option Str
 gl:Nat→Option (Str × MV)
 hf:Nat→Bool
 cn:Nat→Option Str
 xn:Nat→Option Str
 mt:Nat→Option (Nat × Str)
 at_:Nat→Str→Bool
noncomputable def zd (sc:Scope)(ns:List Str)(z:Sg)(nh:Bool):Cx:=⟨fun x=>sc.names.lookup x,fun i=>ns[i]?,z.fn,z.gl,true,fun i=>decide (ns.length≤i),nh,z.hf,z.cn,z.xn,z.mt,z.at_⟩
noncomputable def rm (C:Glo)(g b:Addr)(z:Sg):Prop:=uN C g b z.fn z.gl z.cn z.xn
structure Gs (C:Glo)(z:Sg):Prop where
 meth:∀f k x,z.mt f=some (k,x)→∃a,C.fa f=some a∧C.cm k x=some (.ref a)∧∃o,C.base.get? a=some o∧o.cls=.type "function"
 attr:∀k x,z.at_ k x=true→C.cm k x=none
 hf:z.hf=C.hf
noncomputable def nC (sc:Scope)(ps ns:List Str):Bool:=
 ps.isPrefixOf ns&&decide ns.Nodup&&ns.all (fun x=>sc.names.lookup x==some .local||(sc.names.lookup x==some .cell&&((cellsFrom 0 sc.names []).lookup x).isSome))
theorem oQ {sc:Scope}{ps ns:List Str}(h:nC sc ps ns=true):ps<+:ns∧ns.Nodup∧∀x∈ns,sc.names.lookup x=some .local∨(sc.names.lookup x=some .cell∧((cellsFrom 0 sc.names []).lookup x).isSome=true):=by
 obtain ⟨h,h3⟩:=al h
 obtain ⟨h1,h2⟩:=al h
 refine ⟨List.isPrefixOf_iff_prefix.mp h1,of_decide_eq_true h2,fun x hx=>?_⟩
 rcases Bool.or_eq_true_iff.mp (List.all_eq_true.mp h3 x hx) with q | q
 ·exact .inl (eq_of_beq q)
 ·exact .inr ⟨eq_of_beq (al q).1,(al q).2⟩
inductive EY (C:Glo)(z:Sg)(nh:Bool)(d:Fn)(a:Addr):Prop
 | mk (o:Obj) (fd:FuncData) (body:List Stmt) (ps ns:List Str) (ho:C.base.get? a=some o) (hd:o.data=.func fd) (hcd:C.base.CodeRec fd.code fd.qualname) (hbody:fd.body=.stmts body) (hclo:fd.closure=[]) (hco:fd.scope.isCoroutine=false) (hgen:fd.scope.isGenerator=false)
   (hk:fd.scope.kind=.function) (hbind:∀vals:List Value,vals.length=ps.length→bindArgs fd ⟨vals,[]⟩=pure (ps.zip vals)) (hps:ps.length=d.args) (hns:nC fd.scope ps ns=true) (hchk:gz (zd fd.scope ns z nh) d.body body=true) (hgl:rm C fd.globals fd.builtins z)
noncomputable def ro (C:Glo)(z:Sg)(P:Nat→Option Fn):Prop:=Gs C z∧∀f d a,P f=some d→C.fa f=some a→EY C z (!C.hf f) d a
theorem dw:∀(names:List (Str × NameKind)) (n k:Nat) (acc acc':List (Str × Addr)) (x:Str),(∀y,(acc.lookup y).isSome=(acc'.lookup y).isSome)→((cellsFrom n names acc).lookup x).isSome=((cellsFrom k names acc').lookup x).isSome
 | [],n,k,acc,acc',x,h=>h x
 | (y,kd)::r,n,k,acc,acc',x,h=>by
  unfold cellsFrom
  split
  ·refine dw r _ _ _ _ x fun z=>?_
   simp only [List.lookup_cons]
   split
   ·rfl
   ·exact h z
  ·exact dw r _ _ _ _ x h
section
variable {C:Glo}{ρ:List Addr}{h:Heap}
theorem ze {ps:List Str}{ws:List Value}(hl:ws.length=ps.length){i:Nat}{x:Str}{w:Value}(e1:ps[i]?=some x)(e2:ws[i]?=some w):(ps.zip ws)[i]?=some (x,w):=by
 rw [List.getElem?_zip_eq_some];exact ⟨e1,e2⟩
theorem jm (k:Str→Option NameKind):∀(l:List (Str × Value)) (m:Str→Option Value) (x:Str),(∀p∈l,p.1≠x)→bindL k l m x=m x
 | [],m,x,_=>rfl
 | (n,v)::r,m,x,h=>by
  unfold bindL
  rw [jm k r _ x fun p hp=>h p (List.mem_cons_of_mem _ hp)]
  have:n≠x:=h _ (List.mem_cons_self ..)
  split
  ·exact if_neg fun q:x=n=>this q.symm
  ·rfl
theorem jn (k:Str→Option NameKind):∀(l:List (Str × Value)) (m:Str→Option Value) (x:Str),(∀p∈l,p.1≠x)→bindC k l m x=m x
 | [],m,x,_=>rfl
 | (n,v)::r,m,x,h=>by
  unfold bindC
  rw [jn k r _ x fun p hp=>h p (List.mem_cons_of_mem _ hp)]
  have:n≠x:=h _ (List.mem_cons_self ..)
  split
  ·rfl
  ·exact if_neg fun q:x=n=>this q.symm
theorem tz (k:Str→Option NameKind)(l:List (Str × Value))(m:Str→Option Value)(x:Str)(w:Value)(hn:(l.map (·.1)).Nodup)(hm:(x,w)∈l)(hk:k x=some .local):bindL k l m x=some w:=by
 induction l generalizing m with
 | nil=>exact aN hm
 | cons p r ih=>
  obtain ⟨h1,h2⟩:=List.nodup_cons.mp hn
  unfold bindL
  rcases List.mem_cons.mp hm with e | hm
  ·subst e
   rw [jm k r _ _ fun p hp q=>h1 (List.mem_map.mpr ⟨p,hp,q⟩),if_pos hk];exact if_pos rfl
  ·exact ih _ h2 hm
theorem tC (k:Str→Option NameKind)(l:List (Str × Value))(m:Str→Option Value)(x:Str)(w:Value)(hn:(l.map (·.1)).Nodup)(hm:(x,w)∈l)(hk:k x≠some .local):bindC k l m x=some w:=by
 induction l generalizing m with
 | nil=>exact aN hm
 | cons p r ih=>
  obtain ⟨n,v⟩:=p
  simp only [List.map_cons,List.nodup_cons] at hn
  unfold bindC
  rcases List.mem_cons.mp hm with e | hm
  ·cases e
   rw [jn k r _ _ fun p hp q=>hn.1 (List.mem_map.mpr ⟨p,hp,q⟩),if_neg hk];simp
  ·exact ih _ hn.2 hm
theorem tD {d:Fn}{vs:List MV}{hp:List MO}{i:Nat}{v:MV}(e:(dm d vs hp).get i=some v):vs[i]?=some v:=by
 have hw:(vs.map some++List.replicate _ none)[i]?=some (some v):=MS.get_at e
 rcases Nat.lt_or_ge i (vs.map some).length with hi | hi
 ·rw [List.getElem?_append_left hi,List.getElem?_map] at hw
  obtain ⟨u,h1,h2⟩:=Option.map_eq_some_iff.mp hw
  exact h1.trans h2
 ·rw [List.getElem?_append_right hi] at hw
  exact az (List.eq_of_mem_replicate (List.mem_of_getElem? hw)).symm
noncomputable def iX (A:Around)(env:Env)(ns:List Str)(frs:List Addr):Fm where
 env:=env
 A:=A.deeper env
 W:=env.locals::ns.filterMap (fun x=>if env.kindOf x=some .local then none else env.cells.lookup x)
 V:=[]
 lay:=fun i=>match ns[i]? with
  | some x=>if env.kindOf x=some .local then some (.nm env.locals x) else match env.cells.lookup x with
   | some c=>some (.cl c)
   | none=>none
  | none=>none
 frs:=env.locals::frs
theorem zg {A:Around}{env:Env}{ns:List Str}{frs:List Addr}{i:Nat}{l:Loc}(e:(iX A env ns frs).lay i=some l):∃x,ns[i]?=some x∧((env.kindOf x=some .local∧l=.nm env.locals x)∨(env.kindOf x≠some .local∧∃c,env.cells.lookup x=some c∧l=.cl c)):=by
 replace e:(match ns[i]? with
  | some x=>if env.kindOf x=some .local then some (.nm env.locals x) else match env.cells.lookup x with
   | some c=>some (.cl c)
   | none=>none
  | none=>none)=some l:=e
 cases hx:ns[i]? with
 | none=>rw [hx] at e;exact az e
 | some x=>
  rw [hx] at e
  refine ⟨x,rfl,?_⟩
  by_cases q:env.kindOf x=some .local
  ·exact .inl ⟨q,(Option.some.inj ((if_pos q).symm.trans e)).symm⟩
  ·replace e:=(if_neg q).symm.trans e
   cases hc:env.cells.lookup x with
   | none=>rw [hc] at e;exact az e
   | some c=>rw [hc] at e;exact .inr ⟨q,c,rfl,(Option.some.inj e).symm⟩
inductive CZ (C:Glo)(Q:MV→List MO→Prop)(ρ:List Addr)(s:Shared)(v:Value)(s':Shared):Prop
 | mk (ρ':List Addr) (hp':List MO) (x:MV) (st:aq [] ρ s ρ' s') (H:Hp C ρ' hp' s'.heap) (rx:Rep C ρ' s'.heap x v) (hq:Q x hp'):CZ C Q ρ s v s'
theorem mz (G:GOk C){z:Sg}{P:Nat→Option Fn}(H:ro C z P){n f:Nat}{vs:List MV}{Q:MV→List MO→Prop}{X:XT}{hp:List MO}{d:Fn}(hP:P f=some d)(hlen:vs.length=d.args)
  (hw:aP (Call C) n d.body (fin Q) (xin X) (dm d vs hp)) {A:Around}{s:Shared}{ws:List Value}{a:Addr}(hA:A.handled=none∨C.hf f=true) (hH:Hp C ρ hp s.heap) (hgens:s.gens=#[]) (rl:aA C ρ s.heap vs ws)
  {frs:List Addr}(hfrs:∃es,A.frames=some es∧∀e∈es,e.scope.kind≠.module∧∃L∈frs,e.frame=some L) (hout:∀L∈frs,Ei C ρ s.heap L)
  (hroom:A.depth+(n+1)≤999) (hunits:A.units≤3 * A.depth+4) (hfa:C.fa f=some a) :
  wpAny (mod C) A (call (.ref a) ws) (CZ C Q ρ s) (ErC C X ρ s) s:=by
 obtain ⟨o,fd,body,ps,ns,ho,hd,hcd,hbody,hclo,hco,hgen,hk,hbind,hps,hns,hchk,hgl⟩:=H.2 f d a hP hfa
 obtain ⟨hpre,hnd,hall⟩:=oQ hns
 have hwl:ws.length=ps.length:=by rw [rl.length,hlen,hps]
 have hmem:∀x∈ps,x∈ns:=fun x hx=>hpre.subset hx
 have hcellS:∀k x,((cellsFrom k fd.scope.names []).lookup x).isSome=((cellsFrom 0 fd.scope.names []).lookup x).isSome:=fun k x=>dw _ _ _ _ _ _ fun _=>rfl
 have hzip:∀p∈ps.zip ws,p.1∈ps:=fun p hp=>(List.of_mem_zip (a:=p.1) (b:=p.2) hp).1
 have hzn:((ps.zip ws).map (·.1)).Nodup:=by
  rw [List.map_fst_zip (n1 (Nat.le_of_eq hwl.symm) (by simp +arith only))]
  exact hnd.sublist hpre.sublist
 refine wpAny_call (codeAny_call_cells (by show _<1000;exact n1 hroom (by simp +arith only)) (hH.base _ _ ho) hd (G.nolimit.keeps hH.base) (hcd.keeps hH.base) hbody (hbind ws hwl) hclo (fun x hx=>?_) (fun s₁ ic=>?_) hco hgen hk)
 ·rcases hall _ (hmem _ (hzip x hx)) with q | ⟨q,q'⟩
  ·exact .inl q
  ·exact .inr ⟨q,by rw [hcellS];exact q'⟩
 ·generalize henv:callEnvC fd s.heap.objs.size a=env at ic ⊢
  have eL:env.locals=s.heap.objs.size:=by rw [←henv];rfl
  have eK:∀x,env.kindOf x=fd.scope.names.lookup x:=fun x=>by rw [←henv];rfl
  have eC:env.cells=cellsFrom (s.heap.objs.size+1) fd.scope.names []:=by rw [←henv];rfl
  have eS:env.scope=fd.scope:=by rw [←henv];rfl
  have eF:env.frame=some env.locals:=by rw [←henv];rfl
  have eG:env.globals=fd.globals∧env.builtins=fd.builtins:=by rw [←henv];exact ⟨rfl,rfl⟩
  obtain ⟨⟨⟨h₁,tk,hs₁⟩,hns1,hkeep,hfresh⟩,hcell,hapart,habove⟩:=ic
  have fL:s.heap.get? env.locals=none:=bB hfresh
  have hcl:∀x c,env.cells.lookup x=some c→s₁.heap.IsCell c (bindC env.kindOf (ps.zip ws) (fun _=>none) x)∧s.heap.get? c=none:=fun x c e=>by
   refine ⟨hcell x c e,bB ?_⟩
   have:=habove x c (mem_of_lookup e)
   exact Nat.le_of_lt (Nat.lt_of_le_of_lt hfresh this)
  have hg1:s₁.gens=s.gens∧s₁.os=s.os:=by rw [hs₁];exact ⟨rfl,rfl⟩
  have hW:∀b∈(iX A env ns frs).W,s.heap.get? b=none∧WOk s₁.heap b:=fun b hb=>by
   rcases List.mem_cons.mp hb with rfl | hb
   ·obtain ⟨o,es,ep,e1,e2,_⟩:=hns1
    exact ⟨fL,o,e1,.inl ⟨es,ep,e2⟩⟩
   ·obtain ⟨x,hx,e⟩:=List.mem_filterMap.mp hb
    split at e
    ·exact az e
    ·obtain ⟨⟨o,e1,e2⟩,e3⟩:=hcl x b e
     exact ⟨e3,o,e1,.inr ⟨_,e2⟩⟩
  have hlay:∀i l,(iX A env ns frs).lay i=some l→∃x,ns[i]?=some x∧((env.kindOf x=some .local∧l=.nm env.locals x)∨(env.kindOf x≠some .local∧∃c,env.cells.lookup x=some c∧l=.cl c)):=fun i l e=>zg e
  have hidx:∀(i j:Nat) (x:Str),ns[i]?=some x→ns[j]?=some x→i=j:=fun i j x e1 e2=>by
   have h1:=List.getElem?_eq_some_iff.mp e1
   have h2:=List.getElem?_eq_some_iff.mp e2
   exact (List.getElem_inj hnd).mp (h1.2.trans h2.2.symm)
  have ok':aQ (iX A env ns frs):=by
   refine ⟨List.mem_cons_self ..,fun i l e=>?_,fun i j l e1 e2=>?_,?_,?_⟩
   ·obtain ⟨x,hx,⟨q,rfl⟩ | ⟨q,c,hc,rfl⟩⟩:=hlay i l e
    ·exact List.mem_cons_self ..
    ·refine List.mem_append_left _ (List.mem_cons_of_mem _ (List.mem_filterMap.mpr ⟨x,List.mem_of_getElem? hx,?_⟩))
     rw [if_neg q];exact hc
   ·obtain ⟨x,hx,q1⟩:=hlay i l e1
    obtain ⟨y,hy,q2⟩:=hlay j l e2
    rcases q1 with ⟨_,rfl⟩ | ⟨_,c,hc,rfl⟩
    ·rcases q2 with ⟨_,q⟩ | ⟨_,c',_,q⟩
     ·cases q;exact hidx i j x hx hy
     ·cases q
    ·rcases q2 with ⟨_,q⟩ | ⟨_,c',hc',q⟩
     ·cases q
     ·cases q
      have:=name_of_addr hapart (mem_of_lookup hc) (mem_of_lookup hc')
      subst this
      exact hidx i j x hx hy
   ·show env.scope.kind=.function
    rw [eS];exact hk
   ·obtain ⟨es,h1,h2⟩:=hfrs
    refine ⟨env::es,by show A.frames.map (env::·)=_;rw [h1];rfl,fun e he=>?_⟩
    rcases List.mem_cons.mp he with rfl | he
    ·exact ⟨by rw [eS,hk];decide,_,List.mem_cons_self ..,eF⟩
    ·obtain ⟨q1,L,q2,q3⟩:=h2 e he
     exact ⟨q1,L,List.mem_cons_of_mem _ q2,q3⟩
  have fo:nz (iX A env ns frs):=by
   obtain ⟨es,h1,_⟩:=hfrs
   exact ⟨⟨es,by show A.frames.map (env::·)=_;rw [h1];rfl⟩,eF⟩
  have cx:av C (zd fd.scope ns z (!C.hf f)) (iX A env ns frs) n:=by
   refine ⟨ok',fun x=>eK x,fun i x e=>?_,?_,H.1.meth,H.1.attr,fun e=>?_,H.1.hf,?_,?_,?_,fun i a e _=>(List.mem_append.mp (ok'.lay i _ e)).elim id (fun q=>nomatch q),fun i e=>?_⟩
   ·have hx:ns[i]?=some x:=e
    rcases hall x (List.mem_of_getElem? hx) with q | ⟨q,q'⟩
    ·refine .inl ⟨(eK x).trans q,?_⟩
     simp only [iX,hx,eK,q,if_true]
    ·have hne:fd.scope.names.lookup x≠some .local:=by rw [q];intro q;cases q
     rw [←hcellS (s.heap.objs.size+1),←eC] at q'
     obtain ⟨c,hc⟩:=Option.isSome_iff_exists.mp q'
     refine .inr ⟨c,.inl ((eK x).trans q),hc,?_⟩
     simp only [iX,hx,eK,q,hc]
     rfl
   ·show rm C env.globals env.builtins z
    rw [eG.1,eG.2];exact hgl
   ·refine hA.resolve_right fun q=>?_
    replace e:(!C.hf f)=true:=e
    rw [q] at e;cases e
   ·show A.units+3≤3 * (A.depth+1)+4
    exact n1 hunits (by simp +arith only)
   ·show A.depth+1+n≤999
    exact n1 hroom (by simp +arith only)
   ·show interactive env=false
    unfold interactive
    rw [eS,hk];rfl
   ·have e:ns.length≤i:=by simpa [zd] using e
    simp only [iX,List.getElem?_eq_none e]
  have hk':∀b ob,s.heap.get? b=some ob→s₁.heap.get? b=some ob:=hkeep
  have hs0:aX s.heap s₁.heap:=fun b ob e _=>hk' b ob e
  have R₁:Rel C (iX A env ns frs) ρ (dm d vs hp) s₁:=by
   refine ⟨?_,⟨_,hns1⟩,fun b hb=>?_,fun i v e=>?_,fun i c e=>?_,fun L hL=>?_,hg1.1.trans hgens⟩
   ·show Hp C ρ hp s₁.heap
    exact hH.up hs0 (fun b _ ob e=>hk' b ob e) fun b ob e=>hk' b ob (hH.base b ob e)
   ·have hb:b∈(iX A env ns frs).W:=(List.mem_append.mp hb).elim id fun q=>by exact aN q
    obtain ⟨h1,h2⟩:=hW b hb
    refine ⟨fun q=>?_,bM (m:=⟨[],hp⟩) hH h1,h2⟩
    obtain ⟨o',e'⟩:=Hp.there (m:=⟨[],hp⟩) hH q
    exact ba h1 e'
   ·have hv:=tD e
    obtain ⟨w,hw1,hw2⟩:=rl.get hv
    have hi:i<ps.length:=by rw [←hwl];exact (List.getElem?_eq_some_iff.mp hw1).1
    have hpi:ps[i]?=some ps[i]:=List.getElem?_eq_getElem hi
    have hni:ns[i]?=some ps[i]:=by
     obtain ⟨t,rfl⟩:=hpre
     rw [List.getElem?_append_left hi];exact hpi
    have hz:(ps[i],w)∈ps.zip ws:=List.mem_of_getElem? (ze hwl hpi hw1)
    rcases cx.nm i ps[i] hni with ⟨q1,q2⟩ | ⟨c,q1,q2,q3⟩
    ·refine ⟨_,q2,_,w,hns1,?_,hw2.up hs0 (List.prefix_refl _)⟩
     exact tz _ _ _ _ _ hzn hz q1
    ·refine ⟨_,q3,w,?_,hw2.up hs0 (List.prefix_refl _)⟩
     have:=(hcl ps[i] c q2).1
     rw [tC _ _ _ _ w hzn hz] at this
     ·exact this
     ·intro q
      have q1':env.kindOf ps[i]=some .cell∨env.kindOf ps[i]=some .free∧cdc ps[i]=false:=q1
      rw [q] at q1'
      rcases q1' with q1' | ⟨q1',_⟩<;>cases q1'
   ·obtain ⟨x,hx,⟨q,q'⟩ | ⟨q,c',hc,q'⟩⟩:=hlay i _ e
    ·cases q'
    ·cases q';exact ⟨_,(hcl x c hc).1⟩
   ·rcases List.mem_cons.mp hL with rfl | hL
    ·refine ⟨fun q=>?_,bM (m:=⟨[],hp⟩) hH fL,?_⟩
     ·obtain ⟨o',e'⟩:=Hp.there (m:=⟨[],hp⟩) hH q
      exact ba fL e'
     ·obtain ⟨o,es,ep,e1,e2,_⟩:=hns1
      exact ⟨o,e1,es,ep,e2⟩
    ·obtain ⟨h1,h2,o,h3,h4⟩:=hout L hL
     exact ⟨h1,h2,o,hk' L o h3,h4⟩
  have hnW:∀b ob,s.heap.get? b=some ob→b∉(iX A env ns frs).W:=fun b ob e q=>by rw [(hW b q).1] at e;exact az e
  have hnn:∀b,s₁.heap.get? b=none→s.heap.get? b=none:=fun b q=>by
   cases e:s.heap.get? b with
   | none=>rfl
   | some ob=>rw [hk' b ob e] at q;exact rU q
  have hst:∀{ρ' s'},aq (iX A env ns frs).W ρ s₁ ρ' s'→aq [] ρ s ρ' s':=fun {ρ' s'} st=>
   ⟨st.pre,fun b hb=>(st.new b hb).imp id (hnn b),fun b ob e h1 _=>st.keep b ob (hk' b ob e) h1 (hnW b ob e),fun b ob e hsd=>st.solid b ob (hk' b ob e) hsd,fun b ob e=>st.alive b ob (hk' b ob e),st.gens.trans hg1.1,st.os.trans hg1.2⟩
  refine wpAny_mono (dK G d.body (xin X) _ _ cx fo body hchk (fin Q) (dm d vs hp) hw s₁ ρ R₁) (fun fl s' hf=>?_) fun e s' he=>?_
  rotate_left
  ·exact False.elim he
  obtain ⟨ρ',m',f',st,R',hfl,hq⟩:=hf
  have key:∀v x,Rep C ρ' s'.heap x v→Q x m'.heap→CZ C Q ρ s v s':=fun v x rx hq=>⟨ρ',m'.heap,x,hst st,R'.hp,rx,hq⟩
  cases f' with
  | next=>obtain rfl:=hfl.inv;exact key .none .none .none hq
  | brk=>exact hq.elim
  | cont=>exact hq.elim
  | ret r=>obtain ⟨v,rfl,rv⟩:=hfl.inv;exact key _ _ rv hq
theorem tE {F:Fm}{m:MS}{s s':Shared}{ρ':List Addr}{hp':List MO}(okF:aQ F)(R:Rel C F ρ m s)(st:aq [] ρ s ρ' s')(hH:Hp C ρ' hp' s'.heap):aq F.W ρ s ρ' s'∧Rel C F ρ' ⟨m.vars,hp'⟩ s':=by
 have hD:∀b ob,s.heap.get? b=some ob→b∉ρ→jg s.heap s'.heap b:=fun b ob e hb ob' e'=>by
  obtain rfl:=same e e'
  rcases st.keep b ob e hb (by exact List.not_mem_nil) with q | ⟨_,sl,q⟩
  ·exact ⟨_,q,rfl,rfl⟩
  ·exact ⟨_,q,rfl,rfl⟩
 refine ⟨⟨st.pre,st.new,fun b ob e h1 _=>st.keep b ob e h1 (by exact List.not_mem_nil),st.solid,st.alive,st.gens,st.os⟩,R.up okF st.solid st.pre hH st.new (fun b hb=>?_) (fun L hL=>?_) st.gens⟩
 ·obtain ⟨h1,_,ob,e,_⟩:=R.w b hb
  exact hD b ob e h1
 ·obtain ⟨h1,_,ob,e,_⟩:=R.out L hL
  exact hD L ob e h1
set_option tactic.hygienic true in
theorem C0 (G:GOk C){z:Sg}{P:Nat→Option Fn}(H:ro C z P):aV P (Call C):=by
 intro n f vs Q X hp d hP hlen hw F m s ρ ws a okF hA hm R rl hroom hunits hfa
 refine wpAny_mono (mz G H hP hlen hw hA (by rw [←hm];exact R.hp) R.gens rl okF.frs R.out hroom hunits hfa) (fun v s' hr=>?_) fun e s' hr=>?_
 ·obtain ⟨ρ',hp',x,st,hH,rx,hq⟩:=hr
  obtain ⟨st',R'⟩:=tE okF R st hH
  exact ⟨ρ',⟨m.vars,hp'⟩,x,st',R',rx,rfl,hq⟩
 ·exact False.elim hr
end
end Internal
end
section
namespace Internal
open PySem
noncomputable def eJ (ns:List Str)(mg:Str→Option Value)(h:Heap):Prop:=ns=[]
theorem eJ.keeps {ns:List Str}{mg:Str→Option Value}{h h':Heap}(x:eJ ns mg h)(k:∀b o,h.get? b=some o→h'.get? b=some o):eJ ns mg h':=x
end Internal
end
section
namespace Internal
open PySem
noncomputable def iY (x:Str)(es:List (List Nat × Int))(prog:Program)(w:World)(h:Heap):Prop:=∃mg a kvs,h.Ns mainGlobals mg∧mg x=some (.ref a)∧(a==sysModules)=false∧h.DictOf (strKind prog w) a kvs∧CK es kvs
theorem qu {e:DictEntry}{x:Int × Str × Int}(h:iM e=some x):∃k t i u,e.key=.str k t∧e.val=.int i u∧x=(e.hash,k,i):=by
 unfold iM at h
 cases hk:e.key with
 | str k t=>
  rw [hk] at h
  cases hv:e.val with
  | int i u=>rw [hv] at h;exact ⟨k,t,i,u,rfl,rfl,(Option.some.inj h).symm⟩
  | _=>rw [hv] at h;exact az h
 | _=>rw [hk] at h;exact az h
theorem lK {e:DictEntry}{l:List DictEntry}{ys:List (Int × Str × Int)}(h:di (e::l)=some ys):∃x xs,iM e=some x∧di l=some xs∧ys=x::xs:=by
 replace h:(match iM e with
  | some x=>match di l with
   | some xs=>some (x::xs)
   | none=>none
  | none=>none)=some ys:=h
 cases h1:iM e with
 | none=>rw [h1] at h;exact az h
 | some x=>
  rw [h1] at h
  cases h2:di l with
  | none=>rw [h2] at h;exact az h
  | some xs=>rw [h2] at h;exact ⟨x,xs,rfl,rfl,(Option.some.inj h).symm⟩
theorem qv {prog:Program}{w:World}{es:List (List Nat × Int)}{l:List DictEntry}(h:di l=some (es.map fun p=>(hashStr w (str p.1),str p.1,p.2)))(hl:∀p∈es,p.1.length≤line) :
  ∃kvs,(∀e∈l,∃k,(strKind prog w).is k e.key=true∧e.hash=(strKind prog w).hash k)∧Pairs (strKind prog w) l kvs∧CK es kvs∧kvs.map (·.1)=es.map fun p=>str p.1:=by
 induction l generalizing es with
 | nil=>
  cases es with
  | nil=>exact ⟨[],fun e he=>aN he,.nil,.nil,rfl⟩
  | cons=>exact nomatch Option.some.inj h
 | cons e l ih=>
  obtain ⟨x,xs,h1,h2,h3⟩:=lK h
  cases es with
  | nil=>exact nomatch h3
  | cons p es=>
   obtain ⟨hx,rfl⟩:=List.cons.inj h3
   obtain ⟨kvs,k1,k2,k3,k4⟩:=ih h2 fun p hp=>hl p (List.mem_cons_of_mem _ hp)
   obtain ⟨s,t,j,u,ek,ev,rfl⟩:=qu h1
   have e1:hashStr w (str p.1)=e.hash:=congrArg Prod.fst hx
   obtain rfl:str p.1=s:=congrArg (fun q=>q.2.1) hx
   obtain rfl:p.2=j:=congrArg (fun q=>q.2.2) hx
   have hk:(strKind prog w).is (str p.1) e.key=true:=by rw [ek];exact beq_self_eq_true _
   refine ⟨(str p.1,.int p.2 u)::kvs,fun e' he=>?_,.cons hk ev k2,.cons (hl _ (List.mem_cons_self ..)) k3,congrArg (str p.1::·) k4⟩
   rcases List.mem_cons.mp he with rfl | he
   ·exact ⟨str p.1,hk,e1.symm⟩
   ·exact k1 e' he
theorem EZ {prog:Program}{w:World}{x:Str}{es:List (List Nat × Int)}(hl:∀p∈es,p.1.length≤line)(hn:(es.map fun p=>str p.1).Nodup){s:Shared}(h:lM x s=nZ es w):iY x es prog w s.heap:=by
 unfold lM at h
 refine Classical.byContradiction fun hz=>?_
 cases ha:s.heap.nsMap mainGlobals x with
 | none=>rw [ha] at h;exact az h
 | some v=>
 rw [ha] at h
 cases v with
 | ref a=>
  dsimp only at h
  cases ho:s.heap.get? a with
  | none=>rw [ho] at h;exact az h
  | some o=>
  rw [ho] at h
  dsimp only at h
  cases hd:o.data with
  | dict ds ep=>
   rw [hd] at h
   dsimp only at h
   cases hc:(a != sysModules&&o.cls==.type "dict"&&o.dict.isNone&&o.slots.size==0&&s.heap.isNs mainGlobals) with
   | false=>rw [hc] at h;exact az h
   | true=>
     rw [hc] at h
     refine hz ?_
     obtain ⟨hc,h5⟩:=Bool.and_eq_true_iff.mp hc
     obtain ⟨hc,h4⟩:=Bool.and_eq_true_iff.mp hc
     obtain ⟨hc,h3⟩:=Bool.and_eq_true_iff.mp hc
     obtain ⟨h1,h2⟩:=Bool.and_eq_true_iff.mp hc
     obtain ⟨kvs,k1,k2,k3,k4⟩:=qv (prog:=prog) h hl
     refine ⟨_,a,kvs,.of_isNs h5,ha,by simpa using h1,⟨o,ds,ep,ho,⟨eq_of_beq h2,Option.isNone_iff_eq_none.mp h3,?_⟩,hd,fun e he=>k1 e (by simpa using he),k2,by rw [k4];exact hn⟩,k3⟩
     exact Array.eq_empty_of_size_eq_zero (eq_of_beq h4)
  | _=>rw [hd] at h;exact az h
 | _=>exact az h
theorem iY.keeps {x:Str}{es:List (List Nat × Int)}{prog:Program}{w:World}{h h':Heap}(y:iY x es prog w h)(k:∀b o,h.get? b=some o→h'.get? b=some o):iY x es prog w h':=by
 obtain ⟨mg,a,kvs,h1,h2,h3,⟨o,ds,ep,e,r⟩,h5⟩:=y
 exact ⟨mg,a,kvs,h1.keeps k,h2,h3,⟨o,ds,ep,k _ _ e,r⟩,h5⟩
end Internal
end
section
namespace Internal
open PySem PyProof.Rows
noncomputable abbrev Tab:=List (Nat × Str × List Str × Fn)
noncomputable abbrev zh:=List (Nat × Nat × Str × List Str × Fn)
noncomputable abbrev Gu:=List (Nat × Str × List Str)
noncomputable def oS (tab:Tab)(f:Nat):Option Str:=(tab.lookup f).map (·.1)
noncomputable def fnP (tab:Tab)(f:Nat):Option Fn:=(tab.lookup f).map (·.2.2)
noncomputable def tF (mt:zh)(f:Nat):Option (Nat × Str):=(mt.lookup f).map fun e=>(e.1,e.2.1)
noncomputable def mtP (mt:zh)(f:Nat):Option Fn:=(mt.lookup f).map (·.2.2.2)
set_option genCtorIdx false in
structure gm where
 tab:Tab
 mt:zh
 ct:Gu
 xs:List Str
 hf:Nat→Bool
 gl:Nat→Option (Str × MV)
noncomputable def gm.P (t:gm)(f:Nat):Option Fn:=(fnP t.tab f).or (mtP t.mt f)
noncomputable def gm.sg (t:gm):Sg where
 fn:=oS t.tab
 gl:=t.gl
 hf:=t.hf
 cn k:=(t.ct.lookup k).map (·.1)
 xn k:=t.xs[k]?
 mt:=tF t.mt
 at_ k y:=match t.ct.lookup k with
  | some e=>e.2.contains y
  | none=>false
noncomputable def cY:Option Value→Option Addr
 | some (.ref a)=>some a
 | _=>none
noncomputable def kH (z:Sg)(nh:Bool)(ns:List Str)(d:Fn)(params:Arguments)(scope:Scope)(body:List Stmt):Bool:=
 params.posonlyargs.isEmpty&&params.vararg.isNone&&params.kwonlyargs.isEmpty&&params.kwarg.isNone&&!scope.isCoroutine&&!scope.isGenerator&&scope.kind==.function&&
 (params.args.map (·.arg)).length==d.args&&nC scope (params.args.map (·.arg)) ns&&gz (zd scope ns z nh) d.body body
noncomputable def oU (recs:List DefRec)(t:gm):Bool:=
 t.tab.all fun e=>recs.any fun r=>r.name==e.2.1&&kH t.sg (!t.hf e.1) e.2.2.1 e.2.2.2 r.params r.scope r.body
noncomputable def kI (cs:List ClsRec)(t:gm):Bool:=
 t.mt.all fun e=>(t.tab.lookup e.1).isNone&&ao (t.ct.lookup e.2.1) fun c=>cs.any fun k=>k.name==c.1&&k.meths.any fun m=>m.name==e.2.2.1&&kH t.sg (!t.hf e.1) e.2.2.2.1 e.2.2.2.2 m.params m.scope m.body
noncomputable def oV (cs:List ClsRec)(t:gm):Bool:=t.ct.all fun e=>cs.any fun k=>k.name==e.2.1&&e.2.2.all fun x=>k.statics.contains x
noncomputable def eqV (v w:Value):Bool:=match v with
 | .builtin a=>match w with
  | .builtin b=>a==b
  | _=>false
 | .type a=>match w with
  | .type b=>a==b
  | _=>false
 | _=>false
theorem C1 {v w:Value}(h:eqV v w=true):v=w:=by
 cases v with
 | builtin a=>
  cases w with
  | builtin b=>exact congrArg _ (eq_of_beq h)
  | _=>exact ff h
 | type a=>
  cases w with
  | type b=>exact congrArg _ (eq_of_beq h)
  | _=>exact ff h
 | _=>exact ff h
noncomputable def AF (p:Program)(loose:List Str):Bool:=
 b0.all fun q=>!startupNames.contains q.1&&!loose.contains q.1&&!((recsOf p).map (·.name)).contains q.1&&!((litsOf p).map (·.1)).contains q.1&&!((clssOf p loose).map (·.name)).contains q.1&&!(q.1==("__name__":Str))&&
  ao (bootBuiltins q.1) (eqV q.2)
set_option tactic.hygienic true in
theorem dy {α:Type}:∀{l:List (Nat × α)}{k:Nat}{v:α},l.lookup k=some v→(k,v)∈l
 | [],k,v,h=>by exact az h
 | (a,b)::r,k,v,h=>by
  rw [List.lookup_cons] at h
  split at h
  ·rename_i e
   obtain rfl:=Option.some.inj h
   have:k=a:=by exact eq_of_beq e
   subst this
   exact List.mem_cons_self ..
  ·exact List.mem_cons_of_mem _ (dy h)
set_option tactic.hygienic true in
theorem kJ:∀{ps:List Str}{vs:List Value}{x:Str},vs.length=ps.length→x∈ps→((ps.zip vs).lookup x).isSome=true
 | [],_,_,_,h=>by exact aN h
 | p::ps,[],_,h,_=>by cases h
 | p::ps,v::vs,x,hl,h=>by
  rw [List.zip_cons_cons,List.lookup_cons]
  split
  ·rfl
  ·rename_i e
   refine kJ (by simpa using hl) ?_
   rcases List.mem_cons.mp h with rfl | h
   ·simp at e
   ·exact h
theorem gC:∀{ps:List Str}{vs:List Value}(pre:List (Str × Value)),vs.length=ps.length→ps.Nodup→(∀x∈ps,pre.lookup x=none)→ps.filterMap (fun n=>((pre++ps.zip vs).lookup n).map (n,·))=ps.zip vs
 | [],_,_,_,_,_=>rfl
 | p::ps,[],_,h,_,_=>by cases h
 | p::ps,v::vs,pre,hl,hn,hp=>by
  rw [List.nodup_cons] at hn
  have e1:(pre++(p::ps).zip (v::vs)).lookup p=some v:=by
   rw [List.lookup_append,hp p (List.mem_cons_self ..)]
   simp [List.lookup_cons]
  rw [List.filterMap_cons,e1]
  simp only [Option.map_some]
  rw [List.zip_cons_cons]
  congr 1
  have e2:pre++(p,v)::ps.zip vs=(pre++[(p,v)])++ps.zip vs:=by simp
  rw [e2]
  refine gC (pre++[(p,v)]) (by simpa using hl) hn.2 fun x hx=>?_
  rw [List.lookup_append,hp x (List.mem_cons_of_mem _ hx)]
  have:(x==p)=false:=by
   cases e:x==p with
   | false=>rfl
   | true=>
    have:x=p:=by exact eq_of_beq e
    subst this;exact absurd hx hn.1
  simp [List.lookup_cons,this]
theorem oW {fd:FuncData}{vals:List Value}(h1:fd.params.posonlyargs=[])(h2:fd.params.vararg=none)(h3:fd.params.kwonlyargs=[])(h4:fd.params.kwarg=none)(h5:fd.defaults=.none)
  (e5:(decide (vals.length > (fd.params.args.map (·.arg)).length))=false) (e2:(fd.params.args.map (·.arg)).filter (fun n=>(((fd.params.args.map (·.arg)).zip vals).lookup n).isNone)=[])
  (e3:(fd.params.args.map (·.arg)).filterMap (fun n=>(((fd.params.args.map (·.arg)).zip vals).lookup n).map (n,·))=(fd.params.args.map (·.arg)).zip vals):bindArgs fd ⟨vals,[]⟩=pure ((fd.params.args.map (·.arg)).zip vals):=by
 obtain ⟨a1,a2,⟨b1,b2,b3,b4,b5,b6,b7⟩,a4,a5,a6,a7,a8,a9,a10,a11,a12,a13,a14,a15⟩:=fd
 dsimp only at h1 h2 h3 h4 h5 e5 e2 e3 ⊢
 subst h1 h2 h3 h4 h5
 refine (if_neg (c:=(decide (vals.length > (b2.map (·.arg)).length)&&true)=true) (by rw [e5];decide)).trans ?_
 have hd:∀k,List.drop k ((none:Option (Array Value)).getD #[]).toList=[]:=fun k=>List.drop_nil
 rw [hd]
 refine (if_neg (c:=(!(((b2.map (·.arg)).take ((b2.map (·.arg)).length-0)).filter (fun n=>(((b2.map (·.arg)).zip vals).lookup n).isNone)).isEmpty)=true) (by rw [Nat.sub_zero,List.take_length,e2];decide)).trans ?_
 have hz:(List.drop ((b2.map (·.arg)).length-0) (b2.map (·.arg))).zip ([]:List Value)=[]:=List.zip_nil_right
 refine (congrArg (fun l=>(forIn (m:=Sem) l ((b2.map (·.arg)).zip vals) _ >>= _)) hz).trans ?_
 exact congrArg (fun l=>(pure l:Sem (List (Str × Value)))) ((congrArg (List.filterMap _) (List.append_nil (b2.map (·.arg)))).trans e3)
theorem qw {fd:FuncData}{vals:List Value}(h1:fd.params.posonlyargs=[])(h2:fd.params.vararg=none)(h3:fd.params.kwonlyargs=[])(h4:fd.params.kwarg=none)(h5:fd.defaults=.none)
  (hn:(fd.params.args.map (·.arg)).Nodup) (hl:vals.length=(fd.params.args.map (·.arg)).length):bindArgs fd ⟨vals,[]⟩=pure ((fd.params.args.map (·.arg)).zip vals):=by
 have e1:∀x∈fd.params.args.map (·.arg),(((fd.params.args.map (·.arg)).zip vals).lookup x).isNone=false:=fun x hx=>by
  have:=kJ hl hx
  cases e:((fd.params.args.map (·.arg)).zip vals).lookup x with
  | none=>rw [e] at this;cases this
  | some=>rfl
 have e2:(fd.params.args.map (·.arg)).filter (fun n=>(((fd.params.args.map (·.arg)).zip vals).lookup n).isNone)=[]:=by
  rw [List.filter_eq_nil_iff];intro x hx;rw [e1 x hx];simp
 have e3:=gC (ps:=fd.params.args.map (·.arg)) (vs:=vals) [] hl hn fun _ _=>rfl
 rw [List.nil_append] at e3
 exact oW h1 h2 h3 h4 h5 (decide_eq_false (by rw [hl];exact Nat.lt_irrefl _)) e2 e3
end Internal
end
section
namespace Internal
open PySem PySem.W PyProof.Rows
section
variable {p:Program}{loose:List Str}{mean:ExcName→Option Value}{mg mb:Str→Option Value}{h:Heap}{prog:Program}{w:World}{t:gm}{cm:Nat→Str→Option Value}
noncomputable abbrev dR (prog:Program) (w:World) (h:Heap) (t:gm) (mg:Str→Option Value) (cm:Nat→Str→Option Value):Glo where
 prog:=prog
 w:=w
 base:=h
 fa f:=match oS t.tab f with
  | some x=>cY (mg x)
  | none=>match tF t.mt f with
   | some q=>cY (cm q.1 q.2)
   | none=>none
 ca k:=match t.ct.lookup k with
  | some e=>cY (mg e.1)
  | none=>none
 xa k:=match t.xs[k]? with
  | some x=>cY (mg x)
  | none=>none
 cm:=cm
 hf:=t.hf
theorem kK {o:Option Value}{a:Addr}(e:cY o=some a):o=some (.ref a):=by
 cases o with
 | none=>exact az e
 | some v=>cases v<;>first | ((first | exact az e | obtain rfl:=Option.some.inj e);rfl) | exact az e
end
end Internal
end
section
namespace Internal
open PySem PySem.W PyProof.Rows
section
variable {p:Program}{loose:List Str}{mean:ExcName→Option Value}{mg mb:Str→Option Value}{h:Heap}{prog:Program}{w:World}{t:gm}{cm:Nat→Str→Option Value}
theorem E0 (XF:eJ t.xs mg h):GX (dR prog w h t mg cm) where
 nox:=fun k=>by
  show (match t.xs[k]? with
   | some x=>cY (mg x)
   | none=>none)=none
  rw [show t.xs=[] from XF];rfl
theorem C2 (XF:eJ t.xs mg h){k:Nat}{x:Str}(e:t.sg.xn k=some x):∃K,(dR prog w h t mg cm).xa k=some K∧mg x=some (.ref K):=by
 replace e:t.xs[k]?=some x:=e
 rw [show t.xs=[] from XF] at e;exact az e
theorem C3 {C:Glo}{ρ:List Addr}{s s':Shared}{e:Value}{P:Prop}(hx:ErC C (fun _ _=>False) ρ s e s'):P:=False.elim hx
end
end Internal
end
section
namespace Internal
open PySem PySem.W PyProof.Rows
section
variable {p:Program}{loose:List Str}{mean:ExcName→Option Value}{mg mb:Str→Option Value}{h:Heap}{prog:Program}{w:World}{t:gm}{cm:Nat→Str→Option Value}
noncomputable def wD (t:gm)(mg:Str→Option Value)(h:Heap)(cm:Nat→Str→Option Value):Prop:=∀k e,t.ct.lookup k=some e→∃K N,mg e.1=some (.ref K)∧ClsAt h K N (cm k)
inductive FdO (h:Heap)(v:Option Value)(ps:Arguments)(sc:Scope)(body:List Stmt):Prop
 | mk (a:Addr) (o:Obj) (fd:FuncData) (h1:v=some (.ref a)) (h2:h.get? a=some o) (h3:o.data=.func fd) (h4:h.CodeRec fd.code fd.qualname) (h5:fd.body=.stmts body) (h6:fd.closure=[]) (h7:fd.defaults=.none) (h8:fd.params=ps) (h9:fd.scope=sc) (h10:fd.globals=mainGlobals) (h11:fd.builtins=builtinsNs)
theorem C4 (T:Top p loose mean mg mb h){r:DefRec}(hr:r∈recsOf p):FdO h (mg r.name) r.params r.scope r.body:=by
 obtain ⟨a,o,pm,code,doc,h1,h2,h3,h4⟩:=T.fn r hr
 exact ⟨a,o,_,h1,h2,h3,h4,rfl,rfl,rfl,rfl,rfl,rfl,rfl⟩
theorem wF {c:ClsRec}{K N:Addr}{mN:Str→Option Value}(P:PlainAt h c K N mN){m:MethRec}(hm:m∈c.meths):FdO h (mN m.name) m.params m.scope m.body:=by
 obtain ⟨a,o,pm,code,doc,h1,h2,_,h3,h4⟩:=P.meths m hm
 exact ⟨a,o,_,h1,h2,h3,h4,rfl,rfl,rfl,rfl,rfl,rfl,rfl⟩
theorem qx (hchk:oU (recsOf p) t=true){f:Nat}{x:Str}{ns:List Str}{d:Fn}(e:t.tab.lookup f=some (x,ns,d)):∃r∈recsOf p,r.name=x∧kH t.sg (!t.hf f) ns d r.params r.scope r.body=true:=by
 unfold oU at hchk
 rw [List.all_eq_true] at hchk
 have:=hchk _ (dy e)
 rw [List.any_eq_true] at this
 obtain ⟨r,hr,h⟩:=this
 rw [Bool.and_eq_true] at h
 exact ⟨r,hr,eq_of_beq h.1,h.2⟩
theorem zi {K N N':Addr}{m m':Str→Option Value}(x:ClsAt h K N m)(y:ClsAt h K N' m'):m=m':=by
 obtain ⟨nm,q,bs,sn,sub,col,dd,k0,k1,k2,k3,k5,e⟩:=kA x
 obtain ⟨nm',q',bs',sn',sub',col',dd',l0,l1,l2,l3,l5,e'⟩:=kA y
 have hN:N=N':=by
  have:=congrArg Obj.data (same e e')
  injection this with q
  injection q
 subst hN
 exact iP x.ns y.ns
theorem kL (TE:TopE p loose mg h)(hcm:wD t mg h cm){k:Nat}{e:Str × List Str}(hk:t.ct.lookup k=some e){c:ClsRec}(hc:c∈plainsOf p loose)(hn:c.name=e.1):∃K N,mg e.1=some (.ref K)∧PlainAt h c K N (cm k):=by
 obtain ⟨K,N,h1,h2⟩:=hcm k e hk
 obtain ⟨C,N',mN,h3,P⟩:=TE c hc
 rw [hn,h1] at h3;cases h3
 have:=zi P.cls h2
 subst this
 exact ⟨K,N',h1,P.ofCmp⟩
inductive C5 (pl:List ClsRec)(t:gm)(f k:Nat)(x:Str)(ns:List Str)(d:Fn):Prop
 | mk (h0:(t.tab.lookup f).isNone=true) (ce:Str × List Str) (hce:t.ct.lookup k=some ce) (c:ClsRec) (hc:c∈pl) (hn:c.name=ce.1) (m:MethRec) (hm:m∈c.meths) (hmn:m.name=x) (hck:kH t.sg (!t.hf f) ns d m.params m.scope m.body=true)
theorem nD (hm:kI (plainsOf p loose) t=true){f k:Nat}{x:Str}{ns:List Str}{d:Fn}(e:t.mt.lookup f=some (k,x,ns,d)):C5 (plainsOf p loose) t f k x ns d:=by
 unfold kI at hm
 rw [List.all_eq_true] at hm
 have:=hm _ (dy e)
 rw [Bool.and_eq_true] at this
 obtain ⟨h0,h1⟩:=this
 obtain ⟨ce,hce,h1⟩:=ae h1
 rw [List.any_eq_true] at h1
 obtain ⟨c,hc,h1⟩:=h1
 rw [Bool.and_eq_true] at h1
 obtain ⟨h2,h3⟩:=h1
 rw [List.any_eq_true] at h3
 obtain ⟨m,hm,h3⟩:=h3
 rw [Bool.and_eq_true] at h3
 exact ⟨h0,ce,hce,c,hc,eq_of_beq h2,m,hm,eq_of_beq h3.1,h3.2⟩
theorem E1 (TE:TopE p loose mg h)(hct:oV (plainsOf p loose) t=true):∃cm,wD t mg h cm:=by
 refine Classical.axiomOfChoice (r:=fun k m=>∀e,t.ct.lookup k=some e→∃K N,mg e.1=some (.ref K)∧ClsAt h K N m) fun k=>?_
 cases hk:t.ct.lookup k with
 | none=>exact ⟨fun _=>none,fun e he=>by exact az he⟩
 | some e=>
  unfold oV at hct
  rw [List.all_eq_true] at hct
  have:=hct _ (dy hk)
  rw [List.any_eq_true] at this
  obtain ⟨c,hc,h1⟩:=this
  rw [Bool.and_eq_true] at h1
  obtain ⟨C,N,mN,h3,P⟩:=TE c hc
  refine ⟨mN,fun e' he=>?_⟩
  obtain rfl:=Option.some.inj he
  exact ⟨C,N,by rw [←eq_of_beq h1.1];exact h3,P.cls⟩
theorem AG (hct:oV (plainsOf p loose) t=true){k:Nat}{e:Str × List Str}(hk:t.ct.lookup k=some e):∃c∈plainsOf p loose,c.name=e.1∧∀x,e.2.contains x=true→x∈c.statics:=by
 unfold oV at hct
 rw [List.all_eq_true] at hct
 have:=hct _ (dy hk)
 rw [List.any_eq_true] at this
 obtain ⟨c,hc,h1⟩:=this
 rw [Bool.and_eq_true] at h1
 refine ⟨c,hc,eq_of_beq h1.1,fun x hx=>?_⟩
 have:=List.all_eq_true.mp h1.2 x (List.contains_iff_mem.mp hx)
 exact List.contains_iff_mem.mp this
theorem AH {f:Nat}{x:Str}{ns:List Str}{d:Fn}(e:t.tab.lookup f=some (x,ns,d)){a:Addr}(h1:mg x=some (.ref a)):(dR prog w h t mg cm).fa f=some a:=by
 show (match oS t.tab f with
  | some x=>cY (mg x)
  | none=>_)=some a
 unfold oS
 rw [e]
 show cY (mg x)=some a
 rw [h1];rfl
theorem E2 {f k:Nat}{x:Str}{ns:List Str}{d:Fn}(e0:(t.tab.lookup f).isNone=true)(e:t.mt.lookup f=some (k,x,ns,d)){a:Addr}(h1:cm k x=some (.ref a)):(dR prog w h t mg cm).fa f=some a:=by
 show (match oS t.tab f with
  | some x=>cY (mg x)
  | none=>match tF t.mt f with
   | some q=>cY (cm q.1 q.2)
   | none=>none)=some a
 unfold oS tF
 rw [Option.isNone_iff_eq_none.mp e0,e]
 show cY (cm k x)=some a
 rw [h1];rfl
theorem wG {f:Nat}{a:Addr}(e:(dR prog w h t mg cm).fa f=some a):(∃x ns d,t.tab.lookup f=some (x,ns,d)∧mg x=some (.ref a))∨(t.tab.lookup f=none∧∃k x ns d,t.mt.lookup f=some (k,x,ns,d)∧cm k x=some (.ref a)):=by
 replace e:(match oS t.tab f with
  | some x=>cY (mg x)
  | none=>match tF t.mt f with
   | some q=>cY (cm q.1 q.2)
   | none=>none)=some a:=e
 unfold oS tF at e
 cases q:t.tab.lookup f with
 | some z=>
  obtain ⟨x,ns,d⟩:=z
  rw [q] at e
  exact .inl ⟨x,ns,d,rfl,kK e⟩
 | none=>
  rw [q] at e
  cases q2:t.mt.lookup f with
  | none=>rw [q2] at e;cases e
  | some z=>
   obtain ⟨k,x,ns,d⟩:=z
   rw [q2] at e
   exact .inr ⟨rfl,k,x,ns,d,rfl,kK e⟩
theorem wH {k:Nat}{K:Addr}(e:(dR prog w h t mg cm).ca k=some K):∃ce,t.ct.lookup k=some ce∧mg ce.1=some (.ref K):=by
 replace e:(match t.ct.lookup k with
  | some e=>cY (mg e.1)
  | none=>none)=some K:=e
 cases q:t.ct.lookup k with
 | none=>rw [q] at e;cases e
 | some ce=>rw [q] at e;exact ⟨ce,rfl,kK e⟩
theorem E3 (T:Top p loose mean mg mb h)(TE:TopE p loose mg h)(XF:eJ t.xs mg h)(hcm:wD t mg h cm)(hi:importsNone p=true)(hchk:oU (recsOf p) t=true)(hm:kI (plainsOf p loose) t=true)(hct:oV (plainsOf p loose) t=true):GOk (dR prog w h t mg cm) where
 sys:=by
  obtain ⟨mm,⟨o,es,ep,e,_⟩,_⟩:=(T.seer hi).mods
  show (h.get? sysModules).isSome=true
  rw [e];rfl
 nolimit:=T.nolimit
 fns:=fun f a e=>by
  rcases wG e with ⟨x,ns,d,e1,e2⟩ | ⟨_,k,x,ns,d,e1,e2⟩
  ·obtain ⟨r,hr,rfl,_⟩:=qx hchk e1
   obtain ⟨a',o,fd,h1,h2,h3⟩:=C4 T hr
   rw [e2] at h1;cases h1
   exact ⟨o,_,h2,h3⟩
  ·obtain ⟨_,ce,hce,c,hc,hn,m,hm,rfl,_⟩:=nD hm e1
   obtain ⟨K,N,_,P⟩:=kL TE hcm hce hc hn
   obtain ⟨a',o,fd,h1,h2,h3⟩:=wF P hm
   rw [e2] at h1;cases h1
   exact ⟨o,_,h2,h3⟩
 cls:=fun k K e=>by
  obtain ⟨ce,h1,h2⟩:=wH e
  obtain ⟨K',N,h3,h4⟩:=hcm k ce h1
  rw [h2] at h3;cases h3
  exact ⟨N,h4⟩
 quiet:=fun k K e=>by
  obtain ⟨ce,h1,h2⟩:=wH e
  obtain ⟨c,hc,hn,_⟩:=AG hct h1
  obtain ⟨K',N,_,P⟩:=kL TE hcm h1 hc hn
  exact ⟨P.quiet _ (List.mem_append_left _ (.head _)),P.quiet _ (List.mem_append_left _ (.tail _ (.head _))),P.quiet _ (List.mem_append_left _ (.tail _ (.tail _ (.head _))))⟩
 x:=E0 XF
theorem wI {C:Glo}{z:Sg}{nh:Bool}{ns:List Str}{d:Fn}{a:Addr}{v:Option Value}{ps:Arguments}{sc:Scope}{body:List Stmt}(fo:FdO C.base v ps sc body)(hv:v=some (.ref a))(hc:kH z nh ns d ps sc body=true)(hg:rm C mainGlobals builtinsNs z):EY C z nh d a:=by
 obtain ⟨a',o,fd,h1,ho,hd,hcr,hb,hcl,hdf,rfl,rfl,h10,h11⟩:=fo
 obtain rfl:a=a':=by rw [hv] at h1;exact Value.ref.inj (Option.some.inj h1)
 obtain ⟨hc,c10⟩:=al hc
 obtain ⟨hc,c9⟩:=al hc
 obtain ⟨hc,c8⟩:=al hc
 obtain ⟨hc,c7⟩:=al hc
 obtain ⟨hc,c6⟩:=al hc
 obtain ⟨hc,c5⟩:=al hc
 obtain ⟨hc,c4⟩:=al hc
 obtain ⟨hc,c3⟩:=al hc
 obtain ⟨c1,c2⟩:=al hc
 have hnd:(fd.params.args.map (·.arg)).Nodup:=by
  have:=(al (al c9).1)
  exact (of_decide_eq_true this.2).sublist (List.isPrefixOf_iff_prefix.mp this.1).sublist
 exact ⟨o,fd,body,fd.params.args.map (fun x:Arg=>x.arg),ns,ho,hd,hcr,hb,hcl,jj c5,jj c6,eq_of_beq c7,fun vals hv=>qw (List.isEmpty_iff.mp c1) (Option.isNone_iff_eq_none.mp c2) (List.isEmpty_iff.mp c3) (Option.isNone_iff_eq_none.mp c4) hdf hnd hv,eq_of_beq c8,c9,c10,by rw [h10,h11];exact hg⟩
theorem E4 (T:Top p loose mean mg mb h)(TE:TopE p loose mg h)(XF:eJ t.xs mg h)(hcm:wD t mg h cm)(hchk:oU (recsOf p) t=true)(hm:kI (plainsOf p loose) t=true)(hct:oV (plainsOf p loose) t=true)(hb:AF p loose=true)
  (hgl:∀g x v,t.gl g=some (x,v)→∃u,mg x=some u∧∀ρ h',h.StaysIn h'→Rep (dR prog w h t mg cm) ρ h' v u):ro (dR prog w h t mg cm) t.sg t.P:=by
 have hG:rm (dR prog w h t mg cm) mainGlobals builtinsNs t.sg:=by
  refine ⟨mg,mb,T.g,T.b,fun f' x' e'=>?_,hgl,fun x' v' hm=>?_,fun k x e=>?_,fun k x e=>?_⟩
  ·obtain ⟨⟨y,ns,d⟩,q,rfl⟩:=Option.map_eq_some_iff.mp e'
   obtain ⟨r,hr,hrn,_⟩:=qx hchk q
   obtain ⟨a,_,_,g1,_⟩:=C4 T hr
   rw [hrn] at g1
   exact ⟨a,AH q g1,g1⟩
  ·have:=List.all_eq_true.mp hb _ hm
   obtain ⟨hc,b7⟩:=al this
   obtain ⟨hc,b6⟩:=al hc
   obtain ⟨hc,b5⟩:=al hc
   obtain ⟨hc,b4⟩:=al hc
   obtain ⟨hc,b3⟩:=al hc
   obtain ⟨b1,b2⟩:=al hc
   have no:∀{l:List Str},(!l.contains x')=true→x'∉l:=fun q hx=>by
    have q:=jj q
    rw [List.contains_iff_mem.mpr hx] at q;exact tf q
   refine ⟨T.free x' (no b1) (no b2) (no b3) (no b4) (no b5),?_⟩
   rw [T.builtins x' fun e=>by
    have q:=jj b6
    rw [beq_iff_eq.mpr e] at q;exact tf q]
   obtain ⟨u,h1,h2⟩:=ae b7
   exact h1.trans (congrArg some (C1 h2).symm)
  ·obtain ⟨ce,q,rfl⟩:=Option.map_eq_some_iff.mp e
   obtain ⟨K,N,h1,_⟩:=hcm k ce q
   refine ⟨K,?_,h1⟩
   show (match t.ct.lookup k with
    | some e=>cY (mg e.1)
    | none=>none)=some K
   rw [q]
   show cY (mg ce.1)=some K
   rw [h1];rfl
  ·exact C2 XF e
 refine ⟨⟨fun f k x e=>?_,fun k x e=>?_,rfl⟩,fun f d a hP e=>?_⟩
 ·obtain ⟨⟨k',x',ns,d⟩,q,e⟩:=Option.map_eq_some_iff.mp e
  obtain ⟨rfl,rfl⟩:=Prod.mk.inj e
  obtain ⟨h0,ce,hce,c,hc,hn,m,hm,hmn,_⟩:=nD hm q
  obtain ⟨K,N,_,P⟩:=kL TE hcm hce hc hn
  obtain ⟨a',o,pm,cd,doc,h1,h2,h3,_⟩:=P.meths m hm
  rw [hmn] at h1
  exact ⟨a',E2 h0 q h1,h1,o,h2,h3⟩
 ·replace e:(match t.ct.lookup k with
   | some e=>e.2.contains x
   | none=>false)=true:=e
  cases q:t.ct.lookup k with
  | none=>rw [q] at e;exact ff e
  | some ce=>
   rw [q] at e
   obtain ⟨c,hc,hn,hq⟩:=AG hct q
   obtain ⟨K',N,_,P⟩:=kL TE hcm q hc hn
   exact P.quiet _ (List.mem_append_right _ (hq x e))
 ·replace hP:(fnP t.tab f).or (mtP t.mt f)=some d:=hP
  unfold fnP mtP at hP
  rcases wG e with ⟨x,ns,d',e1,e2⟩ | ⟨e0,k,x,ns,d',e1,e2⟩
  ·rw [e1] at hP
   obtain rfl:d'=d:=Option.some.inj hP
   obtain ⟨r,hr,hrn,hc⟩:=qx hchk e1
   exact wI (C:=dR prog w h t mg cm) (C4 T hr) (by rw [hrn];exact e2) hc hG
  ·rw [e0,e1] at hP
   obtain rfl:d'=d:=Option.some.inj hP
   obtain ⟨_,ce,hce,c,hc,hn,m,hm,hmn,hck⟩:=nD hm e1
   obtain ⟨K,N,_,P⟩:=kL TE hcm hce hc hn
   exact wI (C:=dR prog w h t mg cm) (wF P hm) (by rw [hmn];exact e2) hck hG
theorem C6 {P:Params}{a:Addr}{vs:List Value}{is:List Int}{xs:List WData}(W:Well P h (.ref a) (.list xs))(hl:h.IsList a vs.toArray)(hI:IntsAre vs is)(hz:is.length≤line){ρ:List Addr}{h':Heap} :
  Rep (dR prog w h t mg cm) ρ h' (.scr is) (.ref a):=by
 cases W with
 | @list _ us _ e _=>
  obtain ⟨o,e',hc,n,hd⟩:=hl
  obtain rfl:=same e e'
  simp only [Data.seq.injEq] at hd
  have:us=vs:=by simpa using hd.1
  subst this
  exact .scr e hI hz
theorem wJ (T:Top p loose mean mg mb h)(TE:TopE p loose mg h)(XF:eJ t.xs mg h)(hcm:wD t mg h cm)(hi:importsNone p=true)(hchk:oU (recsOf p) t=true)(hm:kI (plainsOf p loose) t=true)(hct:oV (plainsOf p loose) t=true)(hb:AF p loose=true)
  (hgl:∀g x v,t.gl g=some (x,v)→∃u,mg x=some u∧∀ρ h',h.StaysIn h'→Rep (dR prog w h t mg cm) ρ h' v u)
  {s:Shared}(hs:s.heap=h) (hg:s.gens=#[]) {f:Nat}{x:Str}{ns:List Str}{d:Fn}(hf:t.tab.lookup f=some (x,ns,d)) {fa:Addr}(hmg:mg x=some (.ref fa)) (hd:d.args=1) {is:List Int}{a:Addr}
  (hr:Rep (dR prog w h t mg cm) [] h (.scr is) (.ref a)) (hlaw:∀K:KT,aV t.P K→aP K 600 d.body (fin fun v _=>v=.bool true) (fun _ _=>False) (dm d [.scr is] [])) {E:Value→Shared→Prop}{Q:Value→Shared→Prop}
  (hQ:∀s',(∀b o,h.get? b=some o→s'.heap.get? b=some o)→s'.os=s.os→s'.gens=#[]→Q (.bool true) s'):wpAny (model prog w) callerA (call (.ref fa) [.ref a]) Q E s:=by
 subst hs
 have G:GOk (dR prog w s.heap t mg cm):=E3 T TE XF hcm hi hchk hm hct
 have H:ro (dR prog w s.heap t mg cm) t.sg t.P:=E4 T TE XF hcm hchk hm hct hb hgl
 have hfa:(dR prog w s.heap t mg cm).fa f=some fa:=AH hf hmg
 have hP:t.P f=some d:=by
  show (fnP t.tab f).or (mtP t.mt f)=some d
  unfold fnP
  rw [hf];rfl
 have hH:Hp (dR prog w s.heap t mg cm) [] [] s.heap:=⟨fun b o e=>e,rfl,List.nodup_nil,fun _ h=>(by exact aN h),fun i o a e=>(by simp at e)⟩
 refine wpAny_mono (mz (C:=dR prog w s.heap t mg cm) (X:=fun _ _=>False) G H hP (vs:=[.scr is]) (by rw [hd];rfl) (hlaw _ (C0 G H)) (A:=callerA) (.inl rfl) hH hg (.cons hr .nil) (frs:=[]) ⟨[],rfl,fun e he=>(by exact aN he)⟩ (fun L hL=>(by exact aN hL)) (by show 1+300+601≤999;exact nb rfl) (by show 4≤3 * 301+4;exact nb rfl) hfa)
  (fun v s' hr=>?_) fun e s' hx=>C3 hx
 obtain ⟨ρ',hp',y,st,hH',ry,hq⟩:=hr
 subst hq
 cases ry
 exact hQ s' hH'.base st.os (st.gens.trans hg)
theorem wK {R:WRecords}{t:WTm}{c:WCtx}(h:WTm.value R t c=some (.bool true)):WTm.holds R t c=true:=by
 unfold WTm.holds;rw [h]
theorem tG (l:OpenLaw)(args ds:List WData):l.row.toRowW.claim.post args (.bool true) ds=true:=by
 show (WShape.has [] (.bool true) .bool&&WTm.holds [] (.eq .res (.lit (.bool true))) _)=true
 rw [Bool.and_eq_true]
 have e:W.same (WData.bool true) (WData.bool true)=true:=by decide +kernel
 refine ⟨by decide +kernel,?_⟩
 exact wK (congrArg (fun b=>some (WData.bool b)) e)
end
end Internal
end
section
namespace Internal
open PySem PySem.W PyProof.Rows
section
variable {p:Program}{loose:List Str}{mean:ExcName→Option Value}{mg mb:Str→Option Value}{h:Heap}{prog:Program}{w w':World}{t:gm}{cm:Nat→Str→Option Value}
noncomputable def zj (prog:Program)(w:World)(h:Heap)(t:gm)(mg:Str→Option Value)(cm:Nat→Str→Option Value)(x:Str)(v:MV):Prop:=∃u,mg x=some u∧∀ρ h',h.StaysIn h'→Rep (dR prog w h t mg cm) ρ h' v u
noncomputable def isI (o:Option PyData)(i:Int):Bool:=match o with
 | some (.int j)=>j==i
 | _=>false
theorem C7 {o:Option PyData}{i:Int}(h:isI o i=true):o=some (.int i):=by
 cases o with
 | none=>exact ff h
 | some d=>
  cases d with
  | int j=>exact congrArg (fun j=>some (PyData.int j)) (eq_of_beq h)
  | _=>exact ff h
noncomputable def isT (o:Option PyData)(s:List Nat):Bool:=match o with
 | some (.str x)=>x.cps.toList==s
 | _=>false
theorem C8 {o:Option PyData}{s:List Nat}(h:isT o s=true):o=some (.str (str s)):=by
 cases o with
 | none=>exact ff h
 | some d=>
  cases d with
  | str x=>obtain rfl:=eq_of_beq h;rfl
  | _=>exact ff h
theorem qy (T:Top p loose mean mg mb h){x:Str}{i:Int}(e:isI (valOf p x) i=true):zj prog w h t mg cm x (.int i):=by
 obtain ⟨v,h1,h2⟩:=T.const x _ (C7 e)
 refine ⟨v,h1,fun ρ h' _=>?_⟩
 cases h2 h'
 exact .int _ _
theorem wL (T:Top p loose mean mg mb h){x:Str}{s:List Nat}(e:isT (valOf p x) s=true)(hs:s.length≤line):zj prog w h t mg cm x (.str s):=by
 obtain ⟨v,h1,h2⟩:=T.const x _ (C8 e)
 refine ⟨v,h1,fun ρ h' _=>?_⟩
 cases h2 h'
 exact .str _ _ hs
theorem wM (B:Tables p w' mg h){x:Str}{ss:List (List Nat)}(e:tupStrsOf p x=some (ss.map fun s=>(str s:Str)))(hs:∀s∈ss,s.length≤line):zj prog w h t mg cm x (.gt ss):=by
 obtain ⟨a,vs,h1,⟨o,h2,h3,n,h4⟩,h5⟩:=B.tupS x _ e
 refine ⟨.ref a,h1,fun ρ h' _=>.gt h2 h3 h4 ?_⟩
 clear e h1 h2 h3 h4
 induction ss generalizing vs with
 | nil=>cases h5;exact .nil
 | cons s ss ih=>
  cases h5 with
  | cons _ t r=>exact .cons (.str _ _ (hs s (List.mem_cons_self ..))) (ih (fun x hx=>hs x (List.mem_cons_of_mem _ hx)) _ r)
theorem zm (T:Top p loose mean mg mb h){x:Str}{es:List (List Nat × Int)}(y:iY x es prog w h):zj prog w h t mg cm x (.cdict es):=by
 obtain ⟨mg',a,kvs,h1,h2,h3,h4,h5⟩:=y
 cases iP h1 T.g
 exact ⟨.ref a,h2,fun ρ h' _=>.cdict h3 h4 h5⟩
end
end Internal
end
section
namespace Internal
open PySem
noncomputable abbrev vA:ME:=.cst (.int 1)
noncomputable abbrev vB:ME:=.cst (.int 0)
noncomputable abbrev vC:ME:=.var 0
noncomputable abbrev vD:ME:=.var 1
noncomputable abbrev vE:ME:=.cst (.int 2)
noncomputable abbrev vF:ME:=.cst (.str [110,117,109,98,101,114])
noncomputable abbrev vG:ME:=.cst (.str [115,101,116])
noncomputable abbrev vH:ME:=.var 2
noncomputable abbrev vI:ME:=.cst (.str [97,98,99,100,101,102,103,104,105,106,107,108,109,110,111,112,113,114,115,116,117,118,119,120,121,122])
noncomputable abbrev vJ:ME:=.var 3
noncomputable abbrev vK:ME:=.cst (.str [119,104,105,108,101])
noncomputable abbrev vL:ME:=.cst (.str [115,107,105,112])
noncomputable abbrev vM:ME:=.cst (.int 4)
noncomputable abbrev vN:ME:=.cst (.int 3)
noncomputable abbrev vO:ME:=.cst (.str [110,97,109,101])
noncomputable abbrev vP:ME:=.var 4
noncomputable abbrev vQ:ME:=.cst (.int 5)
noncomputable abbrev vR:ME:=.cst (.bool false)
noncomputable abbrev vS:ME:=.cst (.str [105,102])
noncomputable abbrev vT:ME:=.var 5
noncomputable abbrev vU:ME:=.cst (.int 8)
noncomputable abbrev vV:ME:=.cst (.str [116,101,108,108])
noncomputable abbrev vW:ME:=.var 6
noncomputable abbrev vX:ME:=.cst (.str [115,101,99,114,101,116])
noncomputable abbrev vY:ME:=.var 7
noncomputable abbrev vZ:ME:=.cst (.str [111,112,101,110])
noncomputable abbrev uA:ME:=.cst (.str [101,108,115,101])
noncomputable abbrev uB:ME:=.cst (.str [122,122])
noncomputable abbrev uC:ME:=.cst (.str [101,110,100])
noncomputable abbrev uD:ME:=.cst (.int 12)
noncomputable abbrev uE:ME:=.cst (.bool true)
noncomputable abbrev uF:ME:=.cst (.str [43])
noncomputable abbrev uG:ME:=.cst (.str [60])
noncomputable abbrev uH:ME:=.cst (.str [47])
noncomputable abbrev uI:ME:=.cst (.int 10)
noncomputable def jo:Fn:=⟨2,2,[.ret (.and [.isi vC [.int],.not (.isi vC [.bool]),.cmp2 .le .le vB vC vD])]⟩
noncomputable def il:Fn:=⟨1,1,[.ret (.call 22 [vC,.bin .sub (.glob 0 (.int 1000000)) vA])]⟩
noncomputable def kM:Fn:=⟨1,2,[.ite (.or [.not (.isi vC [.str]),.not (.cmp2 .le .le vA (.blt .len [vC]) (.glob 5 (.int 8))),.cmp .inn vC (.glob 1 (.gt [[115,101,116],[116,101,108,108],[115,107,105,112],[105,102],[101,108,115,101],[119,104,105,108,101],[101,110,100]]))]) [.ret vR] [],.ite (.cmp .nin (.idx vC vB) (.glob 3 (.str [97,98,99,100,101,102,103,104,105,106,107,108,109,110,111,112,113,114,115,116,117,118,119,120,121,122]))) [.ret vR] [],.for_ [1] false .val [vC] [.ite (.and [.cmp .nin vD (.glob 3 (.str [97,98,99,100,101,102,103,104,105,106,107,108,109,110,111,112,113,114,115,116,117,118,119,120,121,122])),.cmp .nin vD (.glob 4 (.str [48,49,50,51,52,53,54,55,56,57]))]) [.ret vR] []],.ret uE]⟩
noncomputable def b9:Fn:=⟨2,3,[.ite (.cmp .gt vD (.glob 6 (.int 12))) [.raise 4] [],.ite (.or [.not (.isi vC [.tuple]),.not (.cmp2 .le .le vE (.blt .len [vC]) vN),.not (.isi (.idx vC vB) [.str])]) [.raise 3] [],.ite (.cmp .eq (.blt .len [vC]) vE) [.asg [2] false (.or [.and [.cmp .eq (.idx vC vB) vF,.call 23 [.idx vC vA]],.and [.cmp .eq (.idx vC vB) vO,.call 24 [.idx vC vA]]]),.ite (.not vH) [.raise 3] [],.ret (.cst .none)] [],.ite (.cmp .nin (.idx vC vB) (.glob 2 (.gt [[43],[45],[42],[47],[60],[61]]))) [.raise 3] [],.expr (.call 55 [.idx vC vA,.bin .add vD vA]),.expr (.call 55 [.idx vC vE,.bin .add vD vA])]⟩
noncomputable def c0:Fn:=⟨1,1,[.ite (.cmp .eq (.idx vC vB) vF) [.ret (.list [])] [],.ite (.cmp .eq (.idx vC vB) vO) [.ret (.list [.idx vC vA])] [],.ret (.bin .add (.call 0 [.idx vC vA]) (.call 0 [.idx vC vE]))]⟩
noncomputable def jq:Fn:=⟨1,1,[.ret (.blt .sortedSet [.call 0 [vC]])]⟩
noncomputable def jr:Fn:=⟨1,1,[.ret (.isi vC [.list,.tuple])]⟩
noncomputable def im:Fn:=⟨1,1,[.ite (.cmp .eq (.idx vC vB) vS) [.ret (.list [.idx vC vE,.idx vC vN])] [],.ite (.cmp .eq (.idx vC vB) vK) [.ret (.list [.idx vC vE])] [],.ret (.list [])]⟩
noncomputable def gD:Fn:=⟨1,1,[.ite (.cmp .eq (.idx vC vB) vL) [.ret (.cst .none)] [],.ite (.cmp .eq (.idx vC vB) vG) [.ret (.idx vC vE)] [],.ret (.idx vC vA)]⟩
noncomputable def js:Fn:=⟨1,2,[.ite (.or [.not (.isi vC [.tuple]),.cmp .eq (.blt .len [vC]) vB,.not (.isi (.idx vC vB) [.str])]) [.ret vR] [],.ite (.or [.cmp .nin (.idx vC vB) (.glob 9 (.cdict [([115,101,116],3),([116,101,108,108],2),([115,107,105,112],1),([105,102],4),([119,104,105,108,101],3)])),.cmp .ne (.blt .len [vC]) (.idx (.glob 9 (.cdict [([115,101,116],3),([116,101,108,108],2),([115,107,105,112],1),([105,102],4),([119,104,105,108,101],3)])) (.idx vC vB))]) [.ret vR] [],.ite (.and [.cmp .eq (.idx vC vB) vG,.not (.call 24 [.idx vC vA])]) [.ret vR] [],.ret (.blt .all [.comp (.call 56 [vD]) [1] false .val [.call 25 [vC]] []])]⟩
noncomputable def iq:Fn:=⟨2,4,[.for_ [2] false .val [vC] [.ite (.not (.call 57 [vH])) [.raise 3] [],.ite (.cmp .gt vD (.glob 7 (.int 8))) [.raise 4] [],.ite (.cmp .ne (.idx vH vB) vL) [.expr (.call 55 [.call 26 [vH],vA])] [],.for_ [3] false .val [.call 25 [vH]] [.expr (.call 58 [vJ,.bin .add vD vA])]]]⟩
noncomputable def gE:Fn:=⟨2,3,[.ite (.not (.call 56 [vC])) [.raise 1] [],.for_ [2] false .val [vC] [.ite (.not (.call 24 [vH])) [.raise 1] [],.ite (.cmp .inn vH vD) [.raise 2] [],.expr (.mth .append vD [vH])]]⟩
noncomputable def kN:Fn:=⟨1,3,[.asg [1] false (.list []),.for_ [2] false .val [vC] [.ite (.cmp .eq (.idx vH vB) vS) [.expr (.mth .append vD [.tup [.idx vH vB,.idx vH vA,.call 60 [.idx vH vE],.call 60 [.idx vH vN]]])] [.ite (.cmp .eq (.idx vH vB) vK) [.expr (.mth .append vD [.tup [.idx vH vB,.idx vH vA,.call 60 [.idx vH vE]]])] [.expr (.mth .append vD [vH])]]],.ret (.blt .tuple [vD])]⟩
noncomputable def jt:Fn:=⟨3,8,[.asg [3] false (.list []),.asg [4] false vD,.for_ [5] false .val [vC] [.expr (.mth .append vJ [.tup [vP,vT,vH]]),.asg [4] false (.bin .add vP vA),.for_ [6] false .val [.call 25 [vT]] [.asg [7] false (.call 61 [vW,vP,.bin .add vH (.tup [.idx vT vA])]),.expr (.mth .extend vJ [vY]),.asg [4] false (.bin .add vP (.blt .len [vY]))]],.ret vJ]⟩
noncomputable def ju:Fn:=⟨1,2,[.asg [1] false (.list []),.ite (.cmp .eq (.idx vC vB) vG) [.expr (.mth .append vD [.idx vC vA])] [],.ite (.cmp .ne (.idx vC vB) vL) [.expr (.mth .extend vD [.call 1 [.call 26 [vC]]])] [],.ret vD]⟩
noncomputable def cZ:Fn:=⟨4,6,[.asg [4] false (.list []),.expr (.call 59 [vD,vP]),.asg [5] false (.blt .len [vP]),.expr (.call 59 [vH,vP]),.ite (.not (.call 56 [vJ])) [.raise 3] [],.expr (.call 58 [vJ,vA]),.setAttr 0 vC [111,112,101,110,115] (.sl vP none (some vT)),.setAttr 0 vC [115,101,99,114,101,116,115] (.sl vP (some vT) none),.setAttr 0 vC [114,111,119,115] (.call 60 [vJ])]⟩
noncomputable def d6:Fn:=⟨1,5,[.asg [1] false (.bin .add (.attr 0 vC [111,112,101,110,115]) (.attr 0 vC [115,101,99,114,101,116,115])),.for_ [2,3,4] true .val [.call 61 [.attr 0 vC [114,111,119,115],vA,.tup []]] [.asg [1] false (.bin .add vD (.call 62 [vJ]))],.ret (.blt .sortedSet [vD])]⟩
noncomputable def eV:Fn:=⟨2,2,[.ite (.cmp .inn vD (.attr 0 vC [111,112,101,110,115])) [.ret vZ] [],.ite (.cmp .inn vD (.attr 0 vC [115,101,99,114,101,116,115])) [.ret vX] [],.ret (.cst (.str [102,114,101,101]))]⟩
noncomputable def eW:Fn:=⟨1,1,[.ret (.tup [.blt .list [.attr 0 vC [111,112,101,110,115]],.blt .list [.attr 0 vC [115,101,99,114,101,116,115]]])]⟩
noncomputable def d7:Fn:=⟨1,1,[.ret (.attr 0 vC [114,111,119,115])]⟩
noncomputable def fq:Fn:=⟨1,3,[.asg [1] false (.list []),.for_ [2] false .val [vC] [.expr (.mth .extend vD [.call 1 [vH]])],.ret vD]⟩
noncomputable def gF:Fn:=⟨2,3,[.asg [2] false (.call 101 [vD]),.ite (.cmp .ne (.idx vC vB) vL) [.asg [2] false (.bin .add vH (.call 1 [.call 26 [vC]]))] [],.ret (.blt .sortedSet [vH])]⟩
noncomputable def oX:Fn:=⟨1,6,[.asg [1] false (.list []),.for_ [2,3,4] true .val [.call 61 [.umth 0 67 [98,108,111,99,107] vC [],vA,.tup []]] [.ite (.cmp .eq (.idx vJ vB) vG) [.expr (.mth .extend vD [.comp (.tup [vH,vT,.idx vJ vA]) [5] false .val [.call 102 [vJ,vP]] []])] []],.ret vD]⟩
noncomputable def ir:Fn:=⟨1,9,[.asg [1] false .dict0,.asg [2] false (.list []),.for_ [3] false .val [.idx (.umth 0 66 [116,111,108,100] vC []) vA] [.setIdx vD vJ (.list [.tup [vB,vJ]]),.expr (.mth .append vH [vJ])],.asg [4] false (.call 103 [vC]),.asg [5] false vB,.while_ (.cmp .lt vT (.blt .len [vH])) [.asg [6] false (.idx vH vT),.asg [5] false (.bin .add vT vA),.for_ [7,8,3] true .val [vP] [.ite (.and [.cmp .eq (.var 8) vW,.cmp .nin vJ vD,.cmp .eq (.umth 0 65 [107,105,110,100] vC [vJ]) (.cst (.str [102,114,101,101]))]) [.setIdx vD vJ (.bin .add (.idx vD vW) (.list [.tup [vY,vJ]])),.expr (.mth .append vH [vJ])] []]],.ret vD]⟩
noncomputable def oY:Fn:=⟨1,4,[.asg [1] false (.call 104 [vC]),.asg [2] false (.list []),.for_ [3] false .val [.umth 0 64 [110,97,109,101,115] vC []] [.ite (.cmp .inn vJ vD) [.expr (.mth .append vH [.tup [vJ,vX]])] [.expr (.mth .append vH [.tup [vJ,vZ]])]],.ret vH]⟩
noncomputable def fu:Fn:=⟨2,2,[.ite (.cmp .lt vD (.blt .len [vC])) [.ret (.idx vC vD)] [],.ret vB]⟩
noncomputable def iu:Fn:=⟨1,1,[.ret (.bin .mod (.bin .add (.bin .mul vC (.cst (.int 48271))) (.cst (.int 7919))) (.cst (.int 2147483647)))]⟩
noncomputable def fv:Fn:=⟨1,4,[.asg [1] false (.idx vI (.bin .mod (.bin .fdiv vC vU) (.cst (.int 26)))),.asg [2] false vC,.for_ [3] false .range1 [.bin .mod vC vU] [.asg [2] false (.call 6 [vH]),.asg [1] false (.bin .add vD (.idx (.cst (.str [97,98,99,100,101,102,103,104,105,106,107,108,109,110,111,112,113,114,115,116,117,118,119,120,121,122,48,49,50,51,52,53,54,55,56,57])) (.bin .mod vH (.cst (.int 36)))))],.ite (.cmp .inn vD (.list [vG,vV,vL,vS,uA,vK,uC])) [.ret (.bin .add vD (.cst (.str [48])))] [],.ret vD]⟩
noncomputable def fw:Fn:=⟨2,6,[.asg [2] false vI,.asg [3] false (.bin .mod vD (.blt .len [vC])),.ite (.cmp .gt vJ vB) [.asg [2] false (.bin .add vH (.cst (.str [48,49,50,51,52,53,54,55,56,57])))] [],.asg [4] false (.bin .add (.bin .add (.mth .find vH [.idx vC vJ]) vA) (.bin .mod (.bin .fdiv vD vU) (.bin .sub (.blt .len [vH]) vA))),.asg [5] false (.bin .add (.bin .add (.sl vC none (some vJ)) (.idx vH (.bin .mod vP (.blt .len [vH])))) (.sl vC (some (.bin .add vJ vA)) none)),.ite (.cmp .inn vT (.list [vG,vV,vL,vS,uA,vK,uC])) [.ret (.bin .add vT (.cst (.str [48])))] [],.ret vT]⟩
noncomputable def eM:Fn:=⟨2,5,[.asg [2] false (.list []),.for_ [3] false .range1 [uI] [.asg [0] false (.call 6 [vC]),.asg [4] false (.call 7 [.bin .fdiv vC vQ]),.ite (.and [.cmp .eq (.bin .mod vJ vE) vA,.cmp .eq (.bin .mod (.bin .fdiv vD vM) vE) vA]) [.asg [4] false (.call 8 [.idx vH (.bin .sub vJ vA),.call 6 [.bin .add vD vJ]])] [],.while_ (.or [.cmp .inn vP vH,.cmp .inn vP (.list [vG,vV,vL,vS,uA,vK,uC])]) [.asg [4] false (.bin .add (.sl vP none (some (.cst (.int 7)))) (.idx vI (.bin .mod (.bin .add (.bin .add vD (.blt .len [vP])) vJ) (.cst (.int 26))))),.asg [1] false (.bin .add vD vQ)],.expr (.mth .append vH [vP])],.ret vH]⟩
noncomputable def dS:Fn:=⟨2,2,[.ite (.and [.cmp .ne vD (.list []),.cmp .gt (.bin .mod vC vN) vB]) [.ret (.tup [vO,.idx vD (.bin .mod (.bin .fdiv vC vN) (.blt .len [vD]))])] [],.ite (.cmp .eq (.bin .mod (.bin .fdiv vC vN) vM) vB) [.ret (.tup [vF,.bin .mod (.bin .fdiv vC uD) (.bin .pow uI (.cst (.int 6)))])] [],.ret (.tup [vF,.bin .mod (.bin .fdiv vC uD) vQ])]⟩
noncomputable def cC:Fn:=⟨5,7,[.asg [0] false (.call 6 [vC]),.ite (.or [.cmp .eq vP vA,.cmp .lt (.bin .mod vC vU) vN]) [.ret (.call 10 [.bin .fdiv vC vU,vD])] [],.asg [5] false (.idx (.list [uF,.cst (.str [45]),.cst (.str [42]),uG,.cst (.str [61]),uF,.cst (.str [45]),uG,uH,uH]) (.bin .mod (.bin .fdiv vC vU) (.idx (.list [vU,uI]) (.blt .int [vJ])))),.asg [6] false (.call 11 [.bin .add (.bin .mul vC vN) vA,vD,vH,vJ,.bin .sub vP vA]),.ite (.and [.cmp .eq vT uH,.cmp .lt (.bin .mod (.bin .fdiv vC (.cst (.int 80))) vM) vN]) [.ret (.tup [vT,vW,.tup [vF,.bin .add vA (.bin .mod (.bin .fdiv vC (.cst (.int 320))) (.cst (.int 9)))]])] [],.ite (.cmp .eq vT uH) [.ret (.tup [vT,vW,.call 11 [.bin .add (.bin .mul vC vQ) vE,vH,vH,vJ,.bin .sub vP vA]])] [],.ret (.tup [vT,vW,.call 11 [.bin .add (.bin .mul vC vQ) vE,vD,vH,vJ,.bin .sub vP vA]])]⟩
noncomputable def be:Fn:=⟨1,1,[.ite (.cmp .eq (.idx vC vB) vF) [.ret (.list [])] [],.ite (.cmp .eq (.idx vC vB) vO) [.ret (.list [.idx vC vA])] [],.ret (.bin .add (.call 37 [.idx vC vA]) (.call 37 [.idx vC vE]))]⟩
noncomputable def bI:Fn:=⟨4,8,[.asg [4] false (.sl vC none (some vQ)),.asg [5] false vC,.ite (.or [.and [.cmp .eq vJ vB,.cmp .eq (.bin .mod (.bin .fdiv vD uD) vE) vB],.and [.cmp .eq vJ vE,vH,.cmp .gt (.bin .mod (.bin .fdiv vD uD) vN) vB]]) [.asg [5] false vP] [.ite (.cmp .eq vJ vE) [.asg [5] false (.sl vC (some vQ) none)] []],.ite (.cmp .gt vJ vB) [.asg [4] false vT] [],.asg [6] false (.call 11 [vD,vT,vP,.or [.cmp .gt vJ vB,.not vH],.bin .add vA (.bin .mod (.bin .fdiv vD (.cst (.int 24))) vM)]),.ret (.tup [vW,.cmp .ne (.comp vY [7] false .val [.call 37 [vW]] [.cmp .inn vY (.sl vC (some vQ) none)]) (.list [])])]⟩
noncomputable def dT:Fn:=⟨1,2,[.asg [1] false (.mth .pop vC []),.ite (.cmp .eq (.idx vD vB) vK) [.ite (.and [.cmp .eq (.idx (.idx vD vA) vB) uG,.cmp .eq (.idx (.idx (.idx vD vA) vA) vB) vO]) [.expr (.mth .append (.idx vD vE) [.tup [vG,.idx (.idx (.idx vD vA) vA) vA,.tup [uF,.idx (.idx vD vA) vA,.tup [vF,vA]]]])] [],.expr (.mth .append (.idx (.idx vC (.neg vA)) vE) [.tup [vK,.idx vD vA,.blt .tuple [.idx vD vE]]])] [.ite (.isN true (.idx vD vM)) [.expr (.mth .append vC [.list [.idx vD vB,.idx vD vA,.list [],.idx vD vN,.blt .tuple [.idx vD vE]]])] [.expr (.mth .append (.idx (.idx vC (.neg vA)) vE) [.tup [vS,.idx vD vA,.idx vD vM,.blt .tuple [.idx vD vE]]])]]]⟩
noncomputable def eN:Fn:=⟨4,11,[.asg [4] false (.bin .mod vH uD),.asg [5] false (.cmp .ne (.comp (.var 10) [10] false .val [vC] [.idx (.var 10) vN]) (.list [])),.asg [6,7] true (.call 38 [vD,vH,vT,vJ]),.asg [8] false (.and [.cmp .eq vJ vB,.or [vT,vY]]),.ite (.cmp .eq vJ vE) [.asg [4] false (.idx (.list [vB,vM,vU,vB]) (.bin .mod (.bin .fdiv vH (.cst (.int 7))) vM))] [],.ite (.cmp .lt vP vM) [.asg [9] false (.idx (.list [vD,vD,.idx (.list [.sl vD none (some vQ),.sl vD (some vQ) none]) (.blt .int [.cmp .eq (.bin .mod (.bin .fdiv vH (.cst (.int 7))) vM) vN])]) vJ),.ite (.var 8) [.asg [9] false (.sl vD (some vQ) none)] [],.expr (.mth .append (.idx (.idx vC (.neg vA)) vE) [.tup [vG,.idx (.var 9) (.bin .mod (.bin .fdiv vH (.cst (.int 96))) (.blt .len [.var 9])),vW]])] [.ite (.and [.cmp .eq vP vM,.not (.var 8)]) [.expr (.mth .append (.idx (.idx vC (.neg vA)) vE) [.tup [vV,vW]])] [.ite (.cmp .eq vP vQ) [.expr (.mth .append (.idx (.idx vC (.neg vA)) vE) [.tup [vL]])] [.ite (.and [.cmp .lt vP vU,.cmp .lt (.blt .len [vC]) vU]) [.expr (.mth .append vC [.list [vS,vW,.list [],vY,.cst .none]])] [.ite (.and [.cmp .lt vP uI,.cmp .lt (.blt .len [vC]) vU,.not (.var 8)]) [.ite (.and [.cmp .eq vJ vB,.cmp .gt (.bin .mod (.bin .fdiv vH (.cst (.int 96))) vM) vB]) [.asg [6] false (.tup [uG,.tup [vO,.idx vD (.bin .mod (.bin .fdiv vH (.cst (.int 384))) vQ)],.tup [vF,.bin .add vA (.bin .mod (.bin .fdiv vH (.cst (.int 1920))) vM)]])] [],.expr (.mth .append vC [.list [vK,vW,.list [],vY,.cst .none]])] [.ite (.cmp .gt (.blt .len [vC]) vA) [.expr (.call 39 [vC])] []]]]]]]⟩
noncomputable def cU:Fn:=⟨3,8,[.asg [3] false (.list [.list [.cst (.str []),.cst .none,.list [],vR,.cst .none]]),.for_ [4,5] true .enum [vC] [.asg [6] false (.call 6 [.bin .mul (.call 6 [.bin .add vT (.bin .mul (.cst (.int 131)) vP)]) (.bin .add vP vE)]),.asg [7] false vB,.ite (.and [.cmp .eq vH vA,.cmp .eq (.bin .mod (.bin .fdiv vW (.cst (.int 4096))) vM) vB]) [.asg [7] false vA] [],.ite (.and [.cmp .gt vH vA,.cmp .eq vP (.bin .mod vH (.blt .len [vC]))]) [.asg [7] false vE] [],.expr (.call 40 [vJ,vD,vW,vY])],.while_ (.cmp .gt (.blt .len [vJ]) vA) [.expr (.call 39 [vJ])],.ret (.idx (.idx vJ vB) vE)]⟩
noncomputable def gG:Fn:=⟨1,1,[.ite (.cmp .eq (.idx vC vB) vG) [.ret (.list [])] [],.ret (.blt .list [.sl vC (some vE) none])]⟩
noncomputable def fy:Fn:=⟨1,1,[.ite (.cmp .eq (.idx vC vB) vL) [.ret (.tup [vF,vB])] [],.ret (.idx vC (.bin .add vA (.blt .int [.cmp .eq (.idx vC vB) vG])))]⟩
noncomputable def gH:Fn:=⟨3,5,[.for_ [3] false .val [vC] [.expr (.mth .append vH [.tup [vJ,vD]]),.for_ [4] false .val [.call 72 [vJ]] [.expr (.call 107 [vP,.bin .add vD (.call 37 [.call 106 [vJ]]),vH])]],.ret vH]⟩
noncomputable def gI:Fn:=⟨2,7,[.asg [2] false (.blt .list [.idx vC vA]),.asg [3] false uE,.while_ vJ [.asg [3] false vR,.for_ [4,5] true .val [vD] [.ite (.and [.cmp .eq (.idx vP vB) vG,.cmp .nin (.idx vP vA) (.bin .add (.idx vC vB) vH)]) [.ite (.cmp .ne (.comp vW [6] false .val [.bin .add (.call 37 [.idx vP vE]) vT] [.cmp .inn vW vH]) (.list [])) [.expr (.mth .append vH [.idx vP vA]),.asg [3] false uE] []] []]],.ret vH]⟩
noncomputable def bA:Fn:=⟨3,8,[.asg [3] false (.comp (.bin .mod (.bin .mul vY vH) (.cst (.int 61))) [7] false .range1 [.cst (.int 61)] [.cmp .lt (.bin .mod (.bin .mul vY vH) (.cst (.int 61))) vD]),.asg [4] false (.list []),.for_ [5] false .val [vJ] [.asg [6] false (.idx (.list [.bin .add uB (.blt .str [.bin .sub vT vA]),.idx vC (.cst (.int 9))]) (.blt .int [.cmp .eq vT vB])),.expr (.mth .append vP [.tup [vG,.bin .add uB (.blt .str [vT]),.tup [uF,.tup [vO,vW],.tup [vF,vA]]]])],.ret vP]⟩
noncomputable def fA:Fn:=⟨2,8,[.asg [2] false (.idx (.list [vB,.bin .mod (.bin .fdiv vD vM) vN,.bin .mod (.bin .fdiv vD vM) (.cst (.int 20)),vB]) (.bin .mod vD vM)),.asg [3] false (.list [.comp (.bin .add (.cst (.str [121,111])) (.blt .str [vP])) [4] false .range1 [vH] [],.comp (.bin .add (.cst (.str [121,115])) (.blt .str [vT])) [5] false .range1 [.bin .add vH (.bin .mod (.bin .fdiv vD vM) vE)] []]),.ret (.comp (.comp vY [7] false .val [vW] [.cmp .nin vY vC]) [6] false .val [vJ] [])]⟩
noncomputable def dL:Fn:=⟨3,8,[.asg [3] false (.list [.blt .list [.idx vD vB],.blt .list [.idx vD vA]]),.asg [4] false vH,.for_ [5,6] true .enum [vC] [.ite (.cmp .gt (.bin .mod vP vN) vB) [.expr (.mth .append (.idx vJ (.bin .fdiv vT vQ)) [vW])] [],.asg [4] false (.bin .fdiv vP vN)],.asg [7] false (.list [.bin .mod (.bin .fdiv vH (.cst (.int 27))) (.blt .max [vA,.blt .len [.idx vJ vB]]),.bin .mod (.bin .fdiv vH (.cst (.int 189))) (.blt .max [vA,.blt .len [.idx vJ vA]])]),.ret (.list [.bin .add (.sl (.idx vJ vB) (some (.idx vY vB)) none) (.sl (.idx vJ vB) none (some (.idx vY vB))),.bin .add (.sl (.idx vJ vA) (some (.idx vY vA)) none) (.sl (.idx vJ vA) none (some (.idx vY vA)))])]⟩
noncomputable def cD:Fn:=⟨1,12,[.asg [1] false (.call 9 [.call 5 [vC,vB],.call 5 [vC,vA]]),.asg [2] false (.call 95 [vD,.call 6 [.call 5 [vC,vA]]]),.asg [3] false (.call 96 [vD,vH,.call 6 [.call 5 [vC,vB]]]),.asg [4] false (.call 41 [.sl vC (some vN) (some (.cst (.int 63))),vD,vA]),.asg [5] false (.call 5 [vC,vE]),.ite (.cmp .eq (.bin .mod vT vM) vA) [.asg [4] false (.bin .add (.sl vP none (some (.cst (.int 6)))) (.call 109 [vD,.bin .mod (.bin .fdiv vT vM) (.cst (.int 60)),.bin .add vA (.bin .mod (.call 5 [vC,vA]) (.cst (.int 60)))]))] [],.asg [6] false (.new 0 63 [.idx vJ vB,.idx vJ vA,.blt .tuple [vP]]),.asg [7] false (.call 108 [vJ,.call 107 [vP,.list [],.list []]]),.asg [8] false (.comp (.tup [.var 10,.idx (.list [vZ,vX]) (.blt .int [.cmp .inn (.var 10) vY])]) [10] false .val [.umth 0 64 [110,97,109,101,115] vW []] []),.asg [9] false (.call 105 [vW]),.ite (.or [.not (.isi (.var 9) [.list]),.cmp .ne (.var 9) (.var 8),.cmp .ne (.comp (.isi (.var 11) [.tuple]) [11] false .val [.var 9] []) (.bin .mul (.list [uE]) (.blt .len [.var 9]))]) [.ret vR] [],.expr (.mth .append (.var 9) [uB]),.ret (.and [.cmp .eq (.call 105 [vW]) (.var 8),.cmp .eq (.var 9) (.bin .add (.var 8) (.list [uB]))])]⟩
noncomputable def gl:Nat→Option (Str × MV)
 | 0=>some ("MODULUS",(.int 1000000))
 | 1=>some ("WORDS",(.gt [[115,101,116],[116,101,108,108],[115,107,105,112],[105,102],[101,108,115,101],[119,104,105,108,101],[101,110,100]]))
 | 2=>some ("SIGNS",(.gt [[43],[45],[42],[47],[60],[61]]))
 | 3=>some ("LETTERS",(.str [97,98,99,100,101,102,103,104,105,106,107,108,109,110,111,112,113,114,115,116,117,118,119,120,121,122]))
 | 4=>some ("FIGURES",(.str [48,49,50,51,52,53,54,55,56,57]))
 | 5=>some ("MOST_SIGNS",(.int 8))
 | 6=>some ("DEEPEST",(.int 12))
 | 7=>some ("DEEPEST_ROW",(.int 8))
 | 9=>some ("THINGS",(.cdict [([115,101,116],3),([116,101,108,108],2),([115,107,105,112],1),([105,102],4),([119,104,105,108,101],3)]))
 | _=>none
noncomputable def tab:Tab:=(22,"is_whole",["thing","most"],jo)::
 (23,"is_number",["thing"],il)::
 (24,"is_name",["thing","sign"],kM)::
 (55,"need_formula",["thing","deep","good"],b9)::
 (0,"all_names",["formula"],c0)::
 (1,"names_in",["formula"],jq)::
 (56,"is_block",["thing"],jr)::
 (25,"blocks_in",["row"],im)::
 (26,"formula_of",["row"],gD)::
 (57,"has_form",["row"],js)::
 (58,"need_rows",["block","deep","row","inner"],iq)::
 (59,"need_names",["names","known","name"],gE)::
 (60,"settled",["block","rows","row"],kN)::
 (61,"numbered",["block","first","above","found","number","row","inner","rows"],jt)::
 (62,"names_of",["row","found"],ju)::
 (101,"names_above",["above","found","formula"],fq)::
 (102,"sources_of",["row","above","found"],gF)::
 (103,"flows",["program","found","number","row","above"],oX)::
 (104,"roads",["program","found","waiting","name","ways","at","source","number","one"],ir)::
 (105,"kinds",["program","secret","found","name"],oY)::
 (5,"_law_cell_at",["_law_script","_law_k"],fu)::
 (6,"_law_mixed",["_law_number"],iu)::
 (7,"_law_name_by",["_law_cell","_law_found","_law_number","_law_k"],fv)::
 (8,"_law_twin",["_law_name","_law_cell","_law_some","_law_at","_law_step","_law_found"],fw)::
 (9,"_law_names",["_law_one","_law_other","_law_names_here","_law_k","_law_name"],eM)::
 (10,"_law_end_by",["_law_number","_law_names_here"],dS)::
 (11,"_law_formula_by",["_law_number","_law_names_here","_law_low","_law_divide","_law_left","_law_sign","_law_one"],cC)::
 (37,"_law_all_names",["_law_formula_here"],be)::
 (38,"_law_row_by",["_law_names_here","_law_more_here","_law_dark","_law_mode","_law_low","_law_some","_law_formula_here"],bI)::
 (39,"_law_closed",["_law_stack","_law_frame"],dT)::
 (40,"_law_put",["_law_stack","_law_names_here","_law_more_here","_law_mode","_law_way","_law_dark","_law_formula_here","_law_secret_here","_law_shut","_law_some"],eN)::
 (41,"_law_block_by",["_law_cells","_law_names_here","_law_loose","_law_stack","_law_turn","_law_cell","_law_more_here","_law_mode"],cU)::
 (72,"_law_blocks",["_law_row"],gG)::
 (106,"_law_formula",["_law_row"],fy)::
 (107,"_law_listed",["_law_block","_law_around","_law_rows","_law_row","_law_inner"],gH)::
 (108,"_law_secret",["_law_pairs","_law_rows","_law_secret_here","_law_grown","_law_row","_law_around"],gI)::
 (109,"_law_row_of_names",["_law_names_here","_law_many","_law_step","_law_order","_law_rows","_law_place","_law_before"],bA)::
 (95,"_law_more",["_law_names_here","_law_cell","_law_many","_law_found"],fA)::
 (96,"_law_told",["_law_names_here","_law_more_here","_law_cell","_law_rows","_law_number","_law_k","_law_name","_law_at"],dL)::
 (110,"law",["_law_script","_law_names_here","_law_more_here","_law_pairs","_law_block","_law_cell","_law_program","_law_secret_here","_law_due","_law_told_here"],cD)::[]
noncomputable def mtab:zh:=[(63,0,"__init__",["self","opens","secrets","block","known","many"],cZ),
 (64,0,"names",["self","found","number","row","above"],d6),
 (65,0,"kind",["self","name"],eV),
 (66,0,"told",["self"],eW),
 (67,0,"block",["self"],d7)]
noncomputable def PP (f:Nat):Option Fn:=(fnP tab f).or (mtP mtab f)
end Internal
end
section
namespace Internal
theorem wN {g:Gd}{step:MV→(Fl→MS→Prop)→MS→Prop}{Q:Fl→MS→Prop}(I:Nat→MS→Prop)(Rt:MV→MS→Prop){items:List MV}{m:MS}(h0:I 0 m)(hg:∀i m,I i m→aO g m.heap)
  (hstep:∀i x m (P:Fl→MS→Prop),items[i]?=some x→I i m→(∀m',I (i+1) m'→P .next m')→(∀m',I (i+1) m'→P .cont m')→(∀r m',Rt r m'→P (.ret r) m')→step x P m)
  (hend:∀m,I items.length m→Q .next m) (hret:∀r m,Rt r m→Q (.ret r) m):eX g step Q items m:=by
 have key:∀(l:List MV) (i:Nat) (m:MS),i+l.length=items.length→items.drop i=l→I i m→eX g step Q l m:=by
  intro l
  induction l with
  | nil=>
   intro i m hl e hI
   have hl:i=items.length:=hl
   subst hl
   rw [n8]
   exact ⟨hg _ m hI,hend m hI⟩
  | cons x l ih=>
   intro i m hl e hI
   have hlt:i<items.length:=by simp only [List.length_cons] at hl;exact n1 (Nat.le_of_eq hl) (by simp +arith only)
   have e':=List.drop_eq_getElem_cons hlt
   rw [e] at e'
   simp only [List.cons.injEq] at e'
   rw [lR]
   refine ⟨hg i m hI,hstep i x m _ (by rw [List.getElem?_eq_getElem hlt,e'.1]) hI (fun m' h'=>?_) (fun m' h'=>?_) fun r m' h'=>hret r m' h'⟩
   ·exact ih (i+1) m' (by simp only [List.length_cons] at hl;lia) e'.2.symm h'
   ·exact ih (i+1) m' (by simp only [List.length_cons] at hl;lia) e'.2.symm h'
 exact key items 0 m (by simp) (by simp) h0
theorem gN {σ:Type}(st:Nat→σ→MS)(I:Nat→σ→Prop){g:Gd}{step:MV→(Fl→MS→Prop)→MS→Prop}{Q:Fl→MS→Prop}{items:List MV}{m:MS}(w:σ)(e0:m=st 0 w)(h0:I 0 w)(hg:∀i w,I i w→aO g (st i w).heap)
  (hstep:∀i x w (P:Fl→MS→Prop),items[i]?=some x→I i w→(∀w,I (i+1) w→P .next (st (i+1) w))→(∀w,I (i+1) w→P .cont (st (i+1) w))→step x P (st i w)) (hend:∀w,I items.length w→Q .next (st items.length w)):eX g step Q items m:=by
 refine wN (fun i m=>∃w,m=st i w∧I i w) (fun _ _=>False) ⟨w,e0,h0⟩ (fun i m hI=>?_) (fun i x m P hx hI h1 h2 _=>?_) (fun m hI=>?_) (fun _ _ h=>h.elim)
 ·obtain ⟨w,rfl,h⟩:=hI;exact hg i w h
 ·obtain ⟨w,rfl,h⟩:=hI;exact hstep i x w P hx h (fun w h=>h1 _ ⟨w,rfl,h⟩) fun w h=>h2 _ ⟨w,rfl,h⟩
 ·obtain ⟨w,rfl,h⟩:=hI;exact hend w h
theorem jP {α β:Type}(st:Nat→α→β→MS)(I:Nat→α→β→Prop){g:Gd}{step:MV→(Fl→MS→Prop)→MS→Prop}{Q:Fl→MS→Prop}{items:List MV}{m:MS}(a:α)(b:β)(e0:m=st 0 a b)(h0:I 0 a b)(hg:∀i a b,I i a b→aO g (st i a b).heap)
  (hstep:∀i x a b (P:Fl→MS→Prop),items[i]?=some x→I i a b→(∀a b,I (i+1) a b→P .next (st (i+1) a b))→(∀a b,I (i+1) a b→P .cont (st (i+1) a b))→step x P (st i a b)) (hend:∀a b,I items.length a b→Q .next (st items.length a b)):eX g step Q items m:=
 gN (fun i (w:α × β)=>st i w.1 w.2) (fun i w=>I i w.1 w.2) (a,b) e0 h0 (fun i w=>hg i w.1 w.2) (fun i x w P hx hI h1 h2=>hstep i x w.1 w.2 P hx hI (fun a b h=>h1 (a,b) h) fun a b h=>h2 (a,b) h) fun w=>hend w.1 w.2
theorem nE {α β γ:Type}(st:Nat→α→β→γ→MS)(I:Nat→α→β→γ→Prop){g:Gd}{step:MV→(Fl→MS→Prop)→MS→Prop}{Q:Fl→MS→Prop}{items:List MV}{m:MS}(a:α)(b:β)(c:γ)(e0:m=st 0 a b c)(h0:I 0 a b c)(hg:∀i a b c,I i a b c→aO g (st i a b c).heap)
  (hstep:∀i x a b c (P:Fl→MS→Prop),items[i]?=some x→I i a b c→(∀a b c,I (i+1) a b c→P .next (st (i+1) a b c))→(∀a b c,I (i+1) a b c→P .cont (st (i+1) a b c))→step x P (st i a b c)) (hend:∀a b c,I items.length a b c→Q .next (st items.length a b c)):eX g step Q items m:=
 gN (fun i (w:α × β × γ)=>st i w.1 w.2.1 w.2.2) (fun i w=>I i w.1 w.2.1 w.2.2) (a,b,c) e0 h0 (fun i w=>hg i w.1 w.2.1 w.2.2) (fun i x w P hx hI h1 h2=>hstep i x w.1 w.2.1 w.2.2 P hx hI (fun a b c h=>h1 (a,b,c) h) fun a b c h=>h2 (a,b,c) h) fun w=>hend w.1 w.2.1 w.2.2
theorem jQ {α β γ δ:Type}(st:Nat→α→β→γ→δ→MS)(I:Nat→α→β→γ→δ→Prop){g:Gd}{step:MV→(Fl→MS→Prop)→MS→Prop}{Q:Fl→MS→Prop}{items:List MV}{m:MS}(a:α)(b:β)(c:γ)(d:δ)(e0:m=st 0 a b c d)(h0:I 0 a b c d)(hg:∀i a b c d,I i a b c d→aO g (st i a b c d).heap)
  (hstep:∀i x a b c d (P:Fl→MS→Prop),items[i]?=some x→I i a b c d→(∀a b c d,I (i+1) a b c d→P .next (st (i+1) a b c d))→(∀a b c d,I (i+1) a b c d→P .cont (st (i+1) a b c d))→step x P (st i a b c d)) (hend:∀a b c d,I items.length a b c d→Q .next (st items.length a b c d)):eX g step Q items m:=
 gN (fun i (w:α × β × γ × δ)=>st i w.1 w.2.1 w.2.2.1 w.2.2.2) (fun i w=>I i w.1 w.2.1 w.2.2.1 w.2.2.2) (a,b,c,d) e0 h0 (fun i w=>hg i w.1 w.2.1 w.2.2.1 w.2.2.2) (fun i x w P hx hI h1 h2=>hstep i x w.1 w.2.1 w.2.2.1 w.2.2.2 P hx hI (fun a b c d h=>h1 (a,b,c,d) h) fun a b c d h=>h2 (a,b,c,d) h) fun w=>hend w.1 w.2.1 w.2.2.1 w.2.2.2
theorem nF {α β γ δ ε:Type}(st:Nat→α→β→γ→δ→ε→MS)(I:Nat→α→β→γ→δ→ε→Prop){g:Gd}{step:MV→(Fl→MS→Prop)→MS→Prop}{Q:Fl→MS→Prop}{items:List MV}{m:MS}(a:α)(b:β)(c:γ)(d:δ)(e:ε)(e0:m=st 0 a b c d e)(h0:I 0 a b c d e)(hg:∀i a b c d e,I i a b c d e→aO g (st i a b c d e).heap)
  (hstep:∀i x a b c d e (P:Fl→MS→Prop),items[i]?=some x→I i a b c d e→(∀a b c d e,I (i+1) a b c d e→P .next (st (i+1) a b c d e))→(∀a b c d e,I (i+1) a b c d e→P .cont (st (i+1) a b c d e))→step x P (st i a b c d e)) (hend:∀a b c d e,I items.length a b c d e→Q .next (st items.length a b c d e)):eX g step Q items m:=
 gN (fun i (w:α × β × γ × δ × ε)=>st i w.1 w.2.1 w.2.2.1 w.2.2.2.1 w.2.2.2.2) (fun i w=>I i w.1 w.2.1 w.2.2.1 w.2.2.2.1 w.2.2.2.2) (a,b,c,d,e) e0 h0 (fun i w=>hg i w.1 w.2.1 w.2.2.1 w.2.2.2.1 w.2.2.2.2) (fun i x w P hx hI h1 h2=>hstep i x w.1 w.2.1 w.2.2.1 w.2.2.2.1 w.2.2.2.2 P hx hI (fun a b c d e h=>h1 (a,b,c,d,e) h) fun a b c d e h=>h2 (a,b,c,d,e) h) fun w=>hend w.1 w.2.1 w.2.2.1 w.2.2.2.1 w.2.2.2.2
theorem iw {α β γ δ ε ζ:Type}(st:Nat→α→β→γ→δ→ε→ζ→MS)(I:Nat→α→β→γ→δ→ε→ζ→Prop){g:Gd}{step:MV→(Fl→MS→Prop)→MS→Prop}{Q:Fl→MS→Prop}{items:List MV}{m:MS}(a:α)(b:β)(c:γ)(d:δ)(e:ε)(f:ζ)(e0:m=st 0 a b c d e f)(h0:I 0 a b c d e f)(hg:∀i a b c d e f,I i a b c d e f→aO g (st i a b c d e f).heap)
  (hstep:∀i x a b c d e f (P:Fl→MS→Prop),items[i]?=some x→I i a b c d e f→(∀a b c d e f,I (i+1) a b c d e f→P .next (st (i+1) a b c d e f))→(∀a b c d e f,I (i+1) a b c d e f→P .cont (st (i+1) a b c d e f))→step x P (st i a b c d e f)) (hend:∀a b c d e f,I items.length a b c d e f→Q .next (st items.length a b c d e f)):eX g step Q items m:=
 gN (fun i (w:α × β × γ × δ × ε × ζ)=>st i w.1 w.2.1 w.2.2.1 w.2.2.2.1 w.2.2.2.2.1 w.2.2.2.2.2) (fun i w=>I i w.1 w.2.1 w.2.2.1 w.2.2.2.1 w.2.2.2.2.1 w.2.2.2.2.2) (a,b,c,d,e,f) e0 h0 (fun i w=>hg i w.1 w.2.1 w.2.2.1 w.2.2.2.1 w.2.2.2.2.1 w.2.2.2.2.2) (fun i x w P hx hI h1 h2=>hstep i x w.1 w.2.1 w.2.2.1 w.2.2.2.1 w.2.2.2.2.1 w.2.2.2.2.2 P hx hI (fun a b c d e f h=>h1 (a,b,c,d,e,f) h) fun a b c d e f h=>h2 (a,b,c,d,e,f) h) fun w=>hend w.1 w.2.1 w.2.2.1 w.2.2.2.1 w.2.2.2.2.1 w.2.2.2.2.2
structure A3 (p1 p2 p3:Prop):Prop where
 h1:p1
 h2:p2
 h3:p3
structure A4 (p1 p2 p3 p4:Prop):Prop where
 h1:p1
 h2:p2
 h3:p3
 h4:p4
structure A5 (p1 p2 p3 p4 p5:Prop):Prop where
 h1:p1
 h2:p2
 h3:p3
 h4:p4
 h5:p5
structure A6 (p1 p2 p3 p4 p5 p6:Prop):Prop where
 h1:p1
 h2:p2
 h3:p3
 h4:p4
 h5:p5
 h6:p6
structure A7 (p1 p2 p3 p4 p5 p6 p7:Prop):Prop where
 h1:p1
 h2:p2
 h3:p3
 h4:p4
 h5:p5
 h6:p6
 h7:p7
theorem A3.el {p1 p2 p3 G:Prop}(h:A3 p1 p2 p3)(k:p1→p2→p3→G):G:=k h.h1 h.h2 h.h3
theorem A4.el {p1 p2 p3 p4 G:Prop}(h:A4 p1 p2 p3 p4)(k:p1→p2→p3→p4→G):G:=k h.h1 h.h2 h.h3 h.h4
theorem A5.el {p1 p2 p3 p4 p5 G:Prop}(h:A5 p1 p2 p3 p4 p5)(k:p1→p2→p3→p4→p5→G):G:=k h.h1 h.h2 h.h3 h.h4 h.h5
theorem A6.el {p1 p2 p3 p4 p5 p6 G:Prop}(h:A6 p1 p2 p3 p4 p5 p6)(k:p1→p2→p3→p4→p5→p6→G):G:=k h.h1 h.h2 h.h3 h.h4 h.h5 h.h6
theorem A7.el {p1 p2 p3 p4 p5 p6 p7 G:Prop}(h:A7 p1 p2 p3 p4 p5 p6 p7)(k:p1→p2→p3→p4→p5→p6→p7→G):G:=k h.h1 h.h2 h.h3 h.h4 h.h5 h.h6 h.h7
theorem fY {c:(Bool→MS→Prop)→MS→Prop}{b:(Fl→MS→Prop)→MS→Prop}{Q:Fl→MS→Prop}(I:Nat→MS→Prop)(hno:∀m,¬ I 0 m)
  (hturn:∀k m (W:MS→Prop),I (k+1) m→(∀m',I k m'→W m')→c (fun t m=>match t with
   | true=>b (fun f m=>match f with
    | .next=>W m
    | .cont=>W m
    | .brk=>Q .next m
    | .ret r=>Q (.ret r) m) m
   | false=>Q .next m) m):∀(k:Nat) (m:MS),I k m→dj c b Q k m
 | 0,m,h=>(hno m h).elim
 | k+1,m,h=>by
  rw [je]
  exact hturn k m (fun m=>dj c b Q k m) h fun m' h'=>fY I hno hturn k m' h'
theorem rq {σ:Type}(st:σ→MS)(I:Nat→σ→Prop){c:(Bool→MS→Prop)→MS→Prop}{b:(Fl→MS→Prop)→MS→Prop}{Q:Fl→MS→Prop}(hno:∀w,¬ I 0 w)
  (hturn:∀k w (W:MS→Prop),I (k+1) w→(∀w,I k w→W (st w))→c (fun t m=>match t with
   | true=>b (fun f m=>match f with
    | .next=>W m
    | .cont=>W m
    | .brk=>Q .next m
    | .ret r=>Q (.ret r) m) m
   | false=>Q .next m) (st w)) (k:Nat) (w:σ) {m:MS} (e:m=st w) (h:I k w):dj c b Q k m:=
 fY (fun k m=>∃w,m=st w∧I k w) (fun m h=>by obtain ⟨w,_,h⟩:=h;exact hno w h) (fun k m W h hW=>by obtain ⟨w,rfl,h⟩:=h;exact hturn k w W h fun w h=>hW _ ⟨w,rfl,h⟩) k m ⟨w,e,h⟩
noncomputable abbrev Hpp:=List MO
theorem aa {h hp:List MO}{o:MO}(x:h<+:hp):h<+:hp++[o]:=x.trans (List.prefix_append _ _)
theorem ak (h:List MO):h<+:h:=List.prefix_refl _
theorem aj {h hp:List MO}(x:h<+:hp){i:Nat}{o:MO}(e:h[i]?=some o):hp[i]?=some o:=by
 obtain ⟨t,rfl⟩:=x
 rw [List.getElem?_append_left (List.getElem?_eq_some_iff.mp e).1];exact e
theorem aR {h hp:List MO}(x:h<+:hp){i:Nat}{o:MO}(e:h.length≤i):h<+:hp.set i o:=by
 obtain ⟨t,rfl⟩:=x
 rw [List.set_append_right _ _ e]
 exact List.prefix_append _ _
theorem af {α:Type}(h:List α)(o:α):(h++[o])[h.length]?=some o:=by simp
theorem ah {α:Type}{h:List α}{o o':α}{i:Nat}(e:h[i]?=some o):(h++[o'])[i]?=some o:=by
 rw [List.getElem?_append_left (List.getElem?_eq_some_iff.mp e).1];exact e
theorem get_set {α:Type}{h:List α}{o o':α}{i:Nat}(e:h[i]?=some o):(h.set i o')[i]?=some o':=by
 have:=(List.getElem?_eq_some_iff.mp e).1
 simp [this]
theorem iz {m:MS}{o:MO}:(m.push o).heap[m.heap.length]?=some o:=af _ _
theorem eO {m:MS}{o o':MO}{i:Nat}(e:m.heap[i]?=some o):(m.push o').heap[i]?=some o:=ah e
theorem tH {m:MS}{o o':MO}:((m.push o).push o').heap[m.heap.length]?=some o:=ah (af _ _)
theorem Fu {m:MS}{o o':MO}{i:Nat}(e:m.heap[i]?=some o):(m.put i o').heap[i]?=some o':=get_set e
theorem fB {k:Int}{hp:List MO}(h1:-16777216≤k)(h2:k≤16777216):cR .range1 [.int k] hp=some ((List.range k.toNat).map (fun (i:Nat)=>.int i),none):=by
 show (match decide (-16777216≤k∧k≤16777216) with
  | true=>some ((List.range k.toNat).map (fun (i:Nat)=>MV.int i),none)
  | false=>none)=_
 rw [decide_eq_true ⟨h1,h2⟩]
theorem aG {r:Nat}{xs:List MV}{hp:List MO}(e:hp[r]?=some (.list xs)):cR .val [.ref r] hp=some (xs,some (r,.list xs)):=by
 show (match hp[r]? with
  | some (.list xs)=>some (xs,some (r,MO.list xs))
  | _=>none)=_
 rw [e]
theorem mB {r:Nat}{xs:List MV}{hp:List MO}(e:hp[r]?=some (.list xs)):cR .enum [.ref r] hp=some (xs.zipIdx.map (fun p=>.tup [.int p.2,p.1]),some (r,.list xs)):=by
 show (match hp[r]? with
  | some (.list xs)=>some (xs.zipIdx.map (fun p:MV × Nat=>MV.tup [.int p.2,p.1]),some (r,MO.list xs))
  | _=>none)=_
 rw [e]
theorem fC {k i:Nat}{x:MV}(e:((List.range k).map (fun (i:Nat)=>MV.int i))[i]?=some x):i<k∧x=.int i:=by
 simp only [List.getElem?_map,Option.map_eq_some_iff] at e
 refine e12 e fun j h1 h2=>?_
 obtain ⟨h3,h4⟩:=List.getElem?_eq_some_iff.mp h1
 simp at h3 h4;subst h4
 exact ⟨h3,h2.symm⟩
theorem mC (k:Nat):((List.range k).map (fun (i:Nat)=>MV.int i)).length=k:=by simp
theorem nG {xs:List MV}{i:Nat}{x:MV}(e:(xs.zipIdx.map (fun p=>MV.tup [.int p.2,p.1]))[i]?=some x):∃y,xs[i]?=some y∧x=.tup [.int i,y]:=by
 simp only [List.getElem?_map,Option.map_eq_some_iff] at e
 obtain ⟨⟨y,j⟩,hj,rfl⟩:=e
 rw [List.getElem?_zipIdx] at hj
 simp only [Option.map_eq_some_iff,Nat.zero_add] at hj
 obtain ⟨y',hy,hj⟩:=hj
 cases hj
 exact ⟨y,hy,rfl⟩
theorem GF {α:Type}{f:α→MV}{l:List α}{j:Nat}{x:MV}{G:MV→Prop}(h:(l.map f)[j]?=some x)(k:∀y,l[j]?=some y→G (f y)):G x:=by
 obtain ⟨y,h1,rfl⟩:=Option.map_eq_some_iff.mp (List.getElem?_map ..▸h)
 exact k y h1
theorem Fv {k i:Nat}{x:MV}{G:MV→Prop}(e:((List.range k).map (fun (i:Nat)=>MV.int i))[i]?=some x)(h:i<k→G (.int i)):G x:=by
 obtain ⟨h1,rfl⟩:=fC e
 exact h h1
theorem Gv {xs:List MV}{i:Nat}{x:MV}{G:MV→Prop}(e:(xs.zipIdx.map (fun p=>MV.tup [.int p.2,p.1]))[i]?=some x)(h:∀y,xs[i]?=some y→G (.tup [.int i,y])):G x:=by
 obtain ⟨y,h1,rfl⟩:=nG e
 exact h y h1
theorem wO (xs:List MV):(xs.zipIdx.map (fun p=>MV.tup [.int p.2,p.1])).length=xs.length:=by simp
theorem bf {hp:List MO}{r:Nat}{xs:List MV}(e:hp[r]?=some (.list xs)):lst (.ref r) hp=some (r,xs):=by
 show rV r hp[r]?=_;rw [e];rfl
theorem aH {hp:List MO}{r:Nat}{xs:List MV}(e:hp[r]?=some (.list xs)):lQ .append (.ref r) hp=true:=by
 show (rV r hp[r]?).isSome=true;rw [e];rfl
noncomputable def b2n:Bool→Nat
 | true=>1
 | false=>0
noncomputable def sel {α:Type}(d:Bool)(a b:α):α:=match d with
 | true=>b
 | false=>a
theorem iA {α:Type}{a b:α}{d:Bool}:gZ (b2i d) [a,b].length=some (b2n d):=by cases d<;>rfl
theorem jR {α:Type}{a b:α}{d:Bool}:[a,b][b2n d]?=some (sel d a b):=by cases d<;>rfl
inductive mD {α:Type}(P:Nat→α→Prop):Nat→List α→Prop
 | nil {n}:mD P n []
 | cons {n a l}:P n a→mD P (n+1) l→mD P n (a::l)
theorem mD.get {α:Type}{P:Nat→α→Prop}{n:Nat}{l:List α}(h:mD P n l)(j:Nat)(hj:j<l.length):∃t,l[j]?=some t∧P (j+n) t:=by
 induction h generalizing j with
 | nil=>exact absurd hj (Nat.not_lt_zero _)
 | @cons n a l h _ ih=>
  cases j with
  | zero=>exact ⟨a,rfl,by rw [Nat.zero_add];exact h⟩
  | succ j=>
   refine e12 (ih j (Nat.lt_of_succ_lt_succ hj)) fun t h1 h2=>?_
   exact ⟨t,h1,by rw [Nat.succ_add];exact h2⟩
noncomputable def okS (s:List Nat):Prop:=∀c∈s,c<55296
theorem okS.d {s:List Nat}(h:okS s):D.ok (.str s)=true:=List.all_eq_true.mpr fun c hc=>decide_eq_true (h c hc)
theorem kO:∀{ss:List (List Nat)},(∀s∈ss,okS s)→D.oks (ss.map .str)=true
 | [],_=>rfl
 | s::ss,h=>by
  show (D.ok (.str s)&&D.oks (ss.map .str))=true
  rw [(h s (List.mem_cons_self ..)).d,kO fun t ht=>h t (List.mem_cons_of_mem _ ht)];rfl
theorem kP {hp:List MO}:∀(ss:List (List Nat)),Rds hp (ss.map .str) (ss.map .str)
 | []=>.nil
 | s::ss=>.cons (.str s) (kP ss)
theorem iB {K:KT}{n i:Nat}{Q:PQ}{X:XM}{m:MS}{v:MV}(hv:m.get i=some v)(h:Q v m):wpE K n (.var i) Q X m:=by
 show (match m.get i with | some v=>Q v m | none=>False)
 rw [hv];exact h
theorem bL {hp:List MO}{x:List Nat}{ss:List (List Nat)}{Q:Bool→Prop}(hx:okS x)(hs:∀s∈ss,okS s)(h:Q (ss.contains x)):InP hp (.str x) (ss.map .str) Q:=by
 refine .mk (.str x) (ss.map .str) (.str x) (kP ss) (Nat.zero_le _) hx.d (kO hs) ?_
 have e:(ss.map D.str).any (fun e=>e.deq (.str x))=ss.contains x:=by
  clear h hs
  induction ss with
  | nil=>rfl
  | cons s ss ih=>
   show ((s==x)||(ss.map D.str).any (fun e=>e.deq (.str x)))=(x==s||ss.contains x)
   rw [ih,BEq.comm]
 rw [e];exact h
theorem GH {hp:List MO}{x:List Nat}{ss:List (List Nat)}{Q:Bool→Prop}(hx:okS x)(hs:∀s∈ss,okS s)(hm:x∈ss)(h:Q true):InP hp (.str x) (ss.map .str) Q:=bL hx hs (by rw [List.contains_iff_mem.mpr hm];exact h)
theorem Gw {hp:List MO}{x:List Nat}{ss:List (List Nat)}{Q:Bool→Prop}(hx:okS x)(hs:∀s∈ss,okS s)(hm:x∉ss)(h:Q false):InP hp (.str x) (ss.map .str) Q:=bL hx hs (by rw [show ss.contains x=false from by rw [Bool.eq_false_iff];exact fun q=>hm (List.contains_iff_mem.mp q)];exact h)
theorem bi {k:Int}{n:Nat}(h0:0≤k)(h1:k<n):gZ k n=some k.toNat:=by
 unfold gZ
 rw [decide_eq_true h0,decide_eq_true h1]
theorem oz (z:Int):1+z-1=z:=by rw [Int.add_comm,Int.add_sub_cancel]
theorem C9 {k:Int}{z n:Nat}(e:k=z)(h:z<n):gZ k n=some z:=by
 subst e;exact bi (Int.natCast_nonneg _) (Int.ofNat_lt.mpr h)
theorem bD {α:Type}{xs:List α}{i:Nat}(h:i<xs.length):xs[i]?=some xs[i]:=List.getElem?_eq_getElem h
theorem iC {k:Int}{n:Nat}(h:0≤k):pend k n=min k.toNat n:=by
 unfold pend;rw [decide_eq_true h]
theorem cj {α:Type}{xs:List α}{k:Int}(h:0≤k):aF xs none (some k)=xs.take k.toNat:=by
 unfold aF
 simp only [iC h,List.drop_zero]
 rw [←List.take_eq_take_min]
theorem bQ {α:Type}{xs:List α}{k:Int}(h:0≤k):aF xs (some k) none=xs.drop k.toNat:=by
 unfold aF
 simp only [iC h,List.take_length]
 refine Or.elim (Nat.le_total k.toNat xs.length) (fun q=>?_) fun q=>?_
 ·rw [Nat.min_eq_left q]
 ·rw [Nat.min_eq_right q,List.drop_length,List.drop_eq_nil_of_le q]
theorem aL {n:Nat}(h:n≤1000000):n≤line:=by unfold line;exact Nat.le_trans h (nb rfl)
theorem gO:∀(l t:List (List Nat)),l.Nodup→(∀x∈l,x∈t)→l.length≤t.length
 | [],_,_,_=>Nat.zero_le _
 | a::l,t,hn,hs=>by
  rw [List.nodup_cons] at hn
  have ha:a∈t:=hs a (List.mem_cons_self ..)
  have:=gO l (t.erase a) hn.2 fun x hx=>by
   have hne:x≠a:=fun q=>hn.1 (q▸hx)
   exact (List.mem_erase_of_ne hne).mpr (hs x (List.mem_cons_of_mem _ hx))
  rw [List.length_erase_of_mem ha] at this
  have:=List.length_pos_of_mem ha
  exact Nat.add_le_of_le_sub this (by assumption)
end Internal
end
section
namespace Internal
variable {Q:MV→List MO→Prop}{X:XT}{h:List MO}
variable {K:KT}(hK:aV PP K)
noncomputable def mix (x:Int):Int:=(x * 48271+7919) % 2147483647
theorem zn (x:Int):0≤mix x∧mix x<2147483647:=by unfold mix;exact em rfl
noncomputable def cell (is:List Int)(k:Int):Int:=match is[k.toNat]? with
 | some v=>v
 | none=>0
noncomputable abbrev abc:List Nat:=[97,98,99,100,101,102,103,104,105,106,107,108,109,110,111,112,113,114,115,116,117,118,119,120,121,122]
noncomputable abbrev jv:List Nat:=[97,98,99,100,101,102,103,104,105,106,107,108,109,110,111,112,113,114,115,116,117,118,119,120,121,122,48,49,50,51,52,53,54,55,56,57]
theorem Gx:∀c∈abc,c<128:=by decide
theorem nH:∀c∈abc,c∈jv:=by decide
theorem oZ:∀c∈jv,c<128:=by decide
noncomputable def Nm (s:List Nat):Prop:=s≠[]∧s.length≤8∧(∀c∈s,c∈jv)∧s.headD 0∈abc
theorem Nm.ok {s:List Nat}(h:Nm s):okS s:=fun c hc=>Nat.lt_trans (oZ c (h.2.2.1 c hc)) (by decide)
theorem fZ {s t:List Nat}(h:s≠[]):(s++t).headD 0=s.headD 0:=by
 cases s with
 | nil=>exact absurd rfl h
 | cons=>rfl
theorem kQ {s:List Nat}{k:Nat}(h:0<k):(s.take k).headD 0=s.headD 0:=by
 cases s with
 | nil=>rw [List.take_nil]
 | cons=>cases k with
  | zero=>cases h
  | succ=>rfl
noncomputable def kws:List (List Nat):=[[115,101,116],[116,101,108,108],[115,107,105,112],[105,102],[101,108,115,101],[119,104,105,108,101],[101,110,100]]
theorem qz:∀s∈kws,okS s:=by unfold okS kws;decide
theorem rt:∀s∈kws,s.length≤5:=by unfold kws;decide
include hK
theorem db {n:Nat}{x:Int}(hq:Q (.int (mix x)) h):K (n+1) 6 [.int x] Q X h:=by
 refine hK _ _ _ _ _ _ iu rfl rfl ?_
 refine ⟨.inr (by unfold dU;decide),?_⟩
 exact hq
theorem iZ {n:Nat}{is:List Int}{k:Int}(hk:0≤k)(hq:Q (.int (cell is k)) h):K (n+1) 5 [.scr is,.int k] Q X h:=by
 refine hK _ _ _ _ _ _ fu rfl rfl ?_
 unfold cell at hq
 by_cases hlt:k<is.length
 ·refine pL (decide_eq_true hlt) ?_
  conv=>whnf
  rw [bi hk hlt]
  dsimp only
  rw [bD (tn hk hlt)] at hq ⊢
  exact hq
 ·refine dP (decide_eq_false hlt) ?_
  rw [List.getElem?_eq_none ((Int.le_toNat hk).mpr (Int.not_lt.mp hlt))] at hq
  exact hq
theorem wQ {n:Nat}{s:List Nat}{X:XM}{m:MS}(v:Nat)(hv:m.get v=some (.str s))(hs:Nm s)(hq:∀s' h',Nm s'→m.heap<+:h'→Q (.str s') h') :
  aP K n [.ite (.cmp .inn (.var v) (.list [.cst (.str [115,101,116]),.cst (.str [116,101,108,108]),.cst (.str [115,107,105,112]),.cst (.str [105,102]),.cst (.str [101,108,115,101]),.cst (.str [119,104,105,108,101]),.cst (.str [101,110,100])])) [.ret (.bin .add (.var v) (.cst (.str [48])))] [],.ret (.var v)] (fin Q) X m:=by
 have e:∀{Q:PQ} {X:XM} {m':MS},m'.vars=m.vars→Q (.str s) m'→wpE K n (.var v) Q X m':=fun {Q X m'} e h=>by
  exact iB (by rw [←hv];unfold MS.get;rw [e]) h
 refine e (X:=X) rfl ?_
 refine ax iz ?_
 refine bL hs.ok qz ?_
 refine fc (fun hc=>?_) fun hc=>?_
 ·show wpE K n (.var v) _ X _
  refine e (X:=X) rfl ?_
  have hl:=rt s (by simpa using hc)
  refine ⟨by show s.length+1≤2 ^ 24;lia,hq _ _ ⟨by simp,by simp;exact Nat.le_trans hl (nb rfl),?_,by rw [fZ hs.1];exact hs.2.2.2⟩ (aa (ak _))⟩
  intro c hc
  rcases List.mem_append.mp hc with h | h
  ·exact hs.2.2.1 c h
  ·rw [List.mem_singleton.mp h];decide
 ·show wpE K n (.var v) _ X _
  refine e (X:=X) rfl ?_
  exact hq s _ hs (aa (ak _))
theorem tI {n:Nat}{x:Int}(hq:∀s h',Nm s→h<+:h'→Q (.str s) h'):K (n+2) 7 [.int x] Q X h:=by
 refine hK _ _ _ _ _ _ fv rfl rfl ?_
 conv=>whnf
 rw [bi (em0 rfl) (by show (_:Int)<26;exact em2 rfl)]
 refine fb (bD (by show _<26;exact emN rfl)) ?_
 refine aJ (fB (by lia) (by lia)) ?_
 refine nE (fun i s (z:Int) w=>⟨[some (.int x),some (.str s),some (.int z),w],h⟩) (fun i s (z:Int) w=>A3 (s.length=i+1) (∀c∈s,c∈jv) (s.headD 0∈abc)) _ _ _ rfl ⟨rfl,?_,List.getElem_mem _⟩ (fun _ _ _ _ _=>trivial) (fun i y s z w P hy hI hn _=>?_) (fun s z w hI=>?_)
 ·intro c hc
  simp only [List.mem_singleton] at hc;subst hc;exact nH _ (List.getElem_mem _)
 ·obtain ⟨hi,rfl⟩:=fC hy
  obtain ⟨hl,hc,hh⟩:=hI
  refine db hK ?_
  conv=>whnf
  rw [bi (em0 rfl) (by show (_:Int)<36;exact em2 rfl)]
  refine fb (bD (by show _<36;exact emN rfl)) ?_
  refine ⟨by show s.length+1≤2 ^ 24;rw [hl];exact Nat.le_trans (Nat.succ_le_succ (Nat.succ_le_succ (Nat.le_of_lt (Nat.lt_trans hi (emN (n:=8) rfl))))) (nb rfl),?_⟩
  refine hn _ _ _ ⟨by simp;exact hl,?_,by rw [fZ (fun q=>by rw [q] at hl;simp at hl)];exact hh⟩
  intro c h
  rcases List.mem_append.mp h with h | h
  ·exact hc c h
  ·simp only [List.mem_singleton] at h;subst h;exact List.getElem_mem _
 ·refine hI.el fun hl hc hh=>?_
  rw [mC] at hl
  exact wQ hK 1 rfl ⟨fun q=>by rw [q] at hl;simp at hl,hl▸Nat.succ_le_of_lt (emN (n:=8) rfl),hc,hh⟩ hq
end Internal
end
section
namespace Internal
variable {Q:MV→List MO→Prop}{X:XT}{h:List MO}
variable {K:KT}(hK:aV PP K)
include hK
theorem mE {n:Nat}{s so:List Nat}{c a:Int}{X:XM}(hs:Nm s)(ha:0≤a)(hb:a<s.length)(h1:2≤so.length)(h2:so.length≤36)(h3:∀c∈so,c∈jv)(h4:a=0→∀c∈so,c∈abc)(hq:∀s' h',Nm s'→h<+:h'→Q (.str s') h') :
  aP K n (fw.body.drop 3) (fin Q) X ⟨[some (.str s),some (.int c),some (.str so),some (.int a),none,none],h⟩:=by
 conv=>whnf
 rw [bi ha hb]
 have hA:=tn ha hb
 refine fb (bD hA) ?_
 intro k hk
 refine aC (decide_eq_true (by lia)) ?_
 refine aC (decide_eq_true (lw (n1 h1 (by simp +arith only)))) ?_
 conv=>whnf
 have hm:∀x:Int,0≤x % so.length∧x % so.length<so.length:=fun x=>have hp:0<so.length:=Nat.le_trans (nb rfl) h1;⟨Int.emod_nonneg _ (cne hp),Int.emod_lt_of_pos _ (lw hp)⟩
 rw [bi (hm _).1 (hm _).2]
 refine fb (bD (tn (hm _).1 (hm _).2)) ?_
 have hlen:=hs.2.1
 have key:min a.toNat s.length+1+(s.length-(a+1).toNat)≤8:=by
  rw [Int.toNat_add ha (by decide),Nat.min_eq_left (Nat.le_of_lt hA)]
  exact Nat.le_trans (Nat.le_of_eq (Nat.add_sub_cancel' hA)) hlen
 rw [cj ha]
 refine ⟨aL (by rw [List.length_take];exact Nat.le_trans (Nat.le_add_right _ _) (lk key rfl)),?_⟩
 conv=>whnf
 rw [bQ (z1 ha (by simp +arith only))]
 refine ⟨aL (by rw [List.length_append,List.length_take,List.length_drop];exact lk key rfl),?_⟩
 refine wQ hK 5 rfl ⟨by simp,?_,?_,?_⟩ hq
 ·rw [List.length_append,List.length_append,List.length_take,List.length_drop];exact key
 ·intro c hc
  rcases List.mem_append.mp hc with h | h
  ·refine Or.elim (List.mem_append.mp h) (fun h=>?_) fun h=>?_
   ·exact hs.2.2.1 c (List.mem_of_mem_take h)
   ·simp only [List.mem_singleton] at h;subst h;exact h3 _ (List.getElem_mem _)
  ·exact hs.2.2.1 c (List.mem_of_mem_drop h)
 ·rw [List.append_assoc]
  by_cases q:a=0
  ·subst q;exact h4 rfl _ (List.getElem_mem _)
  ·rw [fZ (fun e=>by have:=congrArg List.length e;rw [List.length_take,List.length_nil] at this;lia),kQ (by lia)]
   exact hs.2.2.2
theorem Da {n:Nat}{s:List Nat}{c:Int}(hs:Nm s)(hq:∀s' h',Nm s'→h<+:h'→Q (.str s') h'):K (n+1) 8 [.str s,.int c] Q X h:=by
 refine hK _ _ _ _ _ _ fw rfl rfl ?_
 have hp:0<s.length:=List.length_pos_iff.mpr hs.1
 refine aC (decide_eq_true (lw hp)) ?_
 have h0:0≤c % (s.length:Int):=Int.emod_nonneg _ (cne hp)
 have h1:c % (s.length:Int)<s.length:=Int.emod_lt_of_pos _ (lw hp)
 by_cases q:0<c % (s.length:Int)
 ·refine pL (decide_eq_true q) ?_
  refine ⟨aL (by decide),?_⟩
  exact mE hK (so:=jv) hs h0 h1 (by decide) (by decide) (fun _ h=>h) (fun e=>by lia) hq
 ·refine dP (decide_eq_false q) ?_
  exact mE hK (so:=abc) hs h0 h1 (by decide) (by decide) nH (fun _ _ h=>h) hq
end Internal
end
section
namespace Internal
noncomputable def wR (x:Int):Nat:=97+(x % 26).toNat
theorem wU (x:Int):abc[(x % 26).toNat]?=some (wR x):=by
 have h:∀i,i<26→abc[i]?=some (97+i):=by decide
 exact h _ (emN rfl)
theorem zo (x:Int):wR x∈jv:=nH _ (List.mem_of_getElem? (wU x))
noncomputable def kR (p:List Nat)(o:Int)(j:Nat):List Nat:=p++[wR (o+5 * j)]
theorem zq {p:List Nat}{o:Int}{i j:Nat}(h:i<j)(hj:j≤9):kR p o i≠kR p o j:=fun e=>by
 unfold kR at e
 have:=List.append_cancel_left e
 simp only [List.cons.injEq,and_true] at this
 have h1:(o+5 * (i:Int)) % 26=(o+5 * (j:Int)) % 26:=by rw [←Int.toNat_of_nonneg (em0 rfl:0≤(o+5 * (i:Int)) % 26),Nat.add_left_cancel this,Int.toNat_of_nonneg (em0 rfl)]
 have h2:=Int.emod_eq_emod_iff_emod_sub_eq_zero.mp h1.symm
 rw [show o+5 * (j:Int)-(o+5 * (i:Int))=((5 * (j-i):Nat):Int) by first | lia | omega] at h2
 exact (by decide:∀d:Fin 10,0<d.1→((5 * d.1:Nat):Int) % 26≠0) ⟨j-i,Nat.lt_succ_of_le (Nat.le_trans (Nat.sub_le _ _) hj)⟩ (Nat.sub_pos_of_lt h) h2
theorem zw {p:List Nat}{o:Int}{ss:List (List Nat)}(hl:ss.length≤9)(h:∀i,i≤9→kR p o i∈ss):False:=by
 have hn:((List.range 10).map (kR p o)).Nodup:=by
  refine List.pairwise_map.mpr ((List.pairwise_lt_range (n:=10)).imp_of_mem fun {a b} ha hb hlt=>zq hlt ?_)
  simp at hb;exact n1 hb (by simp +arith only)
 have:=gO _ ss hn fun x hx=>by
  obtain ⟨i,hi,rfl⟩:=List.mem_map.mp hx
  simp at hi
  exact h i (n1 hi (by simp +arith only))
 simp at this;exact nf (n2 this hl (by simp +arith only))
noncomputable def Ph (ss:List (List Nat))(i:Int)(k:Nat)(s:List Nat)(u:Int):Prop:=
 21-s.length≤k∨∃p o j,p.length=7∧j≤9∧s=kR p o j∧(∀i',i'<j→kR p o i'∈ss)∧u+8+i=o+5 * ((j:Int)+1)∧11-j≤k
theorem zA {ss:List (List Nat)}{i:Int}{k:Nat}{s:List Nat}{u:Int}(hs:Nm s)(hl:ss.length≤9)(hin:s∈ss∨s∈kws)(h:Ph ss i (k+1) s u) :
  Nm (s.take 7++[wR (u+s.length+i)])∧Ph ss i k (s.take 7++[wR (u+s.length+i)]) (u+5):=by
 have hlen:=hs.2.1
 have hne:0<s.length:=List.length_pos_iff.mpr hs.1
 refine ⟨⟨by simp,by simp;lia,fun c hc=>?_,by rw [fZ (fun e=>by have:=congrArg List.length e;rw [List.length_take,List.length_nil] at this;lia),kQ (by decide)];exact hs.2.2.2⟩,?_⟩
 ·refine Or.elim (List.mem_append.mp hc) (fun h=>?_) fun h=>?_
  ·exact hs.2.2.1 c (List.mem_of_mem_take h)
  ·simp only [List.mem_singleton] at h;subst h;exact zo _
 ·rcases h with h | ⟨p,o,j,hp,hj,hc,hv,hu,hk⟩
  ·by_cases q:s.length=8
   ·refine .inr ⟨s.take 7,u+s.length+i,0,by rw [List.length_take,q];rfl,nb rfl,?_,fun i' hi=>absurd hi (Nat.not_lt_zero _),by lia,by rw [q] at h;exact Nat.le_trans (nb rfl:11≤12) (Nat.le_of_succ_le_succ h)⟩
    unfold kR;simp
   ·refine .inl ?_
    rw [List.length_append,List.length_take]
    rw [Nat.min_eq_right (Nat.le_of_lt_succ (Nat.lt_of_le_of_ne hlen q))]
    exact Nat.sub_le_iff_le_add.mpr (Nat.le_trans (Nat.sub_le_iff_le_add.mp h) (show k+1+s.length≤k+(s.length+1) by simp +arith only))
  ·have h8:s.length=8:=by rw [hc];unfold kR;rw [List.length_append,hp];rfl
   have hss:s∈ss:=hin.elim id fun q=>by have:=rt s q;lia
   by_cases q:j=9
   ·subst q
    exact (zw (p:=p) (o:=o) hl fun i' hi=>by
     by_cases q:i'=9
     ·subst q;rw [←hc];exact hss
     ·exact hv i' (Nat.lt_of_le_of_ne hi q)).elim
   ·refine .inr ⟨p,o,j+1,hp,Nat.lt_of_le_of_ne hj q,?_,fun i' hi=>?_,by lia,Nat.pred_le_pred hk⟩
    ·have:s.take 7=p:=by rw [hc];unfold kR;rw [←hp];simp
     rw [this,h8]
     unfold kR
     congr 3
    ·by_cases q:i'=j
     ·subst q;rw [←hc];exact hss
     ·exact hv i' (Nat.lt_of_le_of_ne (Nat.le_of_lt_succ hi) q)
variable {K:KT}(hK:aV PP K)
include hK
theorem o0 {n:Nat}{s:List Nat}{o u i:Int}{r:Nat}{ss:List (List Nat)}{hp:List MO}{Q:Fl→MS→Prop}{X:XM}(hr:hp[r]?=some (.list (ss.map .str)))(hss:∀s∈ss,Nm s)(hl:ss.length≤9)(hs:Nm s)
  (hq:∀s' u' hp',Nm s'→s'∉ss→s'∉kws→hp<+:hp'→Q .next ⟨[some (.int o),some (.int u'),some (.ref r),some (.int i),some (.str s')],hp'⟩) :
  wpS K n (.while_ (.or [.cmp .inn (.var 4) (.var 2),.cmp .inn (.var 4) (.list [.cst (.str [115,101,116]),.cst (.str [116,101,108,108]),.cst (.str [115,107,105,112]),.cst (.str [105,102]),.cst (.str [101,108,115,101]),.cst (.str [119,104,105,108,101]),.cst (.str [101,110,100])])])
   [.asg [4] false (.bin .add (.sl (.var 4) none (some (.cst (.int 7)))) (.idx (.cst (.str [97,98,99,100,101,102,103,104,105,106,107,108,109,110,111,112,113,114,115,116,117,118,119,120,121,122])) (.bin .mod (.bin .add (.bin .add (.var 1) (.blt .len [.var 4])) (.var 3)) (.cst (.int 26))))),.asg [1] false (.bin .add (.var 1) (.cst (.int 5)))])
   Q X ⟨[some (.int o),some (.int u),some (.ref r),some (.int i),some (.str s)],hp⟩:=by
 refine ⟨30,fY (fun k m=>∃s u hp',m=⟨[some (.int o),some (.int u),some (.ref r),some (.int i),some (.str s)],hp'⟩∧hp<+:hp'∧Nm s∧Ph ss i k s u) (fun m ⟨s,u,hp',_,_,hs,h⟩=>?_) (fun k m W hI hW=>?_) 30 _ ⟨s,u,hp,rfl,ak _,hs,.inl (Nat.le_trans (Nat.sub_le _ _) (nb rfl))⟩⟩
 ·have:=hs.2.1
  rcases h with h | ⟨_,_,j,_,hj,_,_,_,h⟩
  ·exact absurd (Nat.le_trans (Nat.le_of_sub_eq_zero (Nat.le_zero.mp h)) this) (by decide)
  ·exact absurd (Nat.le_trans (Nat.le_of_sub_eq_zero (Nat.le_zero.mp h)) hj) (by decide)
 ·obtain ⟨s,u,hp',rfl,hpre,hs,hph⟩:=hI
  have body:∀hp'',hp<+:hp''→(s∈ss∨s∈kws)→aP K n [.asg [4] false (.bin .add (.sl (.var 4) none (some (.cst (.int 7)))) (.idx (.cst (.str [97,98,99,100,101,102,103,104,105,106,107,108,109,110,111,112,113,114,115,116,117,118,119,120,121,122])) (.bin .mod (.bin .add (.bin .add (.var 1) (.blt .len [.var 4])) (.var 3)) (.cst (.int 26))))),.asg [1] false (.bin .add (.var 1) (.cst (.int 5)))]
    (fun f m=>match f with
    | .next=>W m
    | .cont=>W m
    | .brk=>Q .next m
    | .ret r=>Q (.ret r) m) X ⟨[some (.int o),some (.int u),some (.ref r),some (.int i),some (.str s)],hp''⟩:=fun hp'' hpre hin=>by
   refine e02 (zA hs hl hin hph) fun g1 g2=>?_
   conv=>whnf
   rw [bi (em0 rfl) (by show (_:Int)<26;exact em2 rfl)]
   dsimp only
   rw [wU]
   rw [cj (by decide)]
   refine ⟨aL (by rw [List.length_take];exact Nat.le_trans (Nat.succ_le_succ (Nat.min_le_left 7 _)) (nb rfl)),?_⟩
   exact hW _ ⟨_,_,hp'',rfl,hpre,g1,g2⟩
  refine ax (aj hpre hr) ?_
  refine bL hs.ok (fun t ht=>(hss t ht).ok) ?_
  refine fc (fun hc=>?_) fun hc=>?_
  ·exact body hp' hpre (.inl (by simpa using hc))
  ·refine ax iz ?_
   refine bL hs.ok qz ?_
   cases hc':kws.contains s with
   | true=>exact body _ (aa hpre) (.inr (by simpa using hc'))
   | false=>exact hq s u _ hs (by simpa using hc) (by simpa using hc') (aa hpre)
noncomputable def E5:List MSt→List MSt
 | .for_ _ _ _ _ b::_=>b
 | _=>[]
theorem zB {n:Nat}{a b:Int}{Q:MV→List MO→Prop}{X:XT}{h:List MO}(hq:∀(h':List MO) (r:Nat) (ss:List (List Nat)),h<+:h'→h.length≤r→h'[r]?=some (.list (ss.map .str))→ss.length=10→(∀s∈ss,Nm s)→ss.Nodup→(∀s∈ss,s∉kws)→Q (.ref r) h') :
  K (n+3) 9 [.int a,.int b] Q X h:=by
 refine hK _ _ _ _ _ _ eM rfl rfl ?_
 refine iw (fun i (o:Int) (u:Int) (ss:List (List Nat)) (w3:Option MV) (w4:Option MV) (hp:List MO)=>⟨[some (.int o),some (.int u),some (.ref h.length),w3,w4],hp⟩) (fun i (o:Int) (u:Int) (ss:List (List Nat)) (w3:Option MV) (w4:Option MV) (hp:List MO)=>A6 (h<+:hp) (hp[h.length]?=some (.list (ss.map .str))) (ss.length=i) (∀s∈ss,Nm s) ss.Nodup (∀s∈ss,s∉kws))
  a b [] none none _ rfl ⟨aa (ak _),af _ _,rfl,by simp,List.nodup_nil,by simp⟩ (fun _ _ _ _ _ _ _ _=>trivial) (fun i y o u ss w3 w4 hp P hy hI hn _=>?_) (fun o u ss w3 w4 hp hI=>?_)
 ·obtain ⟨hi,rfl⟩:=fC hy
  obtain ⟨hpre,hr,hl,hss,hnd,hkw⟩:=hI
  have hi:i<10:=hi
  have rest:∀s hp',Nm s→hp<+:hp'→aP K (n+2) ((E5 (eM.body.drop 1)).drop 3) P (xin X) ⟨[some (.int (mix o)),some (.int u),some (.ref h.length),some (.int i),some (.str s)],hp'⟩:=fun s hp' hs hpre'=>by
   refine o0 hK (aj hpre' hr) hss (n2 hi (Nat.le_of_eq hl) (by simp +arith only)) hs fun s' u' hp'' hs' h1 h2 hpre''=>?_
   have hr':=aj (hpre'.trans hpre'') hr
   refine aC (aH hr') ?_
   refine bg (bf hr') ?_
   refine ⟨by rw [List.length_map,hl];exact Nat.lt_of_lt_of_le hi (aL (nb rfl)),?_⟩
   refine hn _ _ (ss++[s']) _ _ _ ⟨aR ((hpre.trans hpre').trans hpre'') (Nat.le_refl _),?_,by simp [hl],?_,?_,?_⟩
   ·rw [get_set hr'];simp
   ·intro t ht
    rcases List.mem_append.mp ht with ht | ht
    ·exact hss t ht
    ·simp at ht;subst ht;exact hs'
   ·rw [List.nodup_append]
    exact ⟨hnd,by simp,fun t ht t' ht'=>by simp at ht';subst ht';exact fun q=>h1 (q▸ht)⟩
   ·intro t ht
    rcases List.mem_append.mp ht with ht | ht
    ·exact hkw t ht
    ·simp at ht;subst ht;exact h2
  refine db hK ?_
  refine tI hK fun s h' hs hpre'=>?_
  have hpre':hp<+:h':=hpre'
  refine si (fun hodd=>?_) fun hodd=>?_
  ·exact rest s h' hs hpre'
  ·have hodd:(i:Int) % 2=1:=by simpa using hodd
   refine si (fun hu=>?_) fun hu=>?_
   ·exact rest s h' hs hpre'
   ·conv=>whnf
    dsimp only [MS.set,List.set]
    refine ai (aj hpre' hr) ?_
    have hi:0<i:=Nat.pos_of_ne_zero fun q=>by subst q;exact absurd hodd (by decide)
    have hlt:i-1<ss.length:=Nat.lt_of_lt_of_eq (Nat.sub_lt hi Nat.one_pos) hl.symm
    rw [show (i:Int)-1=((i-1:Nat):Int) from (Int.natCast_sub hi).symm]
    refine bu (j:=i-1) (v:=.str ss[i-1]) (bi (Int.natCast_nonneg _) (by rw [List.length_map];exact Int.ofNat_lt.mpr hlt)) (by rw [List.getElem?_map,bD hlt];rfl) ?_
    refine db hK ?_
    refine Da hK (hss _ (List.getElem_mem _)) fun s' h'' hs' hpre''=>?_
    exact rest s' h'' hs' (hpre'.trans hpre'')
 ·refine hI.el fun hpre hr hl hss hnd hkw=>?_
  exact hq hp h.length ss hpre (Nat.le_refl _) hr hl hss hnd hkw
end Internal
end
section
namespace Internal
set_option genCtorIdx false in
inductive Tm where
 | num (k:Int) | nm (s:List Nat) | op (c:Nat) (a b:Tm)
gen_injective_theorems% Tm
noncomputable abbrev wV:List Nat:=[110,117,109,98,101,114]
noncomputable abbrev mF:List Nat:=[110,97,109,101]
noncomputable def Tm.mv:Tm→MV
 | .num k=>.tup [.str wV,.int k]
 | .nm s=>.tup [.str mF,.str s]
 | .op c a b=>.tup [.str [c],a.mv,b.mv]
noncomputable def Tm.deep:Tm→Nat
 | .op _ a b=>max a.deep b.deep+1
 | _=>0
noncomputable def Tm.lv:Tm→Nat
 | .num _ | .nm _=>1
 | .op _ a b=>a.lv+b.lv
theorem Tm.lv_le:∀t:Tm,t.lv≤2 ^ t.deep
 | .num _=>Nat.le_refl _
 | .nm _=>Nat.le_refl _
 | .op _ a b=>by
  have ha:=Tm.lv_le a
  have hb:=Tm.lv_le b
  have h1:2 ^ a.deep≤2 ^ max a.deep b.deep:=Nat.pow_le_pow_right (by decide) (Nat.le_max_left ..)
  have h2:2 ^ b.deep≤2 ^ max a.deep b.deep:=Nat.pow_le_pow_right (by decide) (Nat.le_max_right ..)
  show a.lv+b.lv≤2 ^ (max a.deep b.deep+1)
  rw [Nat.pow_succ,Nat.mul_two];exact Nat.add_le_add (Nat.le_trans ha h1) (Nat.le_trans hb h2)
noncomputable def bz (c:Nat):Prop:=c=43∨c=45∨c=42∨c=60∨c=61∨c=47
noncomputable def Tm.ok (p:List Nat→Prop):Tm→Prop
 | .num k=>0≤k∧k<1000000
 | .nm s=>p s
 | .op c a b=>bz c∧a.ok p∧b.ok p
theorem Tm.ok.mono {p q:List Nat→Prop}(h:∀s,p s→q s):∀{t:Tm},t.ok p→t.ok q
 | .num _,x=>x
 | .nm s,x=>h s x
 | .op _ _ _,⟨x,y,z⟩=>⟨x,y.mono h,z.mono h⟩
theorem kT:∀(ss:List (List Nat)),D.deeps (ss.map .str)=0
 | []=>rfl
 | s::ss=>by show max 0 (D.deeps (ss.map .str))=0;rw [kT ss];rfl
theorem Dc {hp:List MO}{r r':Nat}{ss:List (List Nat)}{Q:Bool→Prop}(h1:hp[r]?=some (.list (ss.map .str)))(h2:hp[r']?=some (.list []))(hs:∀s∈ss,okS s)(hq:Q (decide (ss=[]))):EqP hp (.ref r) (.ref r') Q:=by
 refine .mk (.list (ss.map .str)) (.list []) (.list h1 (kP ss)) (.list h2 .nil) ?_ (kO hs) rfl ?_
 ·show D.deeps _+1≤1000
  rw [kT];decide
 ·cases ss<;>exact hq
end Internal
end
section
namespace Internal
variable {K:KT}(hK:aV PP K)
include hK
theorem o4 {n:Nat}{x:Int}{r:Nat}{ss:List (List Nat)}{Q:MV→List MO→Prop}{X:XT}{h:List MO}(hr:h[r]?=some (.list (ss.map .str)))(hs:∀s∈ss,okS s)(hq:∀t h',Tm.ok (·∈ss) t→t.deep=0→h<+:h'→Q t.mv h') :
  K (n+1) 10 [.int x,.ref r] Q X h:=by
 refine hK _ _ _ _ _ _ dS rfl rfl ?_
 have rest:∀h',h<+:h'→aP K n (dS.body.drop 1) (fin Q) (xin X) ⟨[some (.int x),some (.ref r)],h'⟩:=fun h' hpre=>by
  refine fc (fun hc=>?_) fun hc=>?_
  ·exact hq (.num (x / 12 % 10 ^ (6:Int).toNat)) h' (by show _∧_;rw [show (10:Int) ^ (6:Int).toNat=1000000 by decide];exact em rfl) rfl hpre
  ·exact hq (.num (x / 12 % 5)) h' (by show _∧_;exact em rfl) rfl hpre
 refine Dc (ss:=ss) (eO hr) iz hs ?_
 by_cases hn:ss=[]
 ·rw [decide_eq_true hn]
  exact rest _ (aa (ak _))
 ·rw [decide_eq_false hn]
  have hpos:0<ss.length:=List.length_pos_iff.mpr hn
  by_cases hc:0<x % 3
  ·refine pL (decide_eq_true hc) ?_
   refine ax (eO hr) ?_
   rw [List.length_map]
   refine aC (decide_eq_true (lw hpos)) ?_
   refine ai (eO hr) ?_
   have h1:0≤x / 3 % (ss.length:Int):=Int.emod_nonneg _ (cne hpos)
   have h2:x / 3 % (ss.length:Int)<ss.length:=Int.emod_lt_of_pos _ (lw hpos)
   have h3:(x / 3 % (ss.length:Int)).toNat<ss.length:=tn h1 h2
   exact bu (bi h1 (by rw [List.length_map];exact h2)) (by rw [List.getElem?_map,bD h3];rfl) (hq (.nm _) _ (List.getElem_mem h3) rfl (aa (ak _)))
  ·refine dP (decide_eq_false hc) ?_
   exact rest _ (aa (ak _))
end Internal
end
section
namespace Internal
theorem qA:∀j,j<10→∃c,bz c∧[MV.str [43],MV.str [45],MV.str [42],MV.str [60],MV.str [61],MV.str [43],MV.str [45],MV.str [60],MV.str [47],MV.str [47]][j]?=some (.str [c])
 | 0,_=>⟨43,by unfold bz;exact by decide,rfl⟩
 | 1,_=>⟨45,by unfold bz;exact by decide,rfl⟩
 | 2,_=>⟨42,by unfold bz;exact by decide,rfl⟩
 | 3,_=>⟨60,by unfold bz;exact by decide,rfl⟩
 | 4,_=>⟨61,by unfold bz;exact by decide,rfl⟩
 | 5,_=>⟨43,by unfold bz;exact by decide,rfl⟩
 | 6,_=>⟨45,by unfold bz;exact by decide,rfl⟩
 | 7,_=>⟨60,by unfold bz;exact by decide,rfl⟩
 | 8,_=>⟨47,by unfold bz;exact by decide,rfl⟩
 | 9,_=>⟨47,by unfold bz;exact by decide,rfl⟩
 | _+10,h=>by lia
theorem DC:∀j,j<6→∃c,bz c∧[MV.str [43],MV.str [45],MV.str [42],MV.str [47],MV.str [60],MV.str [61]][j]?=some (.str [c])
 | 0,_=>⟨43,by unfold bz;exact by decide,rfl⟩
 | 1,_=>⟨45,by unfold bz;exact by decide,rfl⟩
 | 2,_=>⟨42,by unfold bz;exact by decide,rfl⟩
 | 3,_=>⟨47,by unfold bz;exact by decide,rfl⟩
 | 4,_=>⟨60,by unfold bz;exact by decide,rfl⟩
 | 5,_=>⟨61,by unfold bz;exact by decide,rfl⟩
 | _+6,h=>by lia
variable {K:KT}(hK:aV PP K)
include hK
theorem tJ:∀(L:Nat) {n:Nat}{x l:Int}{r rl:Nat}{d:Bool}{ss sl:List (List Nat)}{Q:MV→List MO→Prop}{X:XT}{h:List MO},l=(L:Int)+1→h[r]?=some (.list (ss.map .str))→h[rl]?=some (.list (sl.map .str))→(∀s∈ss,okS s)→(∀s∈sl,okS s)→
  (∀t h',Tm.ok (fun s=>s∈ss∨s∈sl) t→t.deep≤L→h<+:h'→Q t.mv h')→K (n+L+2) 11 [.int x,.ref r,.ref rl,.bool d,.int l] Q X h:=by
 intro L
 induction L with
 | zero=>
  intro n x l r rl d ss sl Q X h hl hr hrl hs hsl hq
  refine hK _ _ _ _ _ _ cC rfl rfl ?_
  refine db hK ?_
  refine pL (by simp [hl]) ?_
  refine o4 hK hr hs fun t h' ht hd hpre=>?_
  exact hq t h' (ht.mono fun s=>.inl) (n1 (Nat.le_of_eq hd) (by simp +arith only)) hpre
 | succ L ih=>
  intro n x l r rl d ss sl Q X h hl hr hrl hs hsl hq
  refine hK _ _ _ _ _ _ cC rfl rfl ?_
  refine db hK ?_
  refine dP (by simp [hl];lia) ?_
  refine fc (fun hc=>?_) fun hc=>?_
  ·refine o4 hK hr hs fun t h' ht hd hpre=>?_
   exact hq t h' (ht.mono fun s=>.inl) (n1 (Nat.le_of_eq hd) (by simp +arith only)) hpre
  ·refine ai iz (bu iA jR ?_)
   have hj:∃j:Int,(j=8∨j=10)∧sel d (MV.int 8) (.int 10)=.int j:=by
    cases d
    ·exact ⟨8,.inl rfl,rfl⟩
    ·exact ⟨10,.inr rfl,rfl⟩
   refine e12 hj fun j hj e1=>?_
   rw [e1]
   have hj0:0<j:=by rcases hj with rfl | rfl<;>decide
   have hj1:j≤10:=by rcases hj with rfl | rfl<;>decide
   refine aC (decide_eq_true hj0) ?_
   have h1:0≤mix x / 8 % j:=Int.emod_nonneg _ (Int.ne_of_gt hj0)
   have h2:mix x / 8 % j<j:=Int.emod_lt_of_pos _ hj0
   refine e12 (qA (mix x / 8 % j).toNat (tn h1 (Int.lt_of_lt_of_le h2 hj1))) fun c hcs e3=>?_
   refine ai tH (bu (bi h1 (by show _<(10:Int);exact Int.lt_of_lt_of_le h2 hj1)) e3 ?_)
   refine ⟨.inr (by unfold dU;decide),?_⟩
   have hp0:∀o o',h<+:(h++[o])++[o']:=fun o o'=>aa (aa (ak _))
   refine ih (n:=n) (by lia) (aj (hp0 _ _) hr) (aj (hp0 _ _) hrl) hs hsl fun t h₁ ht hd hpre0=>?_
   have hpre:h<+:h₁:=(hp0 _ _).trans hpre0
   clear hpre0
   have last:∀{rr:Nat} {sr:List (List Nat)},h₁[rr]?=some (.list (sr.map .str))→(∀s∈sr,okS s)→(∀s,s∈sr∨s∈sl→s∈ss∨s∈sl)→
     K (n+L+2) 11 [.int (mix x * 5+2),.ref rr,.ref rl,.bool d,.int (l-1)] (fun v h'=>Q (.tup [.str [c],t.mv,v]) h') (fun c h'=>X c h') h₁:=fun {rr sr} g1 g3 g4=>by
    refine ih (by lia) g1 (aj hpre hrl) g3 hsl fun t' h' ht' hd' hpre'=>?_
    refine hq (.op c t t') h' ⟨hcs,ht,ht'.mono g4⟩ ?_ (hpre.trans hpre')
    exact Nat.succ_le_succ (mx hd hd')
   refine fc (fun q=>?_) fun e47=>?_
   ·obtain rfl:c=47:=(List.cons.inj (eq_of_beq q)).1
    refine fc (fun h3=>?_) fun h3=>?_
    ·refine hq (.op 47 t (.num (1+mix x / 320 % 9))) h₁ ⟨hcs,ht,by show _∧_;lia⟩ ?_ hpre
     exact Nat.succ_le_succ (mx0 hd)
    ·refine ⟨.inr (by unfold dU;decide),?_⟩
     exact last (aj hpre hrl) hsl fun s hs=>hs.elim .inr .inr
   ·refine dP e47 ?_
    refine ⟨.inr (by unfold dU;decide),?_⟩
    exact last (aj hpre hr) hs fun s hs=>hs
end Internal
end
section
namespace Internal
noncomputable abbrev qB:List Nat:=[115,101,116]
noncomputable abbrev o6:List Nat:=[116,101,108,108]
noncomputable abbrev o8:List Nat:=[115,107,105,112]
noncomputable abbrev wIf:List Nat:=[105,102]
noncomputable abbrev rA:List Nat:=[101,108,115,101]
noncomputable abbrev eP:List Nat:=[119,104,105,108,101]
noncomputable abbrev o9:List Nat:=[101,110,100]
set_option genCtorIdx false in
inductive Rw where
 | set (s:List Nat) (t:Tm) | tell (t:Tm) | skip | ite (t:Tm) (a b:List Rw) | wh (t:Tm) (a:List Rw)
gen_injective_theorems% Rw
noncomputable def Gn (s:List Nat):Prop:=Nm s∧s∉kws
noncomputable def Tm.good (t:Tm):Prop:=t.ok Gn∧t.deep≤3
noncomputable def Tm.txt:Tm→List Nat
 | .num k=>dec k
 | .nm s=>s
 | .op c a b=>[c]++[32]++a.txt++[32]++b.txt
mutual
noncomputable def Rw.mv:Rw→MV
 | .set s t=>.tup [.str qB,.str s,t.mv]
 | .tell t=>.tup [.str o6,t.mv]
 | .skip=>.tup [.str o8]
 | .ite t a b=>.tup [.str wIf,t.mv,.tup (mvs a),.tup (mvs b)]
 | .wh t a=>.tup [.str eP,t.mv,.tup (mvs a)]
noncomputable def mvs:List Rw→List MV
 | []=>[]
 | r::rs=>r.mv::mvs rs
end
mutual
noncomputable def Rw.good:Rw→Prop
 | .set s t=>Gn s∧t.good
 | .tell t=>t.good
 | .skip=>True
 | .ite t a b=>t.good∧cJ a∧cJ b
 | .wh t a=>t.good∧cJ a
noncomputable def cJ:List Rw→Prop
 | []=>True
 | r::rs=>r.good∧cJ rs
end
mutual
noncomputable def Rw.nest:Rw→Nat
 | .ite _ a b=>max (ay a) (ay b)+1
 | .wh _ a=>ay a+1
 | _=>0
noncomputable def ay:List Rw→Nat
 | []=>0
 | r::rs=>max r.nest (ay rs)
end
mutual
noncomputable def Rw.lines:Rw→List (List Nat)
 | .set s t=>[qB++[32]++s++[32]++t.txt]
 | .tell t=>[o6++[32]++t.txt]
 | .skip=>[o8]
 | .ite t a b=>(wIf++[32]++t.txt)::(lns a++rA::(lns b++[o9]))
 | .wh t a=>(eP++[32]++t.txt)::(lns a++[o9])
noncomputable def lns:List Rw→List (List Nat)
 | []=>[]
 | r::rs=>r.lines++lns rs
end
theorem f5:∀(a b:List Rw),mvs (a++b)=mvs a++mvs b
 | [],b=>rfl
 | r::a,b=>by show r.mv::mvs (a++b)=r.mv::(mvs a++mvs b);rw [f5 a b]
theorem iE:∀(a b:List Rw),lns (a++b)=lns a++lns b
 | [],b=>rfl
 | r::a,b=>by show r.lines++lns (a++b)=r.lines++lns a++lns b;rw [iE a b,List.append_assoc]
theorem tK:∀{a b:List Rw},cJ a→cJ b→cJ (a++b)
 | [],_,_,h=>h
 | _::_,_,h,h'=>⟨h.1,tK h.2 h'⟩
theorem f6:∀{a b:List Rw}{k:Nat},ay a≤k→ay b≤k→ay (a++b)≤k
 | [],_,_,_,h=>h
 | r::a,b,k,h,h'=>by
  have h:max r.nest (ay a)≤k:=h
  exact Nat.max_le.mpr ⟨(Nat.max_le.mp h).1,f6 (Nat.max_le.mp h).2 h'⟩
theorem f7:∀{rs:List Rw},cJ rs→∀r∈rs,r.good
 | _::_,h,r,hr=>by
  rcases List.mem_cons.mp hr with rfl | hr
  ·exact h.1
  ·exact f7 h.2 r hr
theorem d8:∀{rs:List Rw}{k:Nat},ay rs≤k→∀r∈rs,r.nest≤k
 | q::rs,k,h,r,hr=>by
  have h:max q.nest (ay rs)≤k:=h
  rcases List.mem_cons.mp hr with rfl | hr
  ·exact (Nat.max_le.mp h).1
  ·exact d8 (Nat.max_le.mp h).2 r hr
theorem dM:∀(rs:List Rw),(mvs rs).length=rs.length
 | []=>rfl
 | r::rs=>congrArg (·+1) (dM rs)
theorem tL (r:Rw):1≤r.lines.length:=by
 cases r<;>exact Nat.le_add_left 1 _
theorem nI:∀(rs:List Rw),rs.length≤(lns rs).length
 | []=>Nat.le_refl _
 | r::rs=>by
  have h1:=tL r
  have h2:=nI rs
  show rs.length+1≤(r.lines++lns rs).length
  rw [List.length_append];exact n2 h2 h1 (by simp +arith only)
theorem rB {rs:List Rw}{j:Nat}{x:MV}:(mvs rs)[j]?=some x→∃r,rs[j]?=some r∧x=r.mv:=by
 induction rs generalizing j with
 | nil=>intro h;cases h
 | cons r rs ih=>
  intro h
  cases j with
  | zero=>exact ⟨r,rfl,(Option.some.inj h).symm⟩
  | succ j=>exact ih h
theorem Tm.good.sub {c:Nat}{a b:Tm}(h:(Tm.op c a b).good):a.good∧b.good:=by
 obtain ⟨⟨_,h1,h2⟩,h3⟩:=h
 have h3:max a.deep b.deep+1≤3:=h3
 exact ⟨⟨h1,n2 h3 (Nat.le_max_left a.deep b.deep) (by simp +arith only)⟩,h2,n2 h3 (Nat.le_max_right a.deep b.deep) (by simp +arith only)⟩
theorem room {N k:Nat}(h:k<N):∃M,N=M+1∧k≤M:=⟨N-1,sb (n1 h (by simp +arith only)),Nat.le_sub_one_of_lt h⟩
theorem kc {P:Nat→Option Fn}{K:KT}(hK:aV P K){N k f:Nat}{vs:List MV}{Q:MV→List MO→Prop}{X:XT}{h:List MO}(d:Fn)(hN:k<N)(e:P f=some d)(l:vs.length=d.args)(w:∀M,k≤M→aP K M d.body (fin Q) (xin X) (dm d vs h)):K N f vs Q X h:=by
 obtain ⟨M,rfl,hM⟩:=room hN
 exact hK _ _ _ _ _ _ d e l (w M hM)
theorem rC (r:Rw):lns [r]=r.lines:=List.append_nil _
theorem ap {h:List MO}{i j:Nat}{o o':MO}(hne:i≠j)(e:h[j]?=some o):(h.set i o')[j]?=some o:=by
 rw [List.getElem?_set_ne hne];exact e
theorem dN (hp:List MO)(x y:List (List Nat)):(hp++[MO.list (x.map .str++y.map .str)])[hp.length]?=some (.list ((x++y).map .str)):=by
 rw [af,List.map_append]
theorem dc {x y:List (List Nat)}(h:x.length+y.length≤100000):(x.map MV.str).length+(y.map MV.str).length≤line:=aL (by rw [List.length_map,List.length_map];exact Nat.le_trans h (nb rfl))
theorem de {g:Gd}{step:MV→(Option MV→MS→Prop)→MS→Prop}{Q:List MV→MS→Prop}(I:Nat→List MV→MS→Prop){items:List MV}{m:MS}(h0:I 0 [] m)(hg:∀i a m,I i a m→aO g m.heap)
  (hstep:∀i x a m (P:Option MV→MS→Prop),items[i]?=some x→I i a m→(∀y m',I (i+1) (a++[y]) m'→P (some y) m')→(∀m',I (i+1) a m'→P none m')→step x P m)
  (hend:∀a m,I items.length a m→Q a m):cq g step Q items [] m:=by
 have key:∀(l:List MV) (i:Nat) (a:List MV) (m:MS),i+l.length=items.length→items.drop i=l→I i a m→cq g step Q l a m:=by
  intro l
  induction l with
  | nil=>
   intro i a m hl e hI
   have hl:i=items.length:=hl
   subst hl
   rw [iO]
   exact ⟨hg _ _ m hI,hend a m hI⟩
  | cons x l ih=>
   intro i a m hl e hI
   rw [List.length_cons] at hl
   have hlt:i<items.length:=n1 (Nat.le_of_eq hl) (by simp +arith only)
   have e':=List.drop_eq_getElem_cons hlt
   rw [e] at e'
   obtain ⟨e1,e2⟩:=List.cons.inj e'
   rw [ej]
   exact ⟨hg i a m hI,hstep i x a m _ (by rw [List.getElem?_eq_getElem hlt,e1]) hI (fun y m' h'=>ih (i+1) _ m' (by lia) e2.symm h') fun m' h'=>ih (i+1) _ m' (by lia) e2.symm h'⟩
 exact key items 0 [] m (by simp) (by simp) h0
theorem rD {σ:Type}(st:σ→MS)(I:σ→Prop){g:Gd}{step:MV→(Option MV→MS→Prop)→MS→Prop}{Q:List MV→MS→Prop}{items:List MV}{m:MS}(w:σ)(e0:m=st w)(h0:I w)(hg:∀w,I w→aO g (st w).heap)
  (hstep:∀(i:Nat) x w (P:Option MV→MS→Prop),items[i]?=some x→I w→(∀y w,I w→P (some y) (st w))→(∀w,I w→P none (st w))→step x P (st w)) (hend:∀a w,I w→Q a (st w)):cq g step Q items [] m:=by
 refine de (fun i a m=>∃w,m=st w∧I w) ⟨w,e0,h0⟩ (fun i a m hI=>?_) (fun i x a m P hx hI h1 h2=>?_) (fun a m hI=>?_)
 ·obtain ⟨w,rfl,h⟩:=hI;exact hg w h
 ·obtain ⟨w,rfl,h⟩:=hI;exact hstep i x w P hx h (fun y w h=>h1 y _ ⟨w,rfl,h⟩) fun w h=>h2 _ ⟨w,rfl,h⟩
 ·obtain ⟨w,rfl,h⟩:=hI;exact hend a w h
theorem jS (st:Option MV→MS)(acc:Nat→List MV){g:Gd}{step:MV→(Option MV→MS→Prop)→MS→Prop}{Q:List MV→MS→Prop}{items:List MV}{m:MS}(w:Option MV)(e0:m=st w)(a0:acc 0=[])(hg:∀w,aO g (st w).heap)
  (hstep:∀i x w (P:Option MV→MS→Prop),items[i]?=some x→(∀y w,acc (i+1)=acc i++[y]→P (some y) (st w))→(∀w,acc (i+1)=acc i→P none (st w))→step x P (st w)) (hend:∀w,Q (acc items.length) (st w)):cq g step Q items [] m:=by
 refine de (fun i a m=>∃w,m=st w∧a=acc i) ⟨w,e0,a0.symm⟩ (fun i a m hI=>?_) (fun i x a m P hx hI h1 h2=>?_) (fun a m hI=>?_)
 ·obtain ⟨w,rfl,_⟩:=hI;exact hg w
 ·obtain ⟨w,rfl,rfl⟩:=hI;exact hstep i x w P hx (fun y w e=>h1 y _ ⟨w,rfl,e.symm⟩) fun w e=>h2 _ ⟨w,rfl,e.symm⟩
 ·obtain ⟨w,rfl,rfl⟩:=hI;exact hend w
theorem zC {σ:Type}(st:σ→MS)(I:Nat→List MV→σ→Prop){g:Gd}{step:MV→(Option MV→MS→Prop)→MS→Prop}{Q:List MV→MS→Prop}{items:List MV}{m:MS}(w:σ)(e0:m=st w)(h0:I 0 [] w)(hg:∀i a w,I i a w→aO g (st w).heap)
  (hstep:∀i x a w (P:Option MV→MS→Prop),items[i]?=some x→I i a w→(∀y w,I (i+1) (a++[y]) w→P (some y) (st w))→(∀w,I (i+1) a w→P none (st w))→step x P (st w)) (hend:∀a w,I items.length a w→Q a (st w)):cq g step Q items [] m:=by
 refine de (fun i a m=>∃w,m=st w∧I i a w) ⟨w,e0,h0⟩ (fun i a m hI=>?_) (fun i x a m P hx hI h1 h2=>?_) (fun a m hI=>?_)
 ·obtain ⟨w,rfl,h⟩:=hI;exact hg i a w h
 ·obtain ⟨w,rfl,h⟩:=hI;exact hstep i x a w P hx h (fun y w h=>h1 y _ ⟨w,rfl,h⟩) fun w h=>h2 _ ⟨w,rfl,h⟩
 ·obtain ⟨w,rfl,h⟩:=hI;exact hend a w h
theorem f9 {hp:List MO}{r:Nat}{xs:List MV}(e:hp[r]?=some (.list xs)):lQ .extend (.ref r) hp=true:=by
 show (rV r hp[r]?).isSome=true;rw [e];rfl
theorem aw {α:Type}{rs:List α}{j:Nat}{r:α}(e:rs[j]?=some r):rs.take (j+1)=rs.take j++[r]:=by
 rw [List.take_add_one,e];rfl
noncomputable abbrev sgs:List (List Nat):=[[43],[45],[42],[47],[60],[61]]
theorem Dd:∀s∈sgs,okS s:=by unfold okS;decide
theorem rE {c:Nat}(h:bz c):sgs.contains [c]=true∧okS [c]:=by
 rcases h with rfl | rfl | rfl | rfl | rfl | rfl<;>exact ⟨rfl,by unfold okS;decide⟩
end Internal
end
section
namespace Internal
variable {Q:MV→List MO→Prop}{X:XT}{h:List MO}
variable {K:KT}(hK:aV PP K)
include hK
theorem zD {n:Nat}{k b:Int}(h0:0≤k)(h1:k≤b)(hq:Q (.bool true) h):K (n+1) 22 [.int k,.int b] Q X h:=by
 refine hK _ _ _ _ _ _ jo rfl rfl ?_
 refine pL (decide_eq_true h0) ?_
 conv=>whnf
 rw [decide_eq_true h1]
 exact hq
theorem wW {n:Nat}{k:Int}(h0:0≤k∧k<1000000)(hq:Q (.bool true) h):K (n+2) 23 [.int k] Q X h:=by
 refine hK _ _ _ _ _ _ il rfl rfl ?_
 exact zD hK h0.1 (z1 h0.2 (by simp +arith only)) hq
omit hK in
theorem De {s:List Nat}(h:∀c∈s,c<128):s.all (fun c=>decide (c<128))=true:=List.all_eq_true.mpr fun c hc=>decide_eq_true (h c hc)
omit hK in
theorem wX {s:List Nat}{hp:List MO}(h:∀c∈s,c<128):cR .val [.str s] hp=some (s.map (fun c=>.str [c]),none):=by
 show (match s.all (fun c=>decide (c<128)) with
  | true=>some (s.map (fun c=>MV.str [c]),none)
  | false=>none)=_
 rw [De h]
omit hK in
theorem wY {s:List Nat}{i:Nat}{x:MV}(e:(s.map (fun c=>MV.str [c]))[i]?=some x):∃c∈s,x=.str [c]:=by
 refine e12 (List.getElem?_map ..▸e |> Option.map_eq_some_iff.mp) fun c h1 h2=>?_
 exact ⟨c,List.mem_of_getElem? h1,h2.symm⟩
omit hK in
theorem wZ {s:List Nat}(h:s≠[]):s[0]?=some (s.headD 0):=by
 cases s with
 | nil=>exact absurd rfl h
 | cons=>rfl
noncomputable abbrev Df:List Nat:=[48,49,50,51,52,53,54,55,56,57]
omit hK in
theorem tM:∀c∈jv,abc.contains c=true∨Df.contains c=true:=by decide
theorem kU {n:Nat}{s:List Nat}(hs:Gn s)(hq:Q (.bool true) h):K (n+1) 24 [.str s] Q X h:=by
 have hp:0<s.length:=List.length_pos_iff.mpr hs.1.1
 have h8:=hs.1.2.1
 refine hK _ _ _ _ _ _ kM rfl rfl ?_
 refine pL (decide_eq_true (Int.ofNat_le.mpr hp)) ?_
 refine dP (ng (decide_eq_true (Int.ofNat_le.mpr h8))) ?_
 refine Gw (ss:=kws) hs.1.ok qz hs.2 ?_
 refine bu (bi (by decide) (lw hp)) (wZ hs.1.1) ?_
 refine dP (ng (List.contains_iff_mem.mpr hs.1.2.2.2)) ?_
 refine aJ (wX fun c hc=>oZ c (hs.1.2.2.1 c hc)) ?_
 refine gN (fun _ w=>⟨[some (.str s),w],h⟩) (fun _ _=>True) none rfl trivial (fun _ _ _=>trivial) (fun i y w P hy _ hn _=>?_) (fun w _=>hq)
 obtain ⟨c,hc,rfl⟩:=wY hy
 have h2:=tM c (hs.1.2.2.1 c hc)
 refine fc (fun q=>?_) fun _=>hn _ trivial
 exact dP (ng (h2.resolve_left fun r=>by rw [r] at q;exact ff q)) (hn _ trivial)
end Internal
end
section
namespace Internal
noncomputable def holds (l:Bool)(n:Nat)(hp:List MO)(u:MV)(xs:List MV):Prop:=match l with
 | false=>u=.tup xs
 | true=>∃i,n≤i∧u=.ref i∧hp[i]?=some (.list xs)
mutual
noncomputable def Rw.is (l:Bool)(n:Nat)(hp:List MO):Rw→MV→Prop
 | .set s t,x=>x=.tup [.str qB,.str s,t.mv]
 | .tell t,x=>x=.tup [.str o6,t.mv]
 | .skip,x=>x=.tup [.str o8]
 | .ite t a b,x=>∃u v,x=.tup [.str wIf,t.mv,u,v]∧(∃xs,holds l n hp u xs∧bT l n hp a xs)∧∃xs,holds l n hp v xs∧bT l n hp b xs
 | .wh t a,x=>∃u,x=.tup [.str eP,t.mv,u]∧∃xs,holds l n hp u xs∧bT l n hp a xs
noncomputable def bT (l:Bool)(n:Nat)(hp:List MO):List Rw→List MV→Prop
 | [],xs=>xs=[]
 | r::rs,xs=>∃y ys,xs=y::ys∧r.is l n hp y∧bT l n hp rs ys
end
noncomputable def cE (l:Bool)(n:Nat)(hp:List MO)(rs:List Rw)(u:MV):Prop:=∃xs,holds l n hp u xs∧bT l n hp rs xs
noncomputable def tN (n n':Nat)(hp hp':List MO):Prop:=n'≤n∧∀i o,n≤i→hp[i]?=some o→hp'[i]?=some o
theorem tN.pre {n:Nat}{hp hp':List MO}(e:hp<+:hp'):tN n n hp hp':=⟨Nat.le_refl _,fun _ _ _ h=>aj e h⟩
section
variable {l:Bool}{n n':Nat}{hp hp':List MO}
theorem holds.up {u:MV}{xs:List MV}(h:holds l n hp u xs)(e:tN n n' hp hp'):holds l n' hp' u xs:=by
 cases l with
 | false=>exact h
 | true=>obtain ⟨i,h0,h1,h2⟩:=h;exact ⟨i,Nat.le_trans e.1 h0,h1,e.2 i _ h0 h2⟩
mutual
theorem Rw.is_up (e:tN n n' hp hp'):∀(r:Rw) (x:MV),r.is l n hp x→r.is l n' hp' x
 | .set s t,x,h=>h
 | .tell t,x,h=>h
 | .skip,x,h=>h
 | .ite t a b,x,h=>by
  obtain ⟨u,v,h1,⟨xs,h2,h3⟩,ys,h4,h5⟩:=h
  exact ⟨u,v,h1,⟨xs,h2.up e,dz e a xs h3⟩,ys,h4.up e,dz e b ys h5⟩
 | .wh t a,x,h=>by
  obtain ⟨u,h1,xs,h2,h3⟩:=h
  exact ⟨u,h1,xs,h2.up e,dz e a xs h3⟩
theorem dz (e:tN n n' hp hp'):∀(rs:List Rw) (xs:List MV),bT l n hp rs xs→bT l n' hp' rs xs
 | [],xs,h=>h
 | r::rs,xs,h=>by
  refine e23 h fun y ys h1 h2 h3=>?_
  exact ⟨y,ys,h1,r.is_up e y h2,dz e rs ys h3⟩
end
theorem cE.stay {rs:List Rw}{u:MV}(h:cE l n hp rs u)(e:tN n n' hp hp'):cE l n' hp' rs u:=let ⟨xs,h1,h2⟩:=h;⟨xs,h1.up e,dz e rs xs h2⟩
theorem cE.up {rs:List Rw}{u:MV}(h:cE l n hp rs u)(e:hp<+:hp'):cE l n hp' rs u:=h.stay (.pre e)
theorem rF:∀{rs:List Rw}{xs:List MV},bT l n hp rs xs→xs.length=rs.length
 | [],xs,h=>by have h:xs=[]:=h;rw [h];rfl
 | r::rs,xs,h=>by
  refine e23 h fun y ys h1 _ h3=>?_
  rw [h1];exact congrArg (·+1) (rF h3)
theorem nJ:∀{rs:List Rw}{xs:List MV},bT l n hp rs xs→∀{j:Nat}{x:MV},xs[j]?=some x→∃r,rs[j]?=some r∧r.is l n hp x
 | [],xs,h,j,x,e=>by have h:xs=[]:=h;rw [h] at e;cases e
 | r::rs,xs,h,j,x,e=>by
  obtain ⟨y,ys,rfl,h2,h3⟩:=h
  cases j with
  | zero=>cases e;exact ⟨r,rfl,h2⟩
  | succ j=>exact nJ h3 e
theorem w0:∀{rs:List Rw}{xs:List MV},bT l n hp rs xs→∀{r:Rw}{x:MV},r.is l n hp x→bT l n hp (rs++[r]) (xs++[x])
 | [],xs,h,r,x,e=>by have h:xs=[]:=h;rw [h];exact ⟨x,[],rfl,e,rfl⟩
 | q::rs,xs,h,r,x,e=>by
  obtain ⟨y,ys,rfl,h2,h3⟩:=h
  exact ⟨y,_,rfl,h2,w0 h3 e⟩
mutual
theorem rG:∀(r:Rw),r.is false n hp r.mv
 | .set s t=>rfl
 | .tell t=>rfl
 | .skip=>rfl
 | .ite t a b=>⟨_,_,rfl,⟨_,rfl,gc a⟩,_,rfl,gc b⟩
 | .wh t a=>⟨_,rfl,_,rfl,gc a⟩
theorem gc:∀(rs:List Rw),bT false n hp rs (mvs rs)
 | []=>rfl
 | r::rs=>⟨_,_,rfl,rG r,gc rs⟩
end
theorem Fw (rs:List Rw):cE false n hp rs (.tup (mvs rs)):=⟨_,rfl,gc rs⟩
theorem pc {u:MV}{xs:List MV}(h:holds l n hp u xs):∃g,∀hp',hp<+:hp'→cR .val [u] hp'=some (xs,g)∧aO g hp':=by
 cases l with
 | false=>have h:u=.tup xs:=h;subst h;exact ⟨none,fun _ _=>⟨rfl,trivial⟩⟩
 | true=>obtain ⟨i,_,rfl,h2⟩:=h;exact ⟨_,fun hp' e=>⟨aG (aj e h2),aj e h2⟩⟩
end
end Internal
end
section
namespace Internal
noncomputable def an:Tm→List (List Nat)
 | .num _=>[]
 | .nm s=>[s]
 | .op _ a b=>an a++an b
theorem AI {p:List Nat→Prop}:∀{t:Tm},t.ok p→∀x∈an t,p x
 | .num _,_,x,h=>by cases h
 | .nm s,ht,x,h=>by rw [List.mem_singleton.mp h];exact ht
 | .op c a b,ht,x,h=>(List.mem_append.mp h).elim (AI ht.2.1 x) (AI ht.2.2 x)
theorem cO:∀t:Tm,(an t).length≤t.lv
 | .num _=>Nat.zero_le _
 | .nm _=>Nat.le_refl _
 | .op c a b=>by
  have h1:=cO a
  have h2:=cO b
  show (an a++an b).length≤a.lv+b.lv
  rw [List.length_append];exact n2 h2 h1 (by simp +arith only)
theorem Fx {l m:List (List Nat)}(h:∀x,x∈l↔x∈m):aS l=aS m:=vf (fX l) (fX m) fun x=>by rw [aE,aE,h]
theorem qC (l:List (List Nat)):(aS l).Nodup:=(fX l).imp fun h q=>by subst q;exact List.lt_irrefl _ h
theorem jT {l t:List (List Nat)}(h:∀x∈l,x∈t):(aS l).length≤t.length:=gO _ _ (qC l) fun x hx=>h x (aE.mp hx)
theorem Tm.good.lv {t:Tm}(h:t.good):t.lv≤8:=Nat.le_trans t.lv_le (Nat.pow_le_pow_right (j:=3) (by decide) h.2)
theorem DD {c:Nat}(h:bz c){P:Nat→Prop}(h1:P 43)(h2:P 45)(h3:P 42)(h4:P 60)(h5:P 61)(h6:P 47):P c:=by
 rcases h with rfl | rfl | rfl | rfl | rfl | rfl
 ·exact h1
 ·exact h2
 ·exact h3
 ·exact h4
 ·exact h5
 ·exact h6
variable {K:KT}(hK:aV PP K)
include hK
theorem Dg {p:List Nat→Prop}:∀(t:Tm) {N:Nat}{Q:MV→List MO→Prop}{X:XT}{h:List MO},t.deep<N→t.ok p→t.lv≤1000→
  (∀r h',h<+:h'→h'[r]?=some (.list ((an t).map .str))→Q (.ref r) h')→K N 0 [t.mv] Q X h
 | .num k,N,Q,X,h,hN,ht,hl,hq=>by
  obtain ⟨M,rfl,hM⟩:=room hN
  refine hK _ _ _ _ _ _ c0 rfl rfl ?_
  exact hq _ _ (aa (ak _)) (af _ _)
 | .nm s,N,Q,X,h,hN,ht,hl,hq=>by
  obtain ⟨M,rfl,hM⟩:=room hN
  refine hK _ _ _ _ _ _ c0 rfl rfl ?_
  exact hq _ _ (aa (ak _)) (af _ _)
 | .op c a b,N,Q,X,h,hN,ht,hl,hq=>by
  have hN:max a.deep b.deep+1<N:=hN
  have hl:a.lv+b.lv≤1000:=hl
  obtain ⟨M,rfl,hM⟩:=room hN
  refine e03 ht fun hc ha hb=>?_
  have ea:=cO a
  have eb:=cO b
  refine hK _ _ _ _ _ _ c0 rfl rfl ?_
  refine dP (show ([c]==wV)=false by simp) ?_
  refine dP (show ([c]==mF)=false by simp) ?_
  refine Dg a (n2 hN (Nat.le_max_left a.deep b.deep) (by simp +arith only)) ha (n1 hl (by simp +arith only)) fun r1 h1 p1 e1=>?_
  refine Dg b (n2 hN (Nat.le_max_right a.deep b.deep) (by simp +arith only)) hb (n1 hl (by simp +arith only)) fun r2 h2 p2 e2=>?_
  conv=>whnf
  rw [aj p2 e1,e2]
  refine ⟨dc (n3 eb ea hl (by simp +arith only)),?_⟩
  exact hq _ _ (aa (List.IsPrefix.trans p1 p2)) (dN _ _ _)
theorem gP {p:List Nat→Prop}{t:Tm}{N:Nat}{Q:MV→List MO→Prop}{X:XT}{h:List MO}(hN:t.deep+1<N)(ht:t.ok p)(hl:t.lv≤60)
  (hq:∀r h',h<+:h'→h.length≤r→h'[r]?=some (.list ((aS (an t)).map .str))→Q (.ref r) h'):K N 1 [t.mv] Q X h:=by
 obtain ⟨M,rfl,hM⟩:=room hN
 refine hK _ _ _ _ _ _ jq rfl rfl ?_
 refine Dg hK t (hM) ht (Nat.le_trans hl (nb rfl)) fun r1 h1 p1 e1=>?_
 have p1:h<+:h1:=p1
 refine ai e1 ?_
 have e1:=cO t
 have e2:(aS (an t)).length≤(an t).length:=jT fun x hx=>hx
 exact .mk (an t) rfl (An (n3 e2 e1 hl (by simp +arith only))) (n2 e1 hl (by simp +arith only)) (hq _ _ (aa p1) p1.length_le (af _ _))
theorem nK:∀(t:Tm) {N:Nat}{d:Int}{Q:MV→List MO→Prop}{X:XT}{h:List MO},t.ok Gn→d+t.deep≤12→t.deep+2<N→Q .none h→K N 55 [t.mv,.int d] Q X h
 | .num k,N,d,Q,X,h,ht,hd,hN,hq=>by
  obtain ⟨M,rfl,hM⟩:=room hN
  obtain ⟨M,rfl⟩:∃M',M=M'+2:=⟨M-2,sb hM⟩
  have hd:¬ 12<d:=dn (n:=0) hd
  refine hK _ _ _ _ _ _ b9 rfl rfl ?_
  refine dP (decide_eq_false hd) ?_
  exact wW hK ht hq
 | .nm s,N,d,Q,X,h,ht,hd,hN,hq=>by
  obtain ⟨M,rfl,hM⟩:=room hN
  obtain ⟨M,rfl⟩:∃M',M=M'+1:=⟨M-1,sb (n1 hN (by simp +arith only))⟩
  have hd:¬ 12<d:=dn (n:=0) hd
  refine hK _ _ _ _ _ _ b9 rfl rfl ?_
  refine dP (decide_eq_false hd) ?_
  exact kU hK ht hq
 | .op c a b,N,d,Q,X,h,ht,hd,hN,hq=>by
  have hN:max a.deep b.deep+1+2<N:=hN
  have hd:d+(max a.deep b.deep+1:Nat)≤12:=hd
  obtain ⟨M,rfl,hM⟩:=room hN
  refine e03 ht fun hc ha hb=>?_
  refine hK _ _ _ _ _ _ b9 rfl rfl ?_
  refine dP (decide_eq_false (dn hd)) ?_
  show InP _ _ (sgs.map .str) _
  refine bL (rE hc).2 Dd ?_
  rw [(rE hc).1]
  refine nK a ha (dl hd).1 (n2 hN (Nat.le_max_left a.deep b.deep) (by simp +arith only)) ?_
  exact nK b hb (dl hd).2 (n2 hN (Nat.le_max_right a.deep b.deep) (by simp +arith only)) hq
end Internal
end
section
namespace Internal
variable {Q:MV→List MO→Prop}{X:XT}{h:List MO}
noncomputable def Rw.subs:Rw→List (List Rw)
 | .ite _ a b=>[a,b]
 | .wh _ a=>[a]
 | _=>[]
mutual
theorem Dh {P:List Rw→Prop}(h:∀rs,(∀r∈rs,∀b∈r.subs,P b)→P rs):∀(r:Rw),∀b∈r.subs,P b
 | .set _ _,b,hb=>by cases hb
 | .tell _,b,hb=>by cases hb
 | .skip,b,hb=>by cases hb
 | .ite _ x y,b,hb=>by
  rcases List.mem_cons.mp hb with e | hb
  ·rw [e];exact h x (iG h x)
  ·rw [List.mem_singleton.mp hb];exact h y (iG h y)
 | .wh _ x,b,hb=>by rw [List.mem_singleton.mp hb];exact h x (iG h x)
theorem iG {P:List Rw→Prop}(h:∀rs,(∀r∈rs,∀b∈r.subs,P b)→P rs):∀(rs:List Rw),∀r∈rs,∀b∈r.subs,P b
 | [],r,hr=>by cases hr
 | q::rs,r,hr=>by
  rcases List.mem_cons.mp hr with e | hr
  ·rw [e];exact Dh h q
  ·exact iG h rs r hr
end
theorem fD {P:List Rw→Prop}(h:∀rs,(∀r∈rs,∀b∈r.subs,P b)→P rs)(rs:List Rw):P rs:=h rs (iG h rs)
theorem d9 {r:Rw}:∀b∈r.subs,ay b<r.nest:=by
 cases r with
 | ite t x y=>
  intro b hb
  show ay b<max (ay x) (ay y)+1
  rcases List.mem_cons.mp hb with rfl | hb
  ·exact n1 (Nat.le_max_left (ay b) (ay y)) (by simp +arith only)
  ·rw [List.mem_singleton.mp hb];exact n1 (Nat.le_max_right (ay x) (ay y)) (by simp +arith only)
 | wh t x=>intro b hb;rw [List.mem_singleton.mp hb];exact Nat.lt_succ_self _
 | _=>intro b hb;cases hb
theorem pd {r:Rw}(h:r.good):∀b∈r.subs,cJ b:=by
 cases r with
 | ite t x y=>
  intro b hb
  rcases List.mem_cons.mp hb with rfl | hb
  ·exact h.2.1
  ·rw [List.mem_singleton.mp hb];exact h.2.2
 | wh t x=>intro b hb;rw [List.mem_singleton.mp hb];exact h.2
 | _=>intro b hb;cases hb
theorem i0 {r:Rw}:∀b∈r.subs,(lns b).length≤r.lines.length:=by
 cases r with
 | ite t x y=>
  intro b hb
  show (lns b).length≤((_:List Nat)::(lns x++rA::(lns y++[o9]))).length
  simp only [List.length_cons,List.length_append]
  rcases List.mem_cons.mp hb with rfl | hb
  ·exact by simp +arith only
  ·rw [List.mem_singleton.mp hb];exact by simp +arith only
 | wh t x=>
  intro b hb
  rw [List.mem_singleton.mp hb]
  show (lns x).length≤((_:List Nat)::(lns x++[o9])).length
  simp only [List.length_cons,List.length_append];exact by simp +arith only
 | _=>intro b hb;cases hb
theorem mG:∀{rs:List Rw},∀r∈rs,r.lines.length≤(lns rs).length
 | q::rs,r,hr=>by
  show _≤(q.lines++lns rs).length
  rw [List.length_append]
  rcases List.mem_cons.mp hr with rfl | hr
  ·exact by simp +arith only
  ·have:=mG r hr;exact n1 this (by simp +arith only)
section
variable {l:Bool}{n n':Nat}{hp hp':List MO}
noncomputable def jU (l:Bool)(n:Nat)(hp:List MO):List (List Rw)→List MV→Prop
 | [],us=>us=[]
 | b::bs,us=>∃u vs,us=u::vs∧cE l n hp b u∧jU l n hp bs vs
theorem iH:∀{bs:List (List Rw)}{us:List MV},jU l n hp bs us→∀{j:Nat}{u:MV},us[j]?=some u→∃b,bs[j]?=some b∧cE l n hp b u
 | [],us,h,j,u,e=>by have h:us=[]:=h;rw [h] at e;cases e
 | b::bs,us,h,j,u,e=>by
  obtain ⟨y,ys,rfl,h2,h3⟩:=h
  cases j with
  | zero=>cases e;exact ⟨b,rfl,h2⟩
  | succ j=>exact iH h3 e
theorem kW:∀{bs:List (List Rw)}{us:List MV},jU l n hp bs us→us.length=bs.length
 | [],us,h=>by have h:us=[]:=h;rw [h];rfl
 | b::bs,us,h=>by
  obtain ⟨y,ys,rfl,h2,h3⟩:=h
  exact congrArg (·+1) (kW h3)
inductive lL (l:Bool)(n:Nat)(hp:List MO):Rw→MV→Prop
 | set (s t):lL l n hp (.set s t) (.tup [.str qB,.str s,t.mv])
 | tell (t):lL l n hp (.tell t) (.tup [.str o6,t.mv])
 | skip:lL l n hp .skip (.tup [.str o8])
 | ite {t a b u v}:cE l n hp a u→cE l n hp b v→lL l n hp (.ite t a b) (.tup [.str wIf,t.mv,u,v])
 | wh {t a u}:cE l n hp a u→lL l n hp (.wh t a) (.tup [.str eP,t.mv,u])
theorem kX {r:Rw}{x:MV}(h:r.is l n hp x):lL l n hp r x:=by
 cases r with
 | set s t=>have h:x=_:=h;subst h;exact .set s t
 | tell t=>have h:x=_:=h;subst h;exact .tell t
 | skip=>have h:x=_:=h;subst h;exact .skip
 | ite t a b=>obtain ⟨u,v,rfl,h1,h2⟩:=h;exact .ite h1 h2
 | wh t a=>obtain ⟨u,rfl,h1⟩:=h;exact .wh h1
end
noncomputable def Rw.fm:Rw→MV
 | .set _ t=>t.mv
 | .tell t=>t.mv
 | .skip=>.none
 | .ite t _ _=>t.mv
 | .wh t _=>t.mv
variable {K:KT}(hK:aV PP K)
include hK
theorem kY {r:Rw}{x:MV}{l:Bool}{n N:Nat}(hx:lL l n h r x)(hN:0<N)(hq:∀us,jU l n h r.subs us→Q (.ref h.length) (h++[.list us])):K N 25 [x] Q X h:=by
 obtain ⟨M,rfl,hM⟩:=room hN
 refine hK _ _ _ _ _ _ im rfl rfl ?_
 cases hx with
 | set s t=>exact hq [] rfl
 | tell t=>exact hq [] rfl
 | skip=>exact hq [] rfl
 | @ite t a b u v h1 h2=>exact hq [u,v] ⟨u,[v],rfl,h1,v,[],rfl,h2,rfl⟩
 | @wh t a u h1=>exact hq [u] ⟨u,[],rfl,h1,rfl⟩
theorem w9 {r:Rw}{x:MV}{l:Bool}{n N:Nat}(hx:lL l n h r x)(hN:0<N)(hq:Q r.fm h):K N 26 [x] Q X h:=by
 obtain ⟨M,rfl,hM⟩:=room hN
 refine hK _ _ _ _ _ _ gD rfl rfl ?_
 cases hx<;>exact hq
theorem nL {l:Bool}{n N:Nat}{u:MV}{xs:List MV}(hu:holds l n h u xs)(hN:0<N)(hq:Q (.bool true) h):K N 56 [u] Q X h:=by
 obtain ⟨M,rfl,hM⟩:=room hN
 refine hK _ _ _ _ _ _ jr rfl rfl ?_
 cases l with
 | false=>have hu:u=_:=hu;subst hu;exact hq
 | true=>
  obtain ⟨i,_,rfl,e⟩:=hu
  conv=>whnf
  dsimp only [dm]
  rw [show jz h (.ref i) .list=some true from congrArg (tyO · .list) e,show jz h (.ref i) .tuple=some false from congrArg (tyO · .tuple) e]
  exact hq
omit hK in
theorem qD {n:Nat}:(List.replicate n true).all id=true:=List.all_eq_true.mpr fun x hx=>by rw [List.eq_of_mem_replicate hx];rfl
theorem xb {r:Rw}{x:MV}{l:Bool}{n N:Nat}{X:XM}(hx:lL l n h r x)(hN:0<N){w:Option MV}(hq:∀h',h<+:h'→Q (.bool true) h') :
  wpS K N (.ret (.blt .all [.comp (.call 56 [.var 1]) [1] false .val [.call 25 [.var 0]] []])) (fin Q) X ⟨[some x,w],h⟩:=by
 refine kY hK hx hN fun us hus=>?_
 refine aJ (aG (af _ _)) ?_
 refine de (fun j a m=>∃w,m.vars=[some x,w]∧a=(List.replicate j true).map .bool∧m.heap=h++[.list us]) ⟨_,rfl,rfl,rfl⟩ (fun _ _ m hI=>by obtain ⟨_,_,_,e⟩:=hI;rw [e];exact af _ _) (fun j y a m P hy hI h1 h2=>?_) (fun a m hI=>?_)
 ·obtain ⟨vars,hp⟩:=m
  obtain ⟨w,rfl,rfl,rfl⟩:=hI
  obtain ⟨b,_,xs,hb,_⟩:=iH hus hy
  exact nL hK (hb.up (.pre (aa (ak _)))) hN (h1 _ _ ⟨_,rfl,by rw [List.replicate_succ',List.map_append];rfl,rfl⟩)
 ·obtain ⟨vars,hp⟩:=m
  obtain ⟨w,rfl,rfl,rfl⟩:=hI
  conv=>whnf
  rw [af]
  have:=kW hus
  have h2:r.subs.length≤2:=by cases r<;>first | exact Nat.le_refl _ | exact Nat.le_succ _ | exact Nat.zero_le _
  exact .mk _ rfl (by rw [List.length_replicate];exact n2 h2 (Nat.le_of_eq this) (by simp +arith only)) (by rw [qD];exact hq _ (aa (aa (ak _))))
theorem Di {r:Rw}{x:MV}{l:Bool}{n N:Nat}(hg:r.good)(hx:lL l n h r x)(hN:1<N)(hq:∀h',h<+:h'→Q (.bool true) h'):K N 57 [x] Q X h:=by
 obtain ⟨M,rfl,hM⟩:=room hN
 refine hK _ _ _ _ _ _ js rfl rfl ?_
 have fin:=xb hK (X:=fun c m=>X c m.heap) (w:=none) hx hM hq
 obtain ⟨M,rfl,_⟩:=room hM
 cases hx with
 | set s t=>exact kU hK hg.1 fin
 | tell t=>exact fin
 | skip=>exact fin
 | ite h1 h2=>exact fin
 | wh h1=>exact fin
end Internal
end
section
namespace Internal
variable {K:KT}
noncomputable def NB (K:KT)(rs:List Rw):Prop:=∀{l:Bool}{u:MV}{N:Nat}{d:Int}{Q:MV→List MO→Prop}{X:XT}{h:List MO},cJ rs→cE l 0 h rs u→d+ay rs≤8→ay rs+7<N→(∀h',h<+:h'→Q .none h')→K N 58 [u,.int d] Q X h
noncomputable def SB (K:KT)(rs:List Rw):Prop:=∀{l:Bool}{u:MV}{N:Nat}{Q:MV→List MO→Prop}{X:XT}{h:List MO},cE l 0 h rs u→(lns rs).length≤100000→ay rs+1<N→(∀h',h<+:h'→Q (.tup (mvs rs)) h')→K N 60 [u] Q X h
variable (hK:aV PP K)
include hK
theorem zE (rs:List Rw)(ih:∀r∈rs,∀b∈r.subs,NB K b):NB K rs:=by
 intro l u N d Q X h hg hu hd hN hq
 refine e12 hu fun xs h1 h2=>?_
 obtain ⟨M,rfl,hM⟩:=room hN
 refine hK _ _ _ _ _ _ iq rfl rfl ?_
 obtain ⟨g,e1⟩:=pc h1
 refine aJ ((e1 _ (ak _)).1) ?_
 refine nE (fun j w2 w3 hp=>⟨[some u,some (.int d),w2,w3],hp⟩) (fun j w2 w3 hp=>h<+:hp)
  _ _ _ rfl (ak _) (fun _ _ _ _ h=>(e1 _ h).2) (fun j x w2 w3 hp P hx hI hn _=>?_) (fun w2 w3 hp hI=>?_)
 ·have hp1:=hI
  refine e12 (nJ h2 hx) fun r hr hr2=>?_
  have hmem:=List.mem_of_getElem? hr
  have gr:=f7 hg r hmem
  have nr:=d8 (Nat.le_refl (ay rs)) r hmem
  have v:=kX (r.is_up (.pre hp1) x hr2)
  refine Di hK gr v (n1 hN (by simp +arith only)) fun h' p'=>?_
  have p':hp<+:h':=p'
  have hp2:=hp1.trans p'
  have v':=kX (r.is_up (.pre hp2) x hr2)
  refine dP (decide_eq_false (dn hd)) ?_
  have last:wpS K M (.for_ [3] false .val [.call 25 [.var 2]] [.expr (.call 58 [.var 3,.bin .add (.var 1) (.cst (.int 1))])]) (fun f m=>match f with
    | .next=>P .next m
    | f=>P f m) (xin X) ⟨[some u,some (.int d),some x,w3],h'⟩:=by
   refine kY hK v' (n1 hN (by simp +arith only)) fun us hus=>?_
   refine aJ (aG (af _ _)) ?_
   refine jP (fun j w3 hp=>⟨[some u,some (.int d),some x,w3],hp⟩) (fun j w3 hp=>h'++[.list us]<+:hp)
    _ _ rfl (ak _) (fun _ _ _ e=>aj e (af _ _)) (fun j y w3 hp P hy hI hn _=>?_) (fun w3 hp hI=>?_)
   ·have hp3:=hI
    refine e12 (iH hus hy) fun b hb hb2=>?_
    have hbm:=List.mem_of_getElem? hb
    have nb:=d9 b hbm
    refine ih r hmem b hbm (pd gr b hbm) (hb2.up ((aa (ak _)).trans hp3)) (by lia) (n3 nb nr hN (by simp +arith only)) fun h'' p''=>?_
    exact hn _ _ (hp3.trans p'')
   ·have hp3:=hI
    exact hn _ _ _ (hp2.trans ((aa (ak _)).trans hp3))
  have gd:∀t:Tm,t.good→r.fm=t.mv→K M 26 [x] (fun v h=>K M 55 [v,.int 1] (fun _ h=>wpS K M (.for_ [3] false .val [.call 25 [.var 2]] [.expr (.call 58 [.var 3,.bin .add (.var 1) (.cst (.int 1))])]) (fun f m=>match f with
    | .next=>P .next m
    | f=>P f m) (xin X) ⟨[some u,some (.int d),some x,w3],h⟩) X h) X h':=fun t ht e=>w9 hK v' (n1 hN (by simp +arith only)) (by rw [e];exact nK hK t ht.1 (by have:=ht.2;lia) (by have:=ht.2;exact n2 this hN (by simp +arith only)) last)
  cases v' with
  | set s t=>exact gd t gr.2 rfl
  | tell t=>exact gd t gr rfl
  | skip=>exact last
  | ite h1 h2=>exact gd _ gr.1 rfl
  | wh h1=>exact gd _ gr.1 rfl
 ·have hp1:=hI
  exact hq _ hp1
theorem qE (rs:List Rw):NB K rs:=fD (P:=fun rs=>NB K rs) (fun rs ih=>zE hK rs ih) rs
theorem zF (rs:List Rw)(ih:∀r∈rs,∀b∈r.subs,SB K b):SB K rs:=by
 intro l u N Q X h hu hz hN hq
 refine e12 hu fun xs h1 h2=>?_
 obtain ⟨M,rfl,hM⟩:=room hN
 have hlen:=nI rs
 refine hK _ _ _ _ _ _ kN rfl rfl ?_
 have hpre:h<+:h++[.list []]:=aa (ak _)
 obtain ⟨g,e1⟩:=pc h1
 refine aJ ((e1 _ hpre).1) ?_
 refine jP (fun j w hp=>⟨[some u,some (.ref h.length),w],hp⟩) (fun j w hp=>h<+:hp∧hp[h.length]?=some (.list (mvs (rs.take j))))
  _ _ rfl ⟨hpre,af _ _⟩ (fun _ _ _ hI=>(e1 _ hI.1).2) (fun j x w hp P hx hI hn _=>?_) (fun w hp hI=>?_)
 ·obtain ⟨hp1,hp2⟩:=hI
  refine e12 (nJ h2 hx) fun r hr hr2=>?_
  have hmem:=List.mem_of_getElem? hr
  have hj:j<rs.length:=(List.getElem?_eq_some_iff.mp hr).1
  have nr:=d8 (Nat.le_refl (ay rs)) r hmem
  have lr:=mG r hmem
  have put:∀h',hp<+:h'→(mvs (rs.take j)).length<line∧P .next ⟨[some u,some (.ref h.length),some x],h'.set h.length (.list (mvs (rs.take j)++[r.mv]))⟩:=fun h' p'=>by
   refine ⟨by rw [dM];exact Nat.lt_of_lt_of_le (Nat.lt_of_le_of_lt (List.length_take_le j rs) hj) (Nat.le_trans hlen (Nat.le_trans hz (aL (nb rfl)))),?_⟩
   refine hn _ _ ⟨aR (hp1.trans p') (Nat.le_refl _),?_⟩
   rw [aw hr,f5];exact get_set (aj p' hp2)
  have app:∀h',hp<+:h'→onL (lst (.ref h.length) h') fun k xs=>xs.length<line∧P .next ⟨[some u,some (.ref h.length),some x],h'.set k (.list (xs++[r.mv]))⟩:=fun h' p'=>by
   rw [bf (aj p' hp2)];exact put h' p'
  cases kX (r.is_up (.pre hp1) x hr2) with
  | set s t=>
   refine aC (aH hp2) ?_
   exact app hp (ak _)
  | tell t=>
   refine aC (aH hp2) ?_
   exact app hp (ak _)
  | skip=>
   refine aC (aH hp2) ?_
   exact app hp (ak _)
  | @ite t a b va vb ha hb=>
   have na:=d9 (r:=.ite t a b) a (.head _)
   have nb:=d9 (r:=.ite t a b) b (.tail _ (.head _))
   have la:=i0 (r:=.ite t a b) a (.head _)
   have lb:=i0 (r:=.ite t a b) b (.tail _ (.head _))
   refine aC (aH hp2) ?_
   refine ih _ hmem a (.head _) ha (n3 la lr hz (by simp +arith only)) (n3 na nr hN (by simp +arith only)) fun h3 p3=>?_
   refine ih _ hmem b (.tail _ (.head _)) (hb.up p3) (n3 lb lr hz (by simp +arith only)) (n3 nb nr hN (by simp +arith only)) fun h4 p4=>?_
   exact app h4 (List.IsPrefix.trans p3 p4)
  | @wh t a va ha=>
   have na:=d9 (r:=.wh t a) a (.head _)
   have la:=i0 (r:=.wh t a) a (.head _)
   refine aC (aH hp2) ?_
   refine ih _ hmem a (.head _) ha (n3 la lr hz (by simp +arith only)) (n3 na nr hN (by simp +arith only)) fun h3 p3=>?_
   exact app h3 p3
 ·refine e02 hI fun hp1 hp2=>?_
  rw [rF h2,List.take_length] at hp2
  refine ai hp2 ?_
  exact hq _ hp1
theorem tP (rs:List Rw):SB K rs:=fD (P:=fun rs=>SB K rs) (fun rs ih=>zF hK rs ih) rs
theorem jw {l:Bool}{u:MV}{i N:Nat}{ss ks:List (List Nat)}{Q:MV→List MO→Prop}{X:XT}{h:List MO}(hu:holds l 0 h u (ss.map .str))(hi:h[i]?=some (.list (ks.map .str)))(hne:u≠.ref i)(hs:∀s∈ss,Gn s)(hks:∀s∈ks,Gn s)(hnd:(ks++ss).Nodup)(hz:ks.length+ss.length≤100000)(hN:1<N)
  (hq:Q .none (h.set i (.list ((ks++ss).map .str)))):K N 59 [u,.ref i] Q X h:=by
 obtain ⟨M,rfl,hM⟩:=room hN
 refine hK _ _ _ _ _ _ gE rfl rfl ?_
 refine nL hK hu (hM) ?_
 have e1:∃g,∀o,cR .val [u] (h.set i o)=some (ss.map .str,g)∧aO g (h.set i o):=by
  cases l with
  | false=>have hu:u=_:=hu;subst hu;exact ⟨none,fun o=>⟨rfl,trivial⟩⟩
  | true=>
   obtain ⟨j,_,rfl,e⟩:=hu
   have:i≠j:=fun q=>hne (by rw [q])
   exact ⟨_,fun o=>⟨aG (ap this e),ap this e⟩⟩
 refine e11 e1 fun g e1=>?_
 have h0:h=h.set i (.list (ks.map .str)):=by
  obtain ⟨hlt,e⟩:=List.getElem?_eq_some_iff.mp hi
  rw [←e,List.set_getElem_self]
 have e2:=(e1 (.list (ks.map .str))).1
 rw [←h0] at e2
 refine aJ e2 ?_
 refine gN (fun j w=>⟨[some u,some (.ref i),w],h.set i (.list ((ks++ss.take j).map .str))⟩) (fun j w=>True)
  _ (by rw [List.take_zero,List.append_nil,←h0];rfl) trivial (fun _ _ _=>(e1 _).2) (fun j x w P hx hI hn _=>?_) (fun w hI=>?_)
 ·skip
  obtain ⟨s,hs1,rfl⟩:=Option.map_eq_some_iff.mp (List.getElem?_map ..▸hx)
  have gs:=hs s (List.mem_of_getElem? hs1)
  obtain ⟨M,rfl,_⟩:=room hM
  refine kU hK gs ?_
  have hi2:(h.set i (.list ((ks++ss.take j).map .str)))[i]?=some (.list ((ks++ss.take j).map .str)):=get_set hi
  refine ax hi2 ?_
  refine bL gs.1.ok (fun t ht=>?_) ?_
  ·refine Or.elim (List.mem_append.mp ht) (fun ht=>?_) fun ht=>?_
   ·exact (hks t ht).1.ok
   ·exact (hs t (List.mem_of_mem_take ht)).1.ok
  ·have hnot:s∉ks++ss.take j:=fun hm=>by
    have e:ss=ss.take j++s::ss.drop (j+1):=by
     have:=List.take_append_drop j ss
     rw [List.drop_eq_getElem_cons (List.getElem?_eq_some_iff.mp hs1).1,(List.getElem?_eq_some_iff.mp hs1).2] at this
     exact this.symm
    rw [e,←List.append_assoc] at hnd
    exact (List.nodup_append.mp hnd).2.2 s hm s (.head _) rfl
   refine dP (show (ks++ss.take j).contains s=false by simpa using hnot) ?_
   refine aC (aH hi2) ?_
   refine bg (bf hi2) ?_
   refine ⟨by rw [List.length_map,List.length_append,List.length_take];exact Nat.lt_of_le_of_lt (Nat.le_trans (Nat.add_le_add_left (Nat.min_le_right _ _) _) hz) (nb rfl),?_⟩
   refine Eq.mpr (congrArg (P .next) (?_)) (hn (some (.str s)) trivial)
   dsimp only [MS.put,MS.set]
   rw [List.set_set,aw hs1,←List.append_assoc,List.map_append (l₂:=[s])]
   rfl
 ·skip
  rw [List.length_map,List.take_length]
  exact hq
end Internal
end
section
namespace Internal
variable {N:Nat}{Q:MV→List MO→Prop}{X:XT}{h:List MO}
noncomputable abbrev cg:List Nat:=[111,112,101,110,115]
noncomputable abbrev cP:List Nat:=[115,101,99,114,101,116,115]
noncomputable abbrev E6:List Nat:=[114,111,119,115]
noncomputable def bW (hp:List MO)(i:Nat)(A B:List (List Nat))(rows:List Rw):Prop:=
 ∃a b,hp[i]?=some (.attrs [(cg,.ref a),(cP,.ref b),(E6,.tup (mvs rows))])∧hp[a]?=some (.list (A.map .str))∧hp[b]?=some (.list (B.map .str))
theorem bW.up {hp hp':List MO}{i:Nat}{A B:List (List Nat)}{rows:List Rw}(h:bW hp i A B rows)(e:hp<+:hp'):bW hp' i A B rows:=let ⟨a,b,h1,h2,h3⟩:=h;⟨a,b,aj e h1,aj e h2,aj e h3⟩
theorem holds.at_ {l:Bool}{n:Nat}{hp hp':List MO}{u:MV}{xs:List MV}(h:holds l n hp u xs)(e:∀(j:Nat) (o:MO),hp[j]?=some o→hp'[j]?=some o):holds l n hp' u xs:=h.up ⟨Nat.le_refl _,fun j o _ h=>e j o h⟩
theorem holds.ne {l:Bool}{n i:Nat}{hp:List MO}{u:MV}{xs:List MV}(h:holds l n hp u xs)(hi:hp.length≤i):u≠.ref i:=fun q=>by
 subst q
 cases l with
 | false=>exact absurd (show MV.ref i=.tup xs from h) (by intro q;cases q)
 | true=>
  refine e13 h fun j _ e hj=>?_
  cases e
  exact absurd (List.getElem?_eq_some_iff.mp hj).1 (Nat.not_lt.mpr hi)
variable {K:KT}(hK:aV PP K)
include hK
theorem Dj {h0:List MO}{l l' l'':Bool}{u v w:MV}{A B:List (List Nat)}{rows:List Rw}{N:Nat}{Q:MV→List MO→Prop}{X:XT}(hu:holds l 0 h0 u (A.map .str))(hv:holds l' 0 h0 v (B.map .str))(hw:cE l'' 0 h0 rows w)(hA:∀s∈A,Gn s)(hB:∀s∈B,Gn s)(hnd:(A++B).Nodup)(hz:A.length+B.length≤100000)
  (hg:cJ rows) (hn:ay rows≤7) (hl:(lns rows).length≤100000) (hN:15<N) (hq:∀h',h0<+:h'→bW h' h0.length A B rows→Q .none h'):K N 63 [.inst 0 h0.length,u,v,w] Q X (h0++[.attrs []]):=by
 obtain ⟨M,rfl,hM⟩:=room hN
 obtain ⟨kx,hkx⟩:∃kx,kx=(h0++[MO.attrs []]).length:=⟨_,rfl⟩
 have hkx':kx=h0.length+1:=by rw [hkx];simp
 have p0:h0<+:(h0++[.attrs []])++[.list []]:=aa (aa (ak _))
 refine hK _ _ _ _ _ _ cZ rfl rfl ?_
 conv=>whnf
 dsimp only [dm,MS.set,MS.push,MS.put]
 rw [←hkx]
 have k0:((h0++[MO.attrs []])++[.list []])[kx]?=some (.list (([]:List (List Nat)).map .str)):=by rw [hkx];exact af _ _
 have a0:((h0++[MO.attrs []])++[.list []])[h0.length]?=some (.attrs []):=ah (af _ _)
 generalize (h0++[MO.attrs []])++[.list []]=h1 at *
 refine jw hK (h:=h1) (hu.at_ fun j o e=>aj p0 e) k0 (hu.ne (n1 (Nat.le_of_eq hkx'.symm) (by simp +arith only))) hA (fun s hs=>by cases hs) (by rw [List.nil_append];exact (List.nodup_append.mp hnd).1) (by simp only [List.length_nil];exact n1 hz (by simp +arith only)) (Nat.le_trans (nb rfl) hM) ?_
 rw [List.nil_append]
 have hkk:kx≠h0.length:=Nat.ne_of_gt (n1 (Nat.le_of_eq hkx'.symm) (by simp +arith only))
 have p1:h0<+:h1.set kx (.list (A.map .str)):=aR p0 (n1 (Nat.le_of_eq hkx'.symm) (by simp +arith only))
 have k1:(h1.set kx (.list (A.map .str)))[kx]?=some (.list (A.map .str)):=get_set k0
 have a1:=ap (o':=.list (A.map .str)) hkk a0
 generalize h1.set kx (.list (A.map .str))=h2 at *
 refine ax k1 ?_
 refine jw hK (h:=h2) (hv.at_ fun j o e=>aj p1 e) k1 (hv.ne (n1 (Nat.le_of_eq hkx'.symm) (by simp +arith only))) hB hA hnd hz (Nat.le_trans (nb rfl) hM) ?_
 have p2:h0<+:h2.set kx (.list ((A++B).map .str)):=aR p1 (n1 (Nat.le_of_eq hkx'.symm) (by simp +arith only))
 have k2:(h2.set kx (.list ((A++B).map .str)))[kx]?=some (.list ((A++B).map .str)):=get_set k1
 have a2:=ap (o':=.list ((A++B).map .str)) hkk a1
 generalize h2.set kx (.list ((A++B).map .str))=h3 at *
 refine e12 hw fun xs hw1 hw2=>?_
 refine nL hK (h:=h3) (hw1.at_ fun j o e=>aj p2 e) (Nat.le_trans (nb rfl) hM) ?_
 refine qE hK rows (l:=l'') (h:=h3) hg (cE.up ⟨xs,hw1,hw2⟩ p2) (by lia) (n2 hN hn (by simp +arith only)) fun h4 p4=>?_
 have p4:h3<+:h4:=p4
 have p3:=p2.trans p4
 have k3:=aj p4 k2
 have a3:=aj p4 a2
 refine ai k3 ?_
 rw [cj (by rw [List.length_map];exact Int.natCast_nonneg _)]
 dsimp only [dm,MS.set,MS.push,MS.put]
 have a4:(h4++[MO.list (((A++B).map MV.str).take (((A.map MV.str).length:Nat):Int).toNat)])[h0.length]?=some (.attrs []):=ah a3
 have l0:h0.length<h4.length:=(List.getElem?_eq_some_iff.mp a3).1
 refine cr a4 ?_
 have eA:((A++B).map MV.str).take (((A.map MV.str).length:Nat):Int).toNat=A.map .str:=by
  rw [List.map_append];exact List.take_left ..
 have eB:((A++B).map MV.str).drop (((A.map MV.str).length:Nat):Int).toNat=B.map .str:=by
  rw [List.map_append];exact List.drop_left ..
 rw [eA] at a4
 rw [eA]
 have p5:h0<+:(h4++[MO.list (A.map .str)]).set h0.length (.attrs [(cg,.ref h4.length)]):=aR (aa p3) (Nat.le_refl _)
 have a5:((h4++[MO.list (A.map .str)]).set h0.length (.attrs [(cg,.ref h4.length)]))[h0.length]?=some (.attrs [(cg,.ref h4.length)]):=get_set a4
 have k5:((h4++[MO.list (A.map .str)]).set h0.length (.attrs [(cg,.ref h4.length)]))[kx]?=some (.list ((A++B).map .str)):=ap (Ne.symm hkk) (ah k3)
 have o5:((h4++[MO.list (A.map .str)]).set h0.length (.attrs [(cg,.ref h4.length)]))[h4.length]?=some (.list (A.map .str)):=ap (Nat.ne_of_lt l0) (af _ _)
 have l5:h4.length<((h4++[MO.list (A.map .str)]).set h0.length (.attrs [(cg,.ref h4.length)])).length:=by rw [List.length_set,List.length_append];exact Nat.lt_succ_self _
 dsimp only [dm,MS.set,MS.push,MS.put,cG]
 generalize (h4++[MO.list (A.map .str)]).set h0.length (.attrs [(cg,.ref h4.length)])=h5 at *
 refine ⟨by decide,?_⟩
 refine ai k5 ?_
 rw [bQ (by rw [List.length_map];exact Int.natCast_nonneg _),eB]
 dsimp only [dm,MS.set,MS.push,MS.put]
 have a6:=ah (o':=MO.list (B.map .str)) a5
 refine cr a6 ?_
 refine ⟨Nat.le_of_ble_eq_true rfl,?_⟩
 have p6:h0<+:(h5++[MO.list (B.map .str)]).set h0.length (.attrs [(cg,.ref h4.length),(cP,.ref h5.length)]):=aR (aa p5) (Nat.le_refl _)
 have a7:((h5++[MO.list (B.map .str)]).set h0.length (.attrs [(cg,.ref h4.length),(cP,.ref h5.length)]))[h0.length]?=some (.attrs [(cg,.ref h4.length),(cP,.ref h5.length)]):=get_set a6
 have o7:((h5++[MO.list (B.map .str)]).set h0.length (.attrs [(cg,.ref h4.length),(cP,.ref h5.length)]))[h4.length]?=some (.list (A.map .str)):=ap (Nat.ne_of_lt l0) (ah o5)
 have s7:((h5++[MO.list (B.map .str)]).set h0.length (.attrs [(cg,.ref h4.length),(cP,.ref h5.length)]))[h5.length]?=some (.list (B.map .str)):=ap (Nat.ne_of_lt (n2 l5 l0 (by simp +arith only))) (af _ _)
 show K _ 60 [w] _ _ ((h5++[MO.list (B.map .str)]).set h0.length (.attrs [(cg,.ref h4.length),(cP,.ref h5.length)]))
 generalize (h5++[MO.list (B.map .str)]).set h0.length (.attrs [(cg,.ref h4.length),(cP,.ref h5.length)])=h6 at *
 have l6:h4.length<h6.length∧h5.length<h6.length:=⟨(List.getElem?_eq_some_iff.mp o7).1,(List.getElem?_eq_some_iff.mp s7).1⟩
 refine tP hK rows (cE.up ⟨xs,hw1,hw2⟩ p6) hl (n2 hN hn (by simp +arith only)) fun h7 p7=>?_
 have p7:h6<+:h7:=p7
 have a8:=aj p7 a7
 refine cr a8 ?_
 refine ⟨Nat.le_of_ble_eq_true rfl,?_⟩
 refine hq _ (aR (p6.trans p7) (Nat.le_refl _)) ⟨h4.length,h5.length,get_set a8,ap (Nat.ne_of_lt l0) (aj p7 o7),ap (Nat.ne_of_lt (n2 l5 l0 (by simp +arith only))) (aj p7 s7)⟩
theorem Dk {i:Nat}{A B:List (List Nat)}{rows:List Rw}(hp:bW h i A B rows)(hN:0<N)(hq:Q (.tup [.ref h.length,.ref (h.length+1)]) (h++[.list (A.map .str)]++[.list (B.map .str)])):K N 66 [.inst 0 i] Q X h:=by
 obtain ⟨M,rfl,hM⟩:=room hN
 refine e23 hp fun a b h1 h2 h3=>?_
 refine hK _ _ _ _ _ _ eW rfl rfl ?_
 refine cr h1 ?_
 refine ax h2 ?_
 refine cr (ah h1) ?_
 refine ax (ah h3) ?_
 rw [←show (h++[MO.list (A.map .str)]).length=h.length+1 by simp] at hq
 exact hq
theorem qF {i:Nat}{A B:List (List Nat)}{rows:List Rw}(hp:bW h i A B rows)(hN:0<N)(hq:Q (.tup (mvs rows)) h):K N 67 [.inst 0 i] Q X h:=by
 obtain ⟨M,rfl,hM⟩:=room hN
 refine e23 hp fun a b h1 h2 h3=>?_
 refine hK _ _ _ _ _ _ d7 rfl rfl ?_
 refine cr h1 ?_
 exact hq
end Internal
end
section
namespace Internal
mutual
noncomputable def Rw.size:Rw→Nat
 | .ite _ a b=>au a+au b+1
 | .wh _ a=>au a+1
 | _=>1
noncomputable def au:List Rw→Nat
 | []=>0
 | r::rs=>r.size+au rs
end
noncomputable abbrev Num:=Int × Rw × List Tm
mutual
noncomputable def Rw.num (k:Int)(ab:List Tm):Rw→List Num
 | .set s t=>[(k,.set s t,ab)]
 | .tell t=>[(k,.tell t,ab)]
 | .skip=>[(k,.skip,ab)]
 | .ite t a b=>(k,.ite t a b,ab)::(nums (k+1) (ab++[t]) a++nums (k+1+au a) (ab++[t]) b)
 | .wh t a=>(k,.wh t a,ab)::nums (k+1) (ab++[t]) a
noncomputable def nums (k:Int)(ab:List Tm):List Rw→List Num
 | []=>[]
 | r::rs=>r.num k ab++nums (k+r.size) ab rs
end
mutual
theorem Rw.num_len:∀(r:Rw) (k:Int) (ab:List Tm),(r.num k ab).length=r.size
 | .set s t,k,ab=>rfl
 | .tell t,k,ab=>rfl
 | .skip,k,ab=>rfl
 | .ite t a b,k,ab=>by
  show (nums (k+1) (ab++[t]) a++nums (k+1+au a) (ab++[t]) b).length+1=au a+au b+1
  rw [List.length_append,bE a,bE b]
 | .wh t a,k,ab=>by
  show (nums (k+1) (ab++[t]) a).length+1=au a+1
  rw [bE a]
theorem bE:∀(rs:List Rw) (k:Int) (ab:List Tm),(nums k ab rs).length=au rs
 | [],k,ab=>rfl
 | r::rs,k,ab=>by
  show (r.num k ab++nums (k+r.size) ab rs).length=r.size+au rs
  rw [List.length_append,r.num_len,bE rs]
end
theorem df:∀(a b:List Rw),au (a++b)=au a+au b
 | [],b=>(Nat.zero_add _).symm
 | r::a,b=>by show r.size+au (a++b)=r.size+au a+au b;rw [df a b,Nat.add_assoc]
theorem iI:∀(a b:List Rw) (k:Int) (ab:List Tm),nums k ab (a++b)=nums k ab a++nums (k+au a) ab b
 | [],b,k,ab=>by show nums k ab b=nums (k+(0:Nat)) ab b;rw [Int.natCast_zero,Int.add_zero]
 | r::a,b,k,ab=>by
  show r.num k ab++nums (k+r.size) ab (a++b)=r.num k ab++nums (k+r.size) ab a++nums (k+(r.size+au a:Nat)) ab b
  rw [iI a b,List.append_assoc,Int.natCast_add,Int.add_assoc]
noncomputable def cK (k:Int)(ab:List Tm):List (List Rw)→List Num
 | []=>[]
 | b::bs=>nums k ab b++cK (k+au b) ab bs
noncomputable def bk:List (List Rw)→Nat
 | []=>0
 | b::bs=>au b+bk bs
theorem i3:∀(a b:List (List Rw)) (k:Int) (ab:List Tm),cK k ab (a++b)=cK k ab a++cK (k+bk a) ab b
 | [],b,k,ab=>by show cK k ab b=cK (k+(0:Nat)) ab b;rw [Int.natCast_zero,Int.add_zero]
 | r::a,b,k,ab=>by
  show nums k ab r++cK (k+au r) ab (a++b)=nums k ab r++cK (k+au r) ab a++cK (k+(au r+bk a:Nat)) ab b
  rw [i3 a b,List.append_assoc,Int.natCast_add,Int.add_assoc]
theorem dA:∀(a b:List (List Rw)),bk (a++b)=bk a+bk b
 | [],b=>(Nat.zero_add _).symm
 | r::a,b=>by show au r+bk (a++b)=au r+bk a+bk b;rw [dA a b,Nat.add_assoc]
noncomputable def Rw.tm:Rw→Tm
 | .ite t _ _=>t
 | .wh t _=>t
 | _=>.num 0
theorem xc (r:Rw)(k:Int)(ab:List Tm):r.num k ab=(k,r,ab)::cK (k+1) (ab++[r.tm]) r.subs:=by
 cases r with
 | ite t a b=>
  show _=(k,Rw.ite t a b,ab)::(nums (k+1) (ab++[t]) a++(nums (k+1+au a) (ab++[t]) b++[]))
  rw [List.append_nil];rfl
 | wh t a=>
  show _=(k,Rw.wh t a,ab)::(nums (k+1) (ab++[t]) a++[])
  rw [List.append_nil];rfl
 | _=>rfl
theorem size_eq (r:Rw):r.size=bk r.subs+1:=by
 cases r<;>rfl
noncomputable def co (q:Num):MV:=.tup [.int q.1,q.2.1.mv,.tup (q.2.2.map Tm.mv)]
theorem mH {n:Nat}{hp:List MO}:∀{rs:List Rw}{xs:List MV},(∀r∈rs,∀x,r.is false n hp x→x=r.mv)→bT false n hp rs xs→xs=mvs rs
 | [],xs,_,h=>h
 | r::rs,xs,ih,h=>by
  obtain ⟨y,ys,rfl,h2,h3⟩:=h
  rw [ih r (.head _) y h2,mH (fun q hq=>ih q (.tail _ hq)) h3];rfl
theorem tQ {n:Nat}{hp:List MO}(rs:List Rw):∀{u:MV},cE false n hp rs u→u=.tup (mvs rs):=by
 refine fD (P:=fun rs=>∀{u:MV},cE false n hp rs u→u=.tup (mvs rs)) (fun rs ih u h=>?_) rs
 refine e12 h fun xs h1 h2=>?_
 have h1:u=.tup xs:=h1
 rw [h1,mH (fun r hr x hx=>?_) h2]
 cases kX hx with
 | ite ha hb=>rw [ih _ hr _ (.head _) ha,ih _ hr _ (.tail _ (.head _)) hb];rfl
 | wh ha=>rw [ih _ hr _ (.head _) ha];rfl
 | _=>rfl
theorem DE {r:Rw}:∀b∈r.subs,au b<r.size:=by
 cases r with
 | ite t x y=>
  intro b hb
  show au b<au x+au y+1
  rcases List.mem_cons.mp hb with rfl | hb
  ·exact by simp +arith only
  ·rw [List.mem_singleton.mp hb];exact by simp +arith only
 | wh t x=>intro b hb;rw [List.mem_singleton.mp hb];exact Nat.lt_succ_self _
 | _=>intro b hb;cases hb
theorem tR:∀{rs:List Rw},∀r∈rs,r.size≤au rs
 | q::rs,r,hr=>by
  show _≤q.size+au rs
  rcases List.mem_cons.mp hr with rfl | hr
  ·exact by simp +arith only
  ·have:=tR r hr;exact n1 this (by simp +arith only)
theorem kZ (rs:List Rw)(j:Nat):au (rs.take j)≤au rs:=by
 have e:=df (rs.take j) (rs.drop j)
 rw [List.take_append_drop] at e
 exact n1 (Nat.le_of_eq e.symm) (by simp +arith only)
theorem jx (rs:List (List Rw))(j:Nat):bk (rs.take j)≤bk rs:=by
 have e:=dA (rs.take j) (rs.drop j)
 rw [List.take_append_drop] at e
 exact n1 (Nat.le_of_eq e.symm) (by simp +arith only)
variable {K:KT}
noncomputable def NU (K:KT)(rs:List Rw):Prop:=∀{N:Nat}{k:Int}{ab:List Tm}{Q:MV→List MO→Prop}{X:XT}{h:List MO},au rs≤1000000→ab.length+ay rs≤1000→ay rs+1<N→(∀h',h<+:h'→h'[h.length]?=some (.list ((nums k ab rs).map co))→Q (.ref h.length) h')→K N 61 [.tup (mvs rs),.int k,.tup (ab.map Tm.mv)] Q X h
variable (hK:aV PP K)
include hK
omit hK in
noncomputable abbrev nuB:List MSt:=[.asg [7] false (.call 61 [.var 6,.var 4,.bin .add (.var 2) (.tup [.idx (.var 5) (.cst (.int 1))])]),.expr (.mth .extend (.var 3) [.var 7]),.asg [4] false (.bin .add (.var 4) (.blt .len [.var 7]))]
omit hK in
theorem Dl {r:Rw}{b:List Rw}(h:b∈r.subs):∃w rest,r.mv=.tup (.str w::r.tm.mv::rest):=by
 cases r with
 | ite t x y=>exact ⟨_,_,rfl⟩
 | wh t x=>exact ⟨_,_,rfl⟩
 | _=>cases h
omit hK in
theorem mI:∀(bs:List (List Rw)) (k:Int) (ab:List Tm),(cK k ab bs).length=bk bs
 | [],_,_=>rfl
 | b::bs,k,ab=>by show (nums k ab b++cK _ ab bs).length=au b+bk bs;rw [List.length_append,bE,mI bs]
omit hK in
theorem zG {r:Rw}{b:List Rw}(ih:NU K b)(hbm:b∈r.subs){M f:Nat}{z:Int}{ab:List Tm}{A:List Num}{v0 v1 w7:Option MV}{hp:List MO}{P:Fl→MS→Prop}{X:XT}(hf:hp[f]?=some (.list (A.map co)))(hA:A.length+au b≤1000000)(hab:ab.length+1+ay b≤1000)(hM:ay b+1<M)
  (hq:∀hp' w7,(∀j o,j≠f→hp[j]?=some o→hp'[j]?=some o)→(∀h0,h0<+:hp→h0.length≤f→h0<+:hp')→hp'[f]?=some (.list ((A++nums z (ab++[r.tm]) b).map co))→P .next ⟨[v0,v1,some (.tup (ab.map Tm.mv)),some (.ref f),some (.int (z+(au b:Nat))),some r.mv,some (.tup (mvs b)),w7],hp'⟩) :
  aP K M nuB P (xin X) ⟨[v0,v1,some (.tup (ab.map Tm.mv)),some (.ref f),some (.int z),some r.mv,some (.tup (mvs b)),w7],hp⟩:=by
 refine e21 (Dl hbm) fun w rest hr=>?_
 rw [hr] at hq ⊢
 refine bu (k:=1) (j:=1) (bi (by decide) (by rw [List.length_cons,List.length_cons];lia)) rfl ?_
 refine ⟨aL (by rw [List.length_map];show _+1≤_;exact n1 hab (by simp +arith only)),?_⟩
 have e:ab.map Tm.mv++[r.tm.mv]=(ab++[r.tm]).map Tm.mv:=by rw [List.map_append];rfl
 rw [e]
 refine ih (h:=hp) (Nat.le_trans (Nat.le_add_left _ _) hA) (by rw [List.length_append];exact hab) hM fun h3 p3 e3=>?_
 have p3:hp<+:h3:=p3
 have f3:=aj p3 hf
 have lf:f<hp.length:=(List.getElem?_eq_some_iff.mp hf).1
 refine aC (f9 f3) (bg (bf f3) (bg (bf e3) ?_))
 refine ⟨aL (by rw [List.length_map,List.length_map,bE];exact hA),?_⟩
 refine ax (ap (o':=.list _) (Nat.ne_of_lt lf) e3) ?_
 have:=hq (h3.set f (.list (A.map co++(nums z (ab++[r.tm]) b).map co))) (some (.ref hp.length)) (fun j o hj e=>ap (Ne.symm hj) (aj p3 e)) (fun h0 p0 l0=>aR (p0.trans p3) l0) (by rw [List.map_append];exact get_set f3)
 rw [←bE b z (ab++[r.tm]),←List.length_map (f:=co)] at this
 exact this
theorem zH (rs:List Rw)(ih:∀r∈rs,∀b∈r.subs,NU K b):NU K rs:=by
 intro N k ab Q X h hz hab hN hq
 obtain ⟨M,rfl,hM⟩:=room hN
 refine hK _ _ _ _ _ _ jt rfl rfl ?_
 refine nF (fun j (z:Int) w5 w6 w7 hp=>⟨[some (.tup (mvs rs)),some (.int k),some (.tup (ab.map Tm.mv)),some (.ref h.length),some (.int z),w5,w6,w7],hp⟩) (fun j z w5 w6 w7 hp=>A3 (z=k+au (rs.take j)) (h<+:hp) (hp[h.length]?=some (.list ((nums k ab (rs.take j)).map co))))
  k none none none _ rfl ⟨(Int.add_zero k).symm,aa (ak _),af _ _⟩ (fun _ _ _ _ _ _ _=>trivial) (fun j x z w5 w6 w7 hp P hx hI hn _=>?_) (fun z w5 w6 w7 hp hI=>?_)
 ·refine hI.el fun hz1 hp1 hp2=>?_
  obtain ⟨r,hr,rfl⟩:=rB hx
  have hmem:=List.mem_of_getElem? hr
  have zr:=kZ rs (j+1)
  have nr:=d8 (Nat.le_refl (ay rs)) r hmem
  rw [aw hr,df] at zr
  have zr:au (rs.take j)+(r.size+0)≤au rs:=zr
  have se:=size_eq r
  have hpl:(nums k ab (rs.take j)).length=au (rs.take j):=bE _ _ _
  have goal:∀hp' w6 w7,h<+:hp'→hp'[h.length]?=some (.list ((nums k ab (rs.take j)++(z,r,ab)::cK (z+1) (ab++[r.tm]) r.subs).map co))→P .next ⟨[some (.tup (mvs rs)),some (.int k),some (.tup (ab.map Tm.mv)),some (.ref h.length),some (.int (z+1+(bk r.subs:Nat))),some r.mv,w6,w7],hp'⟩:=fun hp' w6 w7 p e=>by
   refine hn _ _ _ _ hp' ⟨?_,p,?_⟩
   ·rw [aw hr,df,hz1]
    show _=k+((au (rs.take j)+(r.size+0):Nat):Int)
    rw [se];show _=k+((au (rs.take j):Int)+((bk r.subs:Int)+1));rw [Int.add_assoc,Int.add_assoc,Int.add_comm 1]
   ·rw [aw hr,iI,←hz1,show nums z ab [r]=r.num z ab from List.append_nil _,xc];exact e
  generalize nums k ab (rs.take j)=pre at *
  refine aC (aH hp2) (bg (bf hp2) ?_)
  refine ⟨by rw [List.length_map,hpl];exact Nat.lt_of_le_of_lt (Nat.le_trans (Nat.le_trans (Nat.le_add_right _ _) zr) hz) (nb rfl),?_⟩
  have v:=kX (rG (n:=0) (hp:=hp.set h.length (.list (pre.map co++[co (z,r,ab)]))) r)
  refine kY hK v (n1 hN (by simp +arith only)) fun us hus=>?_
  have hH1:h<+:hp.set h.length (.list (pre.map co++[co (z,r,ab)])):=aR hp1 (Nat.le_refl _)
  have hH2:(hp.set h.length (.list (pre.map co++[co (z,r,ab)])))[h.length]?=some (.list ((pre++[(z,r,ab)]).map co)):=by rw [List.map_append];exact get_set hp2
  have hs:=kW hus
  refine aJ (aG (af _ _)) ?_
  obtain ⟨H,hH⟩:∃H,hp.set h.length (.list (pre.map co++[co (z,r,ab)]))=H:=⟨_,rfl⟩
  rw [hH] at hH1 hH2
  have l2:h.length<H.length:=(List.getElem?_eq_some_iff.mp hH2).1
  refine jQ (fun i (y:Int) w6 w7 hp=>⟨[some (.tup (mvs rs)),some (.int k),some (.tup (ab.map Tm.mv)),some (.ref h.length),some (.int y),some r.mv,w6,w7],hp⟩) (fun i y w6 w7 hp=>A4 (y=z+1+bk (r.subs.take i)) (h<+:hp) (hp[H.length]?=some (.list us)) (hp[h.length]?=some (.list ((pre++(z,r,ab)::cK (z+1) (ab++[r.tm]) (r.subs.take i)).map co))))
   (z+1) w6 w7 (H++[.list us]) (by rw [←hH];rfl) ⟨(Int.add_zero _).symm,aa hH1,af _ _,ah hH2⟩ (fun _ _ _ _ _ hI=>by have:=hI.h3;rw [←hH] at this;exact this) (fun i x y w6 w7 hp' P hx hI hn _=>?_) (fun y w6 w7 hp' hI=>?_)
  ·refine hI.el fun q0 q1 q2 q3=>?_
   refine e12 (iH hus hx) fun b hb hb2=>?_
   have hbm:=List.mem_of_getElem? hb
   have nb:=d9 b hbm
   have zt:=jx r.subs (i+1)
   rw [aw hb,dA] at zt
   have zt:bk (r.subs.take i)+(au b+0)≤bk r.subs:=zt
   obtain rfl:=tQ b hb2
   refine zG (ih r hmem b hbm) hbm q3 (by rw [List.length_append,List.length_cons,mI,hpl];exact n3 (Nat.add_le_add zt (Nat.le_of_eq se.symm)) zr hz (by simp +arith only)) (n3 nb nr hab (by simp +arith only)) (n3 nb nr hN (by simp +arith only)) fun hp3 w7 k3 p3 e3=>?_
   refine hn _ _ _ hp3 ⟨?_,p3 _ q1 (Nat.le_refl _),k3 _ _ (Nat.ne_of_gt l2) q2,?_⟩
   ·rw [aw hb,dA,q0]
    show _=z+1+((bk (r.subs.take i)+(au b+0):Nat):Int)
    lia
   ·rw [aw hb,i3,←q0,e3,List.append_assoc]
    show _=some (MO.list ((pre++(z,r,ab)::(cK (z+1) (ab++[r.tm]) (r.subs.take i)++(nums y (ab++[r.tm]) b++[]))).map co))
    rw [List.append_nil];rfl
  ·refine hI.el fun q0 q1 q2 q3=>?_
   rw [hs,List.take_length] at q3 q0
   have:=goal hp' w6 w7 q1 q3
   rw [←q0] at this
   exact this
 ·refine hI.el fun _ hp1 hp2=>?_
  rw [dM,List.take_length] at hp2
  exact hq _ hp1 hp2
theorem k9 (rs:List Rw):NU K rs:=fD (P:=fun rs=>NU K rs) (fun rs ih=>zH hK rs ih) rs
end Internal
end
section
namespace Internal
noncomputable def Rw.nms:Rw→List (List Nat)
 | .set s t=>s::aS (an t)
 | .tell t=>aS (an t)
 | .skip=>[]
 | .ite t _ _=>aS (an t)
 | .wh t _=>aS (an t)
noncomputable def ci (qs:List Num):List (List Nat):=qs.flatMap fun q=>q.2.1.nms
theorem iJ (l:List (List Nat)):(aS l).length≤l.length:=jT fun x hx=>hx
theorem zI {r:Rw}(h:r.good):r.nms.length≤9:=by
 have key:∀t:Tm,t.good→(aS (an t)).length≤8:=fun t ht=>Nat.le_trans (iJ _) (Nat.le_trans (cO t) ht.lv)
 cases r with
 | set s t=>exact Nat.succ_le_succ (key t h.2)
 | tell t=>exact Nat.le_succ_of_le (key t h)
 | skip=>exact Nat.zero_le _
 | ite t a b=>exact Nat.le_succ_of_le (key t h.1)
 | wh t a=>exact Nat.le_succ_of_le (key t h.1)
theorem lc:∀{qs:List Num},(∀q∈qs,q.2.1.good)→(ci qs).length≤9 * qs.length
 | [],_=>Nat.le_refl _
 | q::qs,h=>by
  have h1:=zI (h q (.head _))
  have h2:=lc (qs:=qs) fun x hx=>h x (.tail _ hx)
  show (q.2.1.nms++ci qs).length≤_
  rw [List.length_append,List.length_cons];exact n2 h2 h1 (by simp +arith only)
theorem dB (a b:List Num):ci (a++b)=ci a++ci b:=List.flatMap_append ..
mutual
theorem Rw.num_good:∀{r:Rw}{k:Int}{ab:List Tm},r.good→∀q∈r.num k ab,q.2.1.good
 | .set s t,k,ab,h,q,hq=>by rw [List.mem_singleton.mp hq];exact h
 | .tell t,k,ab,h,q,hq=>by rw [List.mem_singleton.mp hq];exact h
 | .skip,k,ab,h,q,hq=>by rw [List.mem_singleton.mp hq];exact h
 | .ite t a b,k,ab,h,q,hq=>by
  rcases List.mem_cons.mp hq with rfl | hq
  ·exact h
  ·refine Or.elim (List.mem_append.mp hq) (fun hq=>?_) fun hq=>?_
   ·exact cp h.2.1 q hq
   ·exact cp h.2.2 q hq
 | .wh t a,k,ab,h,q,hq=>by
  rcases List.mem_cons.mp hq with rfl | hq
  ·exact h
  ·exact cp h.2 q hq
theorem cp:∀{rs:List Rw}{k:Int}{ab:List Tm},cJ rs→∀q∈nums k ab rs,q.2.1.good
 | [],k,ab,h,q,hq=>by cases hq
 | r::rs,k,ab,h,q,hq=>by
  refine Or.elim (List.mem_append.mp hq) (fun hq=>?_) fun hq=>?_
  ·exact r.num_good h.1 q hq
  ·exact cp h.2 q hq
end
noncomputable def aD (A B:List (List Nat))(rows:List Rw):List (List Nat):=A++B++ci (nums 1 [] rows)
end Internal
end
section
namespace Internal
variable {K:KT}(hK:aV PP K)
include hK
theorem qG {r:Rw}{N:Nat}{Q:MV→List MO→Prop}{X:XT}{h:List MO}(hg:r.good)(hN:5<N)(hq:∀h',h<+:h'→h'[h.length]?=some (.list (r.nms.map .str))→Q (.ref h.length) h'):K N 62 [r.mv] Q X h:=by
 obtain ⟨M,rfl,hM⟩:=room hN
 have fl:∀(t:Tm) (pre:List (List Nat)) (hp:List MO),t.good→r.fm=t.mv→r.nms=pre++aS (an t)→pre.length≤1→hp[h.length]?=some (.list (pre.map .str))→h<+:hp→
   aP K M [.expr (.mth .extend (.var 1) [.call 1 [.call 26 [.var 0]]]),.ret (.var 1)] (fin Q) (xin X) ⟨[some r.mv,some (.ref h.length)],hp⟩:=fun t pre hp ht hf hr hl he hpre=>by
  refine aC (f9 he) ?_
  refine w9 hK (kX (rG (n:=0) r)) (Nat.le_trans (nb rfl) hM) ?_
  rw [hf]
  refine gP hK (by have:=ht.2;exact n2 this hN (by simp +arith only)) ht.1 (by have:=ht.lv;exact Nat.le_trans this (nb rfl)) fun i h2 p2 l2 e2=>?_
  have p2:hp<+:h2:=p2
  have he2:=aj p2 he
  refine bg (bf he2) ?_
  refine bg (bf e2) ?_
  have:=iJ (an t)
  have:=cO t
  have:=ht.lv
  refine ⟨aL (by rw [List.length_map,List.length_map];lia),?_⟩
  exact hq _ (aR (hpre.trans p2) (Nat.le_refl _)) (by rw [hr,List.map_append];exact get_set he2)
 have p1:h<+:h++[.list []]:=aa (ak _)
 have e1:(h++[MO.list []])[h.length]?=some (.list (([]:List (List Nat)).map .str)):=af _ _
 refine hK _ _ _ _ _ _ ju rfl rfl ?_
 cases r with
 | set s t=>
  refine aC (aH e1) ?_
  refine bg (bf e1) ?_
  refine ⟨Nat.lt_of_lt_of_le (Nat.zero_lt_succ 0) (aL (Nat.le_of_ble_eq_true rfl)),?_⟩
  exact fl t [s] _ hg.2 rfl rfl (Nat.le_refl _) (get_set e1) (aR p1 (Nat.le_refl _))
 | tell t=>exact fl t [] _ hg rfl rfl (Nat.zero_le _) e1 p1
 | skip=>exact hq _ p1 e1
 | ite t a b=>exact fl t [] _ hg.1 rfl rfl (Nat.zero_le _) e1 p1
 | wh t a=>exact fl t [] _ hg.1 rfl rfl (Nat.zero_le _) e1 p1
theorem jy {i:Nat}{A B:List (List Nat)}{rows:List Rw}{N:Nat}{Q:MV→List MO→Prop}{X:XT}{h:List MO}(hp:bW h i A B rows)(hg:cJ rows)(hs:au rows≤400)(hl:A.length+B.length≤300)(h64:(aS (aD A B rows)).length<fH)(hn:ay rows≤7)(hN:10<N)
  (hq:∀h' r,h<+:h'→h.length≤r→h'[r]?=some (.list ((aS (aD A B rows)).map .str))→Q (.ref r) h'):K N 64 [.inst 0 i] Q X h:=by
 obtain ⟨M,rfl,hM⟩:=room hN
 refine e23 hp fun a b h1 h2 h3=>?_
 have ln:(nums 1 [] rows).length=au rows:=bE rows 1 []
 have lz:=lc (qs:=nums 1 [] rows) (cp hg)
 have lt:∀j,(ci ((nums 1 [] rows).take j)).length≤9 * 400:=fun j=>by
  have e:=dB ((nums 1 [] rows).take j) ((nums 1 [] rows).drop j)
  rw [List.take_append_drop] at e
  have:=congrArg List.length e
  rw [List.length_append] at this
  lia
 refine hK _ _ _ _ _ _ d6 rfl rfl ?_
 dsimp only [dm]
 refine cr h1 ?_
 refine cr h1 ?_
 conv=>whnf
 rw [h2,h3]
 refine ⟨dc (Nat.le_trans hl (nb rfl)),?_⟩
 have p1:h<+:h++[.list (A.map .str++B.map .str)]:=aa (ak _)
 have e1:(h++[MO.list (A.map .str++B.map .str)])[h.length]?=some (.list ((A++B).map .str)):=dN _ _ _
 refine cr (aj p1 h1) ?_
 refine k9 hK rows (k:=1) (ab:=[]) (Nat.le_trans hs (nb rfl)) (by show 0+_≤_;exact n1 hn (by simp +arith only)) (n2 hN hn (by simp +arith only)) fun h4 p4 e4=>?_
 have p4:h++[.list (A.map .str++B.map .str)]<+:h4:=p4
 refine aJ (aG e4) ?_
 refine nF (fun j f w2 w3 w4 hp=>⟨[some (.inst 0 i),some (.ref f),w2,w3,w4],hp⟩) (fun j f w2 w3 w4 hp=>A3 (h4<+:hp) (h.length≤f) (hp[f]?=some (.list ((A++B++ci ((nums 1 [] rows).take j)).map .str))))
  h.length _ _ _ _ rfl ⟨ak _,Nat.le_refl _,by rw [List.take_zero];show _=some (MO.list ((A++B++[]).map .str));rw [List.append_nil];exact aj p4 e1⟩ (fun _ _ _ _ _ _ hI=>aj hI.h1 e4) (fun j x f w2 w3 w4 hp' P hx hI hn _=>?_) (fun f w2 w3 w4 hp' hI=>?_)
 ·refine hI.el fun q1 q2 q3=>?_
  obtain ⟨q,hq1,rfl⟩:=Option.map_eq_some_iff.mp (List.getElem?_map ..▸hx)
  have hqm:=List.mem_of_getElem? hq1
  refine ⟨rfl,?_⟩
  refine qG hK (cp hg q hqm) (Nat.le_trans (nb rfl) hM) fun h5 p5 e5=>?_
  have p5:hp'<+:h5:=p5
  conv=>whnf
  rw [aj p5 q3,e5]
  have:=lt (j+1)
  rw [aw hq1,dB,List.length_append] at this
  have e:ci [q]=q.2.1.nms:=List.append_nil _
  rw [e] at this
  refine ⟨dc (by rw [List.length_append,List.length_append];exact n2 this hl (by simp +arith only)),?_⟩
  refine hn h5.length _ _ _ _ ⟨aa (q1.trans p5),?_,?_⟩
  ·have:=p1.length_le;have:=p4.length_le;have:=q1.length_le;have:=p5.length_le;lia
  ·rw [aw hq1,dB,e,←List.append_assoc];exact dN _ _ _
 ·refine hI.el fun q1 q2 q3=>?_
  rw [List.length_map,List.take_length] at q3
  refine ai q3 ?_
  exact .mk (aD A B rows) rfl h64 (by show (A++B++ci (nums 1 [] rows)).length<4000;rw [List.length_append,List.length_append];lia) (hq _ _ (aa ((p1.trans p4).trans q1)) (by have:=p1.length_le;have:=p4.length_le;have:=q1.length_le;lia) (af _ _))
end Internal
end
section
namespace Internal
noncomputable def Tm.gp (p:List Nat→Prop)(t:Tm):Prop:=t.ok p∧t.deep≤3
mutual
noncomputable def Rw.gp (p:List Nat→Prop):Rw→Prop
 | .set s t=>p s∧t.gp p
 | .tell t=>t.gp p
 | .skip=>True
 | .ite t a b=>t.gp p∧gps p a∧gps p b
 | .wh t a=>t.gp p∧gps p a
noncomputable def gps (p:List Nat→Prop):List Rw→Prop
 | []=>True
 | r::rs=>r.gp p∧gps p rs
end
theorem jV {p:List Nat→Prop}:∀{a b:List Rw},gps p a→gps p b→gps p (a++b)
 | [],_,_,h=>h
 | r::a,b,h1,h2=>⟨h1.1,jV h1.2 h2⟩
mutual
theorem zJ {p q:List Nat→Prop}(h:∀s,p s→q s):∀{r:Rw},r.gp p→r.gp q
 | .set s t,x=>⟨h s x.1,x.2.1.mono h,x.2.2⟩
 | .tell t,x=>⟨x.1.mono h,x.2⟩
 | .skip,x=>x
 | .ite t a b,x=>⟨⟨x.1.1.mono h,x.1.2⟩,ec h x.2.1,ec h x.2.2⟩
 | .wh t a,x=>⟨⟨x.1.1.mono h,x.1.2⟩,ec h x.2⟩
theorem ec {p q:List Nat→Prop}(h:∀s,p s→q s):∀{rs:List Rw},gps p rs→gps q rs
 | [],x=>x
 | r::rs,x=>⟨zJ h x.1,ec h x.2⟩
end
mutual
theorem zK:∀{r:Rw},r.gp Gn→r.good
 | .set s t,x=>x
 | .tell t,x=>x
 | .skip,x=>x
 | .ite t a b,x=>⟨x.1,fE x.2.1,fE x.2.2⟩
 | .wh t a,x=>⟨x.1,fE x.2⟩
theorem fE:∀{rs:List Rw},gps Gn rs→cJ rs
 | [],x=>x
 | r::rs,x=>⟨zK x.1,fE x.2⟩
end
variable {K:KT}
noncomputable def PB (K:KT)(n:Nat)(X:XM)(m:MS)(e:ME):Prop:=∀Q:PQ,(∀b,Q (.bool b) m)→wpE K n e Q X m
theorem qH {n:Nat}{X:XM}{m:MS}:∀{es:List ME},es≠[]→(∀e∈es,PB K n X m e)→PB K n X m (.and es)
 | [],h,_=>absurd rfl h
 | [e],_,h=>fun Q hq=>h e (.head _) Q hq
 | e::e'::es,_,h=>fun Q hq=>by
  have ih:=qH (es:=e'::es) (List.cons_ne_nil _ _) fun x hx=>h x (.tail _ hx)
  refine h e (.head _) _ fun b=>?_
  refine fc (fun _=>?_) fun _=>?_
  ·exact ih Q hq
  ·exact hq false
theorem AJ {n:Nat}{X:XM}{m:MS}:∀{es:List ME},es≠[]→(∀e∈es,PB K n X m e)→PB K n X m (.or es)
 | [],h,_=>absurd rfl h
 | [e],_,h=>fun Q hq=>h e (.head _) Q hq
 | e::e'::es,_,h=>fun Q hq=>by
  have ih:=AJ (es:=e'::es) (List.cons_ne_nil _ _) fun x hx=>h x (.tail _ hx)
  refine h e (.head _) _ fun b=>?_
  refine fc (fun _=>?_) fun _=>?_
  ·exact hq true
  ·exact ih Q hq
theorem fF {n:Nat}{X:XM}{m:MS}{a b:ME}(ha:PB K n X m a)(hb:PB K n X m b):PB K n X m (.and [a,b])∧PB K n X m (.or [a,b]):=by
 have h:∀e∈[a,b],PB K n X m e:=fun e he=>by
  rcases List.mem_cons.mp he with rfl | he
  ·exact ha
  ·rw [List.mem_singleton.mp he];exact hb
 exact ⟨qH (List.cons_ne_nil _ _) h,AJ (List.cons_ne_nil _ _) h⟩
theorem xd {n:Nat}{X:XM}{m:MS}{a b c:ME}(ha:PB K n X m a)(hb:PB K n X m b)(hc:PB K n X m c):PB K n X m (.and [a,b,c]):=qH (List.cons_ne_nil _ _) fun e he=>by
  rcases List.mem_cons.mp he with rfl | he
  ·exact ha
  ·rcases List.mem_cons.mp he with rfl | he
   ·exact hb
   ·rw [List.mem_singleton.mp he];exact hc
theorem xe {n:Nat}{X:XM}{m:MS}{a:ME}(ha:PB K n X m a):PB K n X m (.not a):=fun Q hq=>ha _ fun b=>hq _
theorem dC {n:Nat}{X:XM}{m:MS}{c:ME}{a b:List MSt}{Q:Fl→MS→Prop}(hc:PB K n X m c)(ha:aP K n a Q X m)(hb:aP K n b Q X m):wpS K n (.ite c a b) Q X m:=
 hc _ fun t=>by
  refine fc (fun _=>?_) fun _=>?_
  ·exact ha
  ·exact hb
theorem nM {n i:Nat}{X:XM}{m:MS}{x:Int}(hv:m.get i=some (.int x)){a b c:Int}(ha:0<a∧a<2 ^ 30)(hb:0<b)(op:Cmp)(hop:op=.eq∨op=.gt):PB K n X m (.cmp op (.bin .mod (.bin .fdiv (.var i) (.cst (.int a))) (.cst (.int b))) (.cst (.int c))):=fun Q hq=>by
 show wpE K n (.var i) _ X m
 refine iB hv ?_
 refine aC (decide_eq_true ha) ?_
 refine aC (decide_eq_true hb) ?_
 rcases hop with rfl | rfl
 ·exact hq _
 ·exact hq _
theorem cF {n i:Nat}{X:XM}{m:MS}{x:Int}(hv:m.get i=some (.int x)){c:Int}(op:Cmp)(hop:op=.eq∨op=.gt∨op=.lt):PB K n X m (.cmp op (.var i) (.cst (.int c))):=fun Q hq=>by
 show wpE K n (.var i) _ X m
 refine iB hv ?_
 rcases hop with rfl | rfl | rfl
 ·exact hq _
 ·exact hq _
 ·exact hq _
theorem i6 {n i:Nat}{X:XM}{m:MS}{x:Bool}(hv:m.get i=some (.bool x)):PB K n X m (.var i):=fun Q hq=>by
 exact iB hv (hq _)
variable (hK:aV PP K)
include hK
theorem xf:∀(t:Tm) {N:Nat}{Q:MV→List MO→Prop}{X:XT}{h:List MO},t.good→t.deep<N→(∀(h':List MO) (i:Nat) (ss:List (List Nat)),h<+:h'→h'[i]?=some (.list (ss.map .str))→(∀s∈ss,okS s)→ss.length≤t.lv→Q (.ref i) h')→K N 37 [t.mv] Q X h
 | .num k,N,Q,X,h,ht,hN,hq=>by
  obtain ⟨M,rfl,hM⟩:=room hN
  refine hK _ _ _ _ _ _ be rfl rfl ?_
  exact hq _ _ [] (aa (ak _)) (af _ _) (fun s hs=>by cases hs) (Nat.zero_le _)
 | .nm s,N,Q,X,h,ht,hN,hq=>by
  obtain ⟨M,rfl,hM⟩:=room hN
  refine hK _ _ _ _ _ _ be rfl rfl ?_
  exact hq _ _ [s] (aa (ak _)) (af _ _) (fun x hx=>by rw [List.mem_singleton.mp hx];exact ht.1.1.ok) (Nat.le_refl _)
 | .op c a b,N,Q,X,h,ht,hN,hq=>by
  refine e02 ht.sub fun ga gb=>?_
  have la:=a.lv_le
  have lb:=b.lv_le
  have h3:2 ^ a.deep≤2 ^ 3:=Nat.pow_le_pow_right (by decide) ga.2
  have h4:2 ^ b.deep≤2 ^ 3:=Nat.pow_le_pow_right (by decide) gb.2
  have hN:max a.deep b.deep+1<N:=hN
  obtain ⟨M,rfl,hM⟩:=room hN
  refine hK _ _ _ _ _ _ be rfl rfl ?_
  refine dP (show ([c]==wV)=false by simp) ?_
  refine dP (show ([c]==mF)=false by simp) ?_
  refine xf a ga (n2 hN (Nat.le_max_left a.deep b.deep) (by simp +arith only)) fun h1 i x p1 e1 o1 l1=>?_
  refine xf b gb (n2 hN (Nat.le_max_right a.deep b.deep) (by simp +arith only)) fun h2 j y p2 e2 o2 l2=>?_
  conv=>whnf
  dsimp only
  rw [aj p2 e1,e2]
  refine ⟨dc (Nat.le_trans (Nat.add_le_add (Nat.le_trans l1 (Nat.le_trans la h3)) (Nat.le_trans l2 (Nat.le_trans lb h4))) (nb rfl)),?_⟩
  refine hq _ _ (x++y) (aa (p1.trans p2)) (dN _ _ _) (fun s hs=>?_) ?_
  ·refine Or.elim (List.mem_append.mp hs) (fun hs=>?_) fun hs=>?_
   ·exact o1 s hs
   ·exact o2 s hs
  ·rw [List.length_append];exact Nat.add_le_add l1 l2
noncomputable def li (ss:List (List Nat))(hp:List MO)(i:Nat):Prop:=∃sl:List (List Nat),hp[i]?=some (.list (sl.map .str))∧∀s∈sl,s∈ss
omit hK in
theorem li.up {ss:List (List Nat)}{hp hp':List MO}{i:Nat}(h:li ss hp i)(e:hp<+:hp'):li ss hp' i:=let ⟨sl,h1,h2⟩:=h;⟨sl,aj e h1,h2⟩
omit hK in
theorem nN {ss:List (List Nat)}(hp:List MO)(k:Nat):li ss (hp++[.list ((ss.map MV.str).drop k)]) hp.length:=⟨ss.drop k,by rw [af,List.map_drop],fun s hs=>List.mem_of_mem_drop hs⟩
omit hK in
theorem nP {ss:List (List Nat)}(hp:List MO)(k:Nat):li ss (hp++[.list ((ss.map MV.str).take k)]) hp.length:=⟨ss.take k,by rw [af,List.map_take],fun s hs=>List.mem_of_mem_take hs⟩
theorem zL {r:Nat}{ss:List (List Nat)}{more mode:Int}{dark:Bool}{N:Nat}{Q:MV→List MO→Prop}{X:XT}{h:List MO}(hr:h[r]?=some (.list (ss.map .str)))(hs:∀s∈ss,Gn s)(hN:8≤N)(hq:∀(h':List MO) (t:Tm) (b:Bool),h<+:h'→t.gp (·∈ss)→Q (.tup [t.mv,.bool b]) h') :
  K N 38 [.ref r,.int more,.bool dark,.int mode] Q X h:=by
 obtain ⟨M,rfl,hM⟩:=room (k:=7) (show 7<N by lia)
 have last:∀hp i4 i5,h<+:hp→li ss hp i4→li ss hp i5→aP K M (bI.body.drop 4) (fin Q) (xin X) ⟨[some (.ref r),some (.int more),some (.bool dark),some (.int mode),some (.ref i4),some (.ref i5),none,none],hp⟩:=by
  intro hp i4 i5 hpre h4 h5
  refine e12 h4 fun s4 e4 m4=>?_
  refine e12 h5 fun s5 e5 m5=>?_
  have go:∀d:Bool,aP K M [.asg [6] false (.call 11 [.var 1,.var 5,.var 4,.cst (.bool d),.bin .add (.cst (.int 1)) (.bin .mod (.bin .fdiv (.var 1) (.cst (.int 24))) (.cst (.int 4)))]),bI.body.getLast (by decide)] (fin Q) (xin X) ⟨[some (.ref r),some (.int more),some (.bool dark),some (.int mode),some (.ref i4),some (.ref i5),none,none],hp⟩:=by
   intro d
   have hL:0≤more / 24 % 4∧more / 24 % 4<4:=em rfl
   obtain ⟨M',rfl⟩:∃M',M=M'+(more / 24 % 4).toNat+2:=⟨M-(more / 24 % 4).toNat-2,by rw [Nat.add_assoc,Nat.sub_sub,Nat.sub_add_cancel (Nat.le_trans (Nat.add_le_add_right (Nat.le_of_lt (emN (n:=4) rfl)) 2) (Nat.le_trans (nb rfl) hM))]⟩
   refine tJ hK (more / 24 % 4).toNat (by rw [Int.toNat_of_nonneg hL.1,Int.add_comm]) e5 e4 (fun s h=>(hs s (m5 s h)).1.ok) (fun s h=>(hs s (m4 s h)).1.ok) fun t h1 ht hd hpre1=>?_
   have hg':t.gp (·∈ss):=⟨ht.mono fun s h=>h.elim (m5 s) (m4 s),Nat.le_trans hd (Nat.le_of_lt_succ (emN (n:=4) rfl))⟩
   have hg:t.good:=⟨ht.mono fun s h=>h.elim (fun h=>hs s (m5 s h)) fun h=>hs s (m4 s h),Nat.le_trans hd (Nat.le_of_lt_succ (emN (n:=4) rfl))⟩
   have hpre1:hp<+:h1:=hpre1
   refine xf hK t hg (by have:=hg.2;exact n1 hd (by simp +arith only)) fun h2 i x p2 e2 o2 l2=>?_
   have p2:h1<+:h2:=p2
   refine aJ (aG e2) ?_
   have hpre2:=(hpre.trans hpre1).trans p2
   refine rD (fun w:Option MV × List MO=>⟨[some (.ref r),some (.int more),some (.bool dark),some (.int mode),some (.ref i4),some (.ref i5),some t.mv,w.1],w.2⟩) (fun w=>h2<+:w.2) (none,_) rfl (ak _) (fun w h=>aj h e2) (fun j y w P hy hp1 h1 h2'=>?_) (fun a w hp1=>?_)
   ·obtain ⟨s,es,rfl⟩:=Option.map_eq_some_iff.mp (List.getElem?_map ..▸hy)
    refine ai (aj (hpre2.trans hp1) hr) ?_
    conv=>whnf
    dsimp only [MS.set,MS.push]
    rw [af]
    conv=>whnf
    rw [bQ (by decide),←List.map_drop]
    refine bL (o2 s (List.mem_of_getElem? es)) (fun s h=>(hs s (List.mem_of_mem_drop h)).1.ok) ?_
    refine fc (fun _=>?_) fun _=>?_
    ·exact h1 _ (_,_) (aa hp1)
    ·exact h2' (_,_) (aa hp1)
   ·exact .nil _ _ a rfl rfl (ah (af _ _)) (af _ _) (hq _ t _ (aa (aa (hpre2.trans hp1))) hg')
  refine fc (fun _=>?_) fun _=>?_
  ·exact go true
  ·cases dark with
   | true=>exact go false
   | false=>exact go true
 have third:∀hp i4 i5,h<+:hp→li ss hp i4→li ss hp i5→aP K M (bI.body.drop 3) (fin Q) (xin X) ⟨[some (.ref r),some (.int more),some (.bool dark),some (.int mode),some (.ref i4),some (.ref i5),none,none],hp⟩:=by
  intro hp i4 i5 hpre h4 h5
  exact dC (cF rfl .gt (.inr (.inl rfl))) (last hp i5 i5 hpre h5 h5) (last hp i4 i5 hpre h4 h5)
 have second:∀hp i4,h<+:hp→li ss hp i4→aP K M (bI.body.drop 2) (fin Q) (xin X) ⟨[some (.ref r),some (.int more),some (.bool dark),some (.int mode),some (.ref i4),some (.ref r),none,none],hp⟩:=by
  intro hp i4 hpre h4
  have hr':=aj hpre hr
  refine dC (fF (fF (cF rfl .eq (.inl rfl)) (nM rfl (by decide) (by decide) .eq (.inl rfl))).1 (xd (cF rfl .eq (.inl rfl)) (i6 rfl) (nM rfl (by decide) (by decide) .gt (.inr rfl)))).2 (third _ _ _ hpre h4 h4) ?_
  refine dC (cF rfl .eq (.inl rfl)) ?_ (third _ _ _ hpre h4 ⟨ss,hr',fun s h=>h⟩)
  refine ai hr' ?_
  rw [bQ (by decide)]
  exact third _ _ _ (aa hpre) (h4.up (aa (ak _))) (nN _ _)
 refine hK _ _ _ _ _ _ bI rfl rfl ?_
 refine ai hr ?_
 have e:li ss (h++[.list (aF (ss.map MV.str) none (some 5))]) h.length:=by rw [cj (by decide)];exact nP h _
 exact second _ _ (aa (ak h)) e
end Internal
end
section
namespace Internal
set_option genCtorIdx false in
structure Fr where
 a:Nat
 ra:Nat
 wd:List Nat
 t:Option Tm
 rows:List Rw
 sec:Bool
 fst:Option (List Rw)
noncomputable def oT:Option Tm→MV
 | none=>.none
 | some t=>t.mv
noncomputable def oR:Option (List Rw)→MV
 | none=>.none
 | some rs=>.tup (mvs rs)
noncomputable def Fr.cells (f:Fr):List MV:=[.str f.wd,oT f.t,.ref f.ra,.bool f.sec,oR f.fst]
noncomputable def lm (hp:List MO)(f:Fr):Prop:=hp[f.a]?=some (.list f.cells)∧hp[f.ra]?=some (.list (mvs f.rows))
noncomputable def cH (fs:List Fr):List MV:=fs.map fun f=>.ref f.a
structure Stk (L:Nat)(hp:List MO)(st:Nat)(fs:List Fr):Prop where
 at_:hp[st]?=some (.list (cH fs))
 fr:∀f∈fs,lm hp f
 pw:fs.Pairwise fun f g=>f.a<g.ra
 ne:∀f∈fs,f.ra<f.a∧f.ra≠st∧f.a≠st∧L≤f.ra
 lo:L≤st
theorem lm.set {hp:List MO}{f:Fr}(h:lm hp f){i:Nat}{o:MO}(h1:i≠f.a)(h2:i≠f.ra):lm (hp.set i o) f:=⟨ap h1 h.1,ap h2 h.2⟩
theorem lm.up {hp hp':List MO}{f:Fr}(h:lm hp f)(e:hp<+:hp'):lm hp' f:=⟨aj e h.1,aj e h.2⟩
section
variable {L st:Nat}{hp hp':List MO}{fs gs:List Fr}{f:Fr}
theorem Stk.up (h:Stk L hp st fs)(e:hp<+:hp'):Stk L hp' st fs:=⟨aj e h.at_,fun f hf=>(h.fr f hf).up e,h.pw,h.ne,h.lo⟩
theorem Stk.other (h:Stk L hp st fs){i:Nat}{o:MO}(h1:i≠st)(h2:∀f∈fs,i≠f.a∧i≠f.ra):Stk L (hp.set i o) st fs:=⟨ap h1 h.at_,fun f hf=>(h.fr f hf).set (h2 f hf).1 (h2 f hf).2,h.pw,h.ne,h.lo⟩
theorem Stk.last (h:Stk L hp st (gs++[f])):∀g∈gs,g.a<f.ra:=fun g hg=>(List.pairwise_append.mp h.pw).2.2 g hg f (List.mem_singleton.mpr rfl)
theorem Stk.pop (h:Stk L hp st (gs++[f])):Stk L (hp.set st (.list (cH gs))) st gs∧lm (hp.set st (.list (cH gs))) f:=by
 have hm:∀g∈gs,g∈gs++[f]:=fun g hg=>List.mem_append_left _ hg
 have hf:f∈gs++[f]:=List.mem_append_right _ (List.mem_singleton.mpr rfl)
 exact ⟨⟨get_set h.at_,fun g hg=>(h.fr g (hm g hg)).set (h.ne g (hm g hg)).2.2.1.symm (h.ne g (hm g hg)).2.1.symm,(List.pairwise_append.mp h.pw).1,fun g hg=>h.ne g (hm g hg),h.lo⟩,(h.fr f hf).set (h.ne f hf).2.2.1.symm (h.ne f hf).2.1.symm⟩
theorem Stk.push (h:Stk L hp st gs)(hf:lm hp f)(h1:∀g∈gs,g.a<f.ra)(h2:f.ra<f.a∧f.ra≠st∧f.a≠st∧L≤f.ra):Stk L (hp.set st (.list (cH gs++[.ref f.a]))) st (gs++[f]):=by
 refine ⟨?_,fun g hg=>?_,List.pairwise_append.mpr ⟨h.pw,List.pairwise_singleton ..,fun g hg x hx=>by rw [List.mem_singleton.mp hx];exact h1 g hg⟩,fun g hg=>?_,h.lo⟩
 ·rw [show cH (gs++[f])=cH gs++[.ref f.a] by simp [cH]];exact get_set h.at_
 ·rcases List.mem_append.mp hg with hg | hg
  ·exact (h.fr g hg).set (h.ne g hg).2.2.1.symm (h.ne g hg).2.1.symm
  ·rw [List.mem_singleton.mp hg];exact hf.set h2.2.2.1.symm h2.2.1.symm
 ·rcases List.mem_append.mp hg with hg | hg
  ·exact h.ne g hg
  ·rw [List.mem_singleton.mp hg];exact h2
theorem Stk.add (h:Stk L hp st (gs++[f]))(r:Rw):Stk L (hp.set f.ra (.list (mvs f.rows++[r.mv]))) st (gs++[{ f with rows:=f.rows++[r] }]):=by
 have hf:f∈gs++[f]:=List.mem_append_right _ (List.mem_singleton.mpr rfl)
 have hn:=h.ne f hf
 have hl:=h.last
 have hm:∀g∈gs,g∈gs++[f]:=fun g hg=>List.mem_append_left _ hg
 refine ⟨?_,fun g hg=>?_,?_,fun g hg=>?_,h.lo⟩
 ·have:=ap (o':=.list (mvs f.rows++[r.mv])) hn.2.1 h.at_
  rw [this];simp [cH]
 ·rcases List.mem_append.mp hg with hg | hg
  ·have h1:=hl g hg
   have h2:=(h.ne g (hm g hg)).1
   exact (h.fr g (hm g hg)).set (Nat.ne_of_gt h1) (Nat.ne_of_gt (n2 h2 h1 (by simp +arith only)))
  ·rw [List.mem_singleton.mp hg]
   refine ⟨ap (by show f.ra≠f.a;exact Nat.ne_of_lt (n1 hn.1 (by simp +arith only))) (h.fr f hf).1,?_⟩
   rw [f5];exact get_set (h.fr f hf).2
 ·have:=List.pairwise_append.mp h.pw
  exact List.pairwise_append.mpr ⟨this.1,List.pairwise_singleton ..,fun g hg x hx=>by rw [List.mem_singleton.mp hx];exact hl g hg⟩
 ·rcases List.mem_append.mp hg with hg | hg
  ·exact h.ne g (hm g hg)
  ·rw [List.mem_singleton.mp hg];exact hn
end
structure FOk (p:List Nat→Prop)(i:Nat)(f:Fr):Prop where
 good:gps p f.rows
 nest:ay f.rows+i≤7
 fst:∀rs,f.fst=some rs→gps p rs∧ay rs+i≤7
 kind:i=0∨∃t,f.t=some t∧t.gp p∧(f.wd=wIf∨(f.wd=eP∧f.fst=none))
noncomputable def Oks (p:List Nat→Prop)(fs:List Fr):Prop:=∀i f,fs[i]?=some f→FOk p i f
noncomputable def Fr.wt (f:Fr):Nat:=(lns f.rows).length+(match f.fst with
 | some rs=>(lns rs).length
 | none=>0)+4
noncomputable def wts (fs:List Fr):Nat:=(fs.map Fr.wt).sum
noncomputable def Fr.cl (f:Fr):Nat:=match f.fst with
 | none=>if f.wd=wIf then 2 else 1
 | some _=>1
noncomputable def cls (fs:List Fr):Nat:=(fs.map Fr.cl).sum
theorem bR (gs:List Fr)(f:Fr):wts (gs++[f])=wts gs+f.wt:=by simp [wts]
theorem fG (gs:List Fr)(f:Fr):cls (gs++[f])=cls gs+f.cl:=by simp [cls]
theorem Oks.init {p:List Nat→Prop}{gs:List Fr}{f:Fr}(h:Oks p (gs++[f])):Oks p gs∧FOk p gs.length f:=
 ⟨fun i g e=>h i g (ah e),h _ _ (af gs f)⟩
theorem Oks.snoc {p:List Nat→Prop}{gs:List Fr}{f:Fr}(h:Oks p gs)(hf:FOk p gs.length f):Oks p (gs++[f]):=fun i g e=>by
 refine Or.elim (Nat.lt_or_ge i gs.length) (fun q=>?_) fun q=>?_
 ·rw [List.getElem?_append_left q] at e;exact h i g e
 ·have hi:i<(gs++[f]).length:=(List.getElem?_eq_some_iff.mp e).1
  rw [List.length_append,List.length_singleton] at hi
  have:i=gs.length:=Nat.le_antisymm (Nat.le_of_lt_succ hi) q
  subst this
  rw [af] at e;cases e;exact hf
theorem FOk.add {p:List Nat→Prop}{i:Nat}{f:Fr}(h:FOk p i f){r:Rw}(hg:r.gp p)(hn:r.nest+i≤7):FOk p i { f with rows:=f.rows++[r] }:=by
 refine ⟨jV h.good ⟨hg,trivial⟩,?_,h.fst,h.kind⟩
 have h1:=h.nest
 have:ay (f.rows++[r])≤7-i:=f6 (Nat.le_sub_of_add_le h1) (mx0 (Nat.le_sub_of_add_le hn))
 exact Nat.add_le_of_le_sub (n1 h1 (by simp +arith only)) this
theorem xg (f:Fr)(r:Rw):({ f with rows:=f.rows++[r] }:Fr).wt=f.wt+r.lines.length:=by
 unfold Fr.wt
 dsimp only
 rw [iE,rC,List.length_append];exact by simp +arith only
theorem nQ {α:Type}{l:List α}(h:l≠[]):∃gs f,l=gs++[f]:=⟨l.dropLast,l.getLast h,(List.dropLast_concat_getLast h).symm⟩
variable {K:KT}(hK:aV PP K)
include hK
omit hK in
theorem Dm {hp:List MO}{r:Nat}{xs:List MV}(e:hp[r]?=some (.list xs)):lQ .pop (.ref r) hp=true:=by
 show (rV r hp[r]?).isSome=true;rw [e];rfl
omit hK in
theorem rH {f:Fr}{B:Nat}(h:f.wt≤B)(hB:B≤2000):(mvs f.rows).length<line:=by
 have h1:=nI f.rows
 have h2:(lns f.rows).length≤f.wt:=by unfold Fr.wt;exact by simp +arith only
 exact Nat.lt_of_lt_of_le (show (mvs f.rows).length<2001 by rw [dM];lia) (aL (by decide))
noncomputable abbrev ja (e:ME):MSt:=.expr (.mth .append (.idx (.idx (.var 0) (.neg (.cst (.int 1)))) (.cst (.int 2))) [e])
omit hK in
theorem tS {α:Type}(gs:List α)(f:α):gZ (-1) (gs++[f]).length=some gs.length:=by
 rw [List.length_append,List.length_singleton]
 unfold gZ
 rw [decide_eq_false (show ¬ (0:Int)≤-1 by decide),decide_eq_true (show -(((gs.length+1:Nat)):Int)≤-1 by lia)]
 show some (-1+((gs.length+1:Nat):Int)).toNat=some gs.length
 congr 1;lia
omit hK in
theorem nR {L st:Nat}{hp:List MO}{gs:List Fr}{f:Fr}{B M:Nat}(S:Stk L hp st (gs++[f]))(hB:f.wt≤B)(hB':B≤2000){r:Rw}{e:ME}{vs:List (Option MV)}{X:XM}{Q:Fl→MS→Prop}(he:∀Q:PQ,Q r.mv ⟨some (.ref st)::vs,hp⟩→wpE K M e Q X ⟨some (.ref st)::vs,hp⟩)
  (hq:Q .next ⟨some (.ref st)::vs,hp.set f.ra (.list (mvs f.rows++[r.mv]))⟩):wpS K M (ja e) Q X ⟨some (.ref st)::vs,hp⟩:=by
 have hf:=S.fr f (List.mem_append_right _ (List.mem_singleton.mpr rfl))
 have e1:cH (gs++[f])=cH gs++[.ref f.a]:=by simp [cH]
 conv=>whnf
 dsimp only
 rw [S.at_,e1]
 delta dW onO;try dsimp only
 rw [tS]
 dsimp only
 rw [af]
 refine ai hf.1 ?_
 refine aC (aH hf.2) ?_
 refine he _ ?_
 refine bg (bf hf.2) ?_
 exact ⟨rH hB hB',hq⟩
omit hK in
theorem Tm.first (t:Tm):∃s r,t.mv=.tup (.str s::r)∧s=(match t with | .num _=>wV | .nm _=>mF | .op c _ _=>[c]):=by
 cases t<;>exact ⟨_,_,rfl,rfl⟩
theorem pe {p:List Nat→Prop}{L st:Nat}{hp:List MO}{gs:List Fr}{f:Fr}{B N:Nat}(S:Stk L hp st (gs++[f]))(O:Oks p (gs++[f]))(hg:gs≠[])(hB:wts (gs++[f])≤B)(hB':B≤2000){Q:MV→List MO→Prop}{X:XT}
  (hq:∀hp' fs',Stk L hp' st fs'→Oks p fs'→fs'≠[]→fs'.length≤(gs++[f]).length→wts fs'≤wts (gs++[f])→cls fs'<cls (gs++[f])→(∀h0:List MO,h0.length≤L→h0<+:hp→h0<+:hp')→Q .none hp'):K (N+1) 39 [.ref st] Q X hp:=by
 refine e02 S.pop fun S1 F1=>?_
 refine e02 O.init fun O1 hf=>?_
 have e1:cH (gs++[f])=cH gs++[.ref f.a]:=by simp [cH]
 have hlo:=S.lo
 have hfm:f∈gs++[f]:=List.mem_append_right _ (List.mem_singleton.mpr rfl)
 have hn:=S.ne f hfm
 have hlast:=S.last
 refine e13 (hf.kind.resolve_left (fun q=>hg (List.eq_nil_of_length_eq_zero q))) fun t et ht hkind=>?_
 refine e21 (nQ hg) fun gs' g eg=>?_
 rw [bR] at hB
 have hsz:∀h0:List MO,h0.length≤L→h0<+:hp→h0<+:hp.set st (.list (cH gs)):=fun h0 h1 h2=>aR h2 (n2 h1 hlo (by simp +arith only))
 refine hK _ _ _ _ _ _ dT rfl rfl ?_
 refine aC (Dm S.at_) ?_
 refine ⟨rfl,?_⟩
 refine bg (bf S.at_) ?_
 refine ⟨rfl,?_⟩
 rw [e1]
 refine fb (a:=.ref f.a) (by simp) ?_
 rw [List.dropLast_concat]
 change aP K N (dT.body.drop 1) (fin Q) _ ⟨[some (.ref st),some (.ref f.a)],hp.set st (.list (cH gs))⟩
 generalize hp.set st (.list (cH gs))=hp1 at *
 have fin_row:∀(hp2:List MO) (r:Rw),Stk L hp2 st gs→(∀h0:List MO,h0.length≤L→h0<+:hp→h0<+:hp2)→r.gp p→r.nest+gs'.length≤7→r.lines.length≤f.wt→Q .none (hp2.set g.ra (.list (mvs g.rows++[r.mv]))):=by
  intro hp2 r S2 h2 hr hnr hl
  subst eg
  have hgm:g∈gs'++[g]:=List.mem_append_right _ (List.mem_singleton.mpr rfl)
  have hgl:=(S2.ne g hgm).2.2.2
  refine e02 O1.init fun O2 hg2=>?_
  refine hq _ _ (S2.add r) (O2.snoc (hg2.add hr hnr)) (by simp) (by simp) ?_ ?_ fun h0 q1 q2=>aR (h2 h0 q1 q2) (n2 q1 hgl (by simp +arith only))
  ·rw [bR,bR,bR,xg];exact n1 hl (by simp +arith only)
  ·rw [fG,fG,fG]
   have:({ g with rows:=g.rows++[r] }:Fr).cl=g.cl:=rfl
   rw [this]
   have:1≤f.cl:=by unfold Fr.cl;split<;>(try split)<;>exact nb rfl
   exact n1 this (by simp +arith only)
 have hgl:gs.length=gs'.length+1:=by rw [eg];simp
 have hwt:(lns f.rows).length+4≤f.wt:=by unfold Fr.wt;exact by simp +arith only
 have hnest:=hf.nest
 have hgw:g.wt≤B:=by rw [eg,bR] at hB;exact n1 hB (by simp +arith only)
 have cell:f.cells=[.str f.wd,t.mv,.ref f.ra,.bool f.sec,oR f.fst]:=by unfold Fr.cells;rw [et];rfl
 have hfc:=F1.1
 rw [cell] at hfc
 rcases hkind with hwd | ⟨hwd,hfst⟩
 ·rw [hwd] at hfc
  refine ai hfc ?_
  refine ai hfc ?_
  conv=>whnf
  cases hfs:f.fst with
  | none=>
   rw [hfs] at hfc
   refine aC (aH S1.at_) ?_
   refine ai hfc ?_
   refine ai hfc ?_
   refine ai (ah hfc) ?_
   refine ai (ah hfc) ?_
   refine ai (ah F1.2) ?_
   have hlt:∀{i o},hp1[i]?=some o→i<hp1.length:=fun e=>(List.getElem?_eq_some_iff.mp e).1
   have hst:=hlt S1.at_
   have F2:lm (hp1++[.list []]++[.list [.str wIf,t.mv,.ref hp1.length,.bool f.sec,.tup (mvs f.rows)]]) ⟨(hp1++[MO.list []]).length,hp1.length,wIf,some t,[],f.sec,some f.rows⟩:=⟨af _ _,ah (af _ _)⟩
   have hup:hp1<+:hp1++[.list []]++[.list [.str wIf,t.mv,.ref hp1.length,.bool f.sec,.tup (mvs f.rows)]]:=aa (aa (ak _))
   have S2:=(S1.up hup).push F2 (fun g hg=>hlt (S1.fr g hg).1) ⟨by show hp1.length<(hp1++[MO.list []]).length;simp,by show hp1.length≠st;exact Nat.ne_of_gt hst,by show (hp1++[MO.list []]).length≠st;simp;exact Nat.ne_of_gt (n1 hst (by simp +arith only)),by show L≤hp1.length;exact n2 hst hlo (by simp +arith only)⟩
   refine bg (bf (aj hup S1.at_)) ?_
   have hsz2:gs.length≤8:=n1 hnest (by simp +arith only)
   refine ⟨Nat.lt_of_lt_of_le (show (cH gs).length<9 by simp [cH];exact n1 hsz2 (by simp +arith only)) (aL (by decide)),?_⟩
   refine hq _ _ S2 (O1.snoc ⟨trivial,by show 0+gs.length≤7;exact n1 hnest (by simp +arith only),fun rs e=>by cases e;exact ⟨hf.good,hnest⟩,.inr ⟨t,rfl,ht,.inl rfl⟩⟩) (by simp) (by simp) ?_ ?_ fun h0 q1 q2=>aR ((hsz h0 q1 q2).trans hup) (n2 q1 hlo (by simp +arith only))
   ·rw [bR,bR]
    show wts gs+(0+(lns f.rows).length+4)≤_
    exact n1 hwt (by simp +arith only)
   ·rw [fG,fG]
    show cls gs+1<_
    have:f.cl=2:=by unfold Fr.cl;rw [hfs,hwd];rfl
    exact n1 (Nat.le_of_eq this.symm) (by simp +arith only)
  | some rs=>
   rw [hfs] at hfc
   have hrs:=hf.fst rs hfs
   show wpS K N (ja _) _ _ _
   subst eg
   refine nR (r:=.ite t rs f.rows) S1 hgw hB' (fun Q hq=>?_) ?_
   ·conv=>whnf
    refine ai hfc ?_
    refine ai hfc ?_
    refine ai hfc ?_
    refine ai F1.2 ?_
    exact hq
   ·refine fin_row hp1 (.ite t rs f.rows) S1 hsz ⟨ht,hrs.1,hf.good⟩ ?_ ?_
    ·show max (ay rs) (ay f.rows)+1+gs'.length≤7
     have:=mx hrs.2 hnest
     rw [Nat.add_max_add_right,List.length_append] at this;exact n1 this (by simp +arith only [List.length_singleton])
    ·show ((lns rs++rA::(lns f.rows++[o9])).length+1)≤f.wt
     unfold Fr.wt
     rw [hfs,List.length_append,List.length_cons,List.length_append,List.length_singleton]
     exact by simp +arith only
 ·rw [hwd,hfst] at hfc
  have wrest:∀(hp2:List MO) (rows:List Rw),Stk L hp2 st gs→(∀h0:List MO,h0.length≤L→h0<+:hp→h0<+:hp2)→hp2[f.a]?=some (.list [.str eP,t.mv,.ref f.ra,.bool f.sec,.none])→hp2[f.ra]?=some (.list (mvs rows))→gps p rows→ay rows+gs.length≤7→(lns rows).length≤(lns f.rows).length+1→
    aP K N [ja (.tup [.cst (.str eP),.idx (.var 1) (.cst (.int 1)),.blt .tuple [.idx (.var 1) (.cst (.int 2))]])] (fin Q) (xin X) ⟨[some (.ref st),some (.ref f.a)],hp2⟩:=by
   intro hp2 rows S2 h2 e1 e2 hgr hnr hlr
   have S2':=S2
   rw [eg] at S2'
   refine nR (r:=.wh t rows) S2' hgw hB' (fun Q hq=>?_) ?_
   ·conv=>whnf
    refine ai e1 ?_
    refine ai e1 ?_
    refine ai e2 ?_
    exact hq
   ·refine fin_row hp2 (.wh t rows) S2 h2 ⟨ht,hgr⟩ (by show ay rows+1+gs'.length≤7;exact n2 hnr (Nat.le_of_eq hgl.symm) (by simp +arith only)) ?_
    show ((lns rows++[o9]).length+1)≤f.wt
    rw [List.length_append,List.length_singleton]
    exact n2 hlr hwt (by simp +arith only)
  have hend:=wrest hp1 f.rows S1 hsz hfc F1.2 hf.good hnest (Nat.le_succ _)
  refine ai hfc ?_
  refine ai hfc ?_
  cases t with
  | num k=>exact hend
  | nm s=>exact hend
  | op c a b=>
   refine si (fun q=>?_) fun q=>?_
   ·exact hend
   ·refine ai hfc ?_
    cases a with
    | num k=>exact hend
    | op c' x y=>
     refine dP (show ([c']==mF)=false by simp) ?_
     exact hend
    | nm s=>
     have hs:p s:=ht.1.2.1
     refine ai hfc ?_
     refine aC (aH F1.2) ?_
     refine ai hfc ?_
     refine ai hfc ?_
     refine bg (bf F1.2) ?_
     refine ⟨rH (show f.wt≤B by lia) hB',?_⟩
     have hgood:(Tm.op 43 (.nm s) (.num 1)).gp p:=⟨⟨.inl rfl,hs,by decide,by decide⟩,by show 1≤3;decide⟩
     refine wrest _ (f.rows++[.set s (.op 43 (.nm s) (.num 1))]) (S1.other hn.2.1 fun g hg=>?_) (fun h0 q1 q2=>aR (hsz h0 q1 q2) (n2 q1 hn.2.2.2 (by simp +arith only))) (ap (Nat.ne_of_lt (n1 hn.1 (by simp +arith only))) hfc) ?_ (jV hf.good (show gps p [.set s _] from ⟨⟨hs,hgood⟩,trivial⟩)) ?_ ?_
     ·have h1:=hlast g hg
      have h2:=(S1.ne g hg).1
      exact ⟨Nat.ne_of_gt h1,Nat.ne_of_gt (n2 h2 h1 (by simp +arith only))⟩
     ·rw [f5];exact get_set F1.2
     ·have:ay (f.rows++[.set s (.op 43 (.nm s) (.num 1))])≤ay f.rows:=f6 (Nat.le_refl _) (Nat.zero_le _)
      exact n2 this hnest (by simp +arith only)
     ·rw [iE,rC,List.length_append];exact Nat.le_refl _
end Internal
end
section
namespace Internal
variable {K:KT}
theorem Dn {n i:Nat}{X:XM}{m:MS}{e:ME}(h:PB K n X m e){Q:Fl→MS→Prop}(hq:∀b,Q .next (m.set i (.bool b))):wpS K n (.asg [i] false e) Q X m:=h _ fun b=>hq b
structure At (L:Nat)(h0:List MO)(r:Nat)(ss:List (List Nat))(hp:List MO)(st:Nat)(fs:List Fr):Prop where
 S:Stk L hp st fs
 O:Oks (·∈ss) fs
 ne:fs≠[]
 len:fs.length≤8
 pre:h0<+:hp
 L0:h0.length≤L
 nm:h0[r]?=some (.list (ss.map .str))
 ten:ss.length=10
 gn:∀s∈ss,Gn s
section
variable {L st r:Nat}{h0 hp hp':List MO}{ss:List (List Nat)}{fs:List Fr}
theorem At.up (A:At L h0 r ss hp st fs)(e:hp<+:hp'):At L h0 r ss hp' st fs:=⟨A.S.up e,A.O,A.ne,A.len,A.pre.trans e,A.L0,A.nm,A.ten,A.gn⟩
theorem At.names (A:At L h0 r ss hp st fs):hp[r]?=some (.list (ss.map .str)):=aj A.pre A.nm
noncomputable def iK (ss:List (List Nat))(hp:List MO)(i:Nat):Prop:=∃sl:List (List Nat),hp[i]?=some (.list (sl.map .str))∧sl≠[]∧∀s∈sl,s∈ss
theorem iK.up {i:Nat}(h:iK ss hp i)(e:hp<+:hp'):iK ss hp' i:=let ⟨sl,h1,h2⟩:=h;⟨sl,aj e h1,h2⟩
theorem mJ (ht:ss.length=10)(hp:List MO):iK ss (hp++[.list (aF (ss.map MV.str) (some 5) none)]) hp.length:=
 ⟨ss.drop 5,by rw [af,bQ (by decide),List.map_drop];rfl,(fun e=>by have:=congrArg List.length e;rw [List.length_drop,ht] at this;cases this),fun s hs=>List.mem_of_mem_drop hs⟩
theorem tT (ht:ss.length=10)(hp:List MO):iK ss (hp++[.list (aF (ss.map MV.str) none (some 5))]) hp.length:=
 ⟨ss.take 5,by rw [af,cj (by decide),List.map_take];rfl,(fun e=>by have:=congrArg List.length e;rw [List.length_take,ht] at this;cases this),fun s hs=>List.mem_of_mem_take hs⟩
theorem At.all (A:At L h0 r ss hp st fs):iK ss hp r:=⟨ss,A.names,(fun e=>by have:=A.ten;rw [e] at this;cases this),fun s h=>h⟩
theorem At.row (A:At L h0 r ss hp st fs){gs:List Fr}{f:Fr}(e:fs=gs++[f]){w:Rw}(hg:w.gp (·∈ss))(hn:w.nest=0):At L h0 r ss (hp.set f.ra (.list (mvs f.rows++[w.mv]))) st (gs++[{ f with rows:=f.rows++[w] }]):=by
 obtain ⟨S,O,ne,len,pre,L0,nm,ten,gn⟩:=A
 subst e
 obtain ⟨O1,hf⟩:=O.init
 have hL:=(S.ne f (List.mem_append_right _ (List.mem_singleton.mpr rfl))).2.2.2
 refine ⟨S.add w,O1.snoc (hf.add hg ?_),by simp,by simpa using len,aR pre (Nat.le_trans L0 hL),L0,nm,ten,gn⟩
 have:=hf.nest
 exact n2 this (Nat.le_of_eq hn) (by simp +arith only)
theorem At.frame (A:At L h0 r ss hp st fs)(hl:fs.length<8){wd:List Nat}{t:Tm}{b:Bool}(ht:t.gp (·∈ss))(hwd:wd=wIf∨wd=eP) :
  At L h0 r ss ((hp++[MO.list []]++[MO.list [.str wd,t.mv,.ref hp.length,.bool b,.none]]).set st (.list (cH fs++[.ref (hp++[MO.list []]).length]))) st (fs++[⟨(hp++[MO.list []]).length,hp.length,wd,some t,[],b,none⟩]):=by
 obtain ⟨S,O,ne,len,pre,L0,nm,ten,gn⟩:=A
 have hlt:∀{i o},hp[i]?=some o→i<hp.length:=fun e=>(List.getElem?_eq_some_iff.mp e).1
 have hst:=hlt S.at_
 have hlo:=S.lo
 have hup:hp<+:hp++[.list []]++[.list [.str wd,t.mv,.ref hp.length,.bool b,.none]]:=aa (aa (ak _))
 have F2:lm (hp++[.list []]++[.list [.str wd,t.mv,.ref hp.length,.bool b,.none]]) ⟨(hp++[MO.list []]).length,hp.length,wd,some t,[],b,none⟩:=⟨af _ _,ah (af _ _)⟩
 refine ⟨(S.up hup).push F2 (fun g hg=>hlt (S.fr g hg).1) ⟨by show hp.length<(hp++[MO.list []]).length;simp,by show hp.length≠st;exact Nat.ne_of_gt hst,by show (hp++[MO.list []]).length≠st;simp;exact Nat.ne_of_gt (n1 hst (by simp +arith only)),by show L≤hp.length;exact n2 hlo hst (by simp +arith only)⟩,O.snoc ⟨trivial,by show 0+fs.length≤7;exact n1 hl (by simp +arith only),(fun rs e=>by cases e),.inr ⟨t,rfl,ht,hwd.imp id fun h=>⟨h,rfl⟩⟩⟩,by simp,by simp;exact n1 hl (by simp +arith only),aR (pre.trans hup) (n2 hlo L0 (by simp +arith only)),L0,nm,ten,gn⟩
end
variable (hK:aV PP K)
include hK
theorem jb {L st r:Nat}{h0 hp:List MO}{ss:List (List Nat)}{fs:List Fr}(A:At L h0 r ss hp st fs)(hl:fs.length<8){wd:List Nat}{t:Tm}{b:Bool}(ht:t.gp (·∈ss))(hwd:wd=wIf∨wd=eP){M:Nat}{Q:MV→List MO→Prop}{X:XM}{v1 v2 v3 v4 v5:Option MV}{vs:List (Option MV)}
  (hq:∀hp' fs',At L h0 r ss hp' st fs'→wts fs'≤wts fs+4→Q .none hp') :
  aP K M [.expr (.mth .append (.var 0) [.list [.cst (.str wd),.var 6,.list [],.var 7,.cst .none]])] (fin Q) X ⟨some (.ref st)::v1::v2::v3::v4::v5::some t.mv::some (.bool b)::vs,hp⟩:=by
 have B:=A.frame hl (b:=b) ht hwd
 refine aC (aH A.S.at_) ?_
 refine bg (bf (ah (ah A.S.at_))) ?_
 refine ⟨Nat.lt_of_lt_of_le (show (cH fs).length<9 by simp [cH];exact Nat.le_trans hl (nb rfl)) (aL (by decide)),?_⟩
 refine hq _ _ B ?_
 rw [bR]
 exact Nat.le_refl _
omit hK in
theorem Gy {j:Nat}(h:j<4):∃w:Int,[MV.int 0,MV.int 4,MV.int 8,MV.int 0][j]?=some (.int w):=by
 have:j=0∨j=1∨j=2∨j=3:=by lia
 rcases this with rfl | rfl | rfl | rfl<;>exact ⟨_,rfl⟩
end Internal
end
section
namespace Internal
variable {K:KT}(hK:aV PP K)
include hK
omit hK in
noncomputable def PC (K:KT)(n:Nat)(X:XM)(m:MS)(e:ME)(φ:Prop):Prop:=∀Q:PQ,(∀b,(b=true→φ)→Q (.bool b) m)→wpE K n e Q X m
omit hK in
theorem Dp {n:Nat}{X:XM}{m:MS}{a e:ME}{φ:Prop}(ha:PB K n X m a)(he:PC K n X m e φ):PC K n X m (.and [a,e]) φ:=fun Q hq=>ha _ fun b=>by
 cases b with
 | true=>exact he Q hq
 | false=>exact hq false fun h=>by cases h
omit hK in
theorem zM {n:Nat}{X:XM}{m:MS}{a e c:ME}{φ:Prop}(ha:PB K n X m a)(he:PC K n X m e φ)(hc:PB K n X m c):PC K n X m (.and [a,e,c]) φ:=fun Q hq=>ha _ fun b=>by
 cases b with
 | true=>
  refine he _ fun b hb=>?_
  cases b with
  | true=>exact hc Q fun b'=>hq b' fun _=>hb rfl
  | false=>exact hq false fun h=>by cases h
 | false=>exact hq false fun h=>by cases h
omit hK in
theorem qI {n:Nat}{X:XM}{m:MS}{c:ME}{φ:Prop}{a b:List MSt}{Q:Fl→MS→Prop}(hc:PC K n X m c φ)(ha:φ→aP K n a Q X m)(hb:aP K n b Q X m):wpS K n (.ite c a b) Q X m:=
 hc _ fun t h=>by
  cases t with
  | true=>exact ha (h rfl)
  | false=>exact hb
omit hK in
theorem xh {n st:Nat}{X:XM}{vs:List (Option MV)}{hp:List MO}{fs:List Fr}(h:hp[st]?=some (.list (cH fs))):PC K n X ⟨some (.ref st)::vs,hp⟩ (.cmp .lt (.blt .len [.var 0]) (.cst (.int 8))) (fs.length<8):=fun Q hq=>by
 refine ax h ?_
 refine hq _ fun e=>?_
 have:=of_decide_eq_true e
 simp [cH] at this
 lia
omit hK in
theorem zO {n st:Nat}{X:XM}{vs:List (Option MV)}{hp:List MO}{fs:List Fr}(h:hp[st]?=some (.list (cH fs))):PC K n X ⟨some (.ref st)::vs,hp⟩ (.cmp .gt (.blt .len [.var 0]) (.cst (.int 1))) (1<fs.length):=fun Q hq=>by
 refine ax h ?_
 refine hq _ fun e=>?_
 have:=of_decide_eq_true e
 simp [cH] at this
 lia
theorem rI {L st r:Nat}{h0 hp:List MO}{ss:List (List Nat)}{fs:List Fr}(A:At L h0 r ss hp st fs){B M:Nat}(hB:wts fs+5≤B)(hB':B≤2000)(hM:1≤M){more mode way:Int}{dark sec shut:Bool}{t:Tm}(ht:t.gp (·∈ss))(hmode:mode=0∨mode=1∨mode=2){Q:MV→List MO→Prop}{X:XT}
  (hq:∀hp' fs',At L h0 r ss hp' st fs'→wts fs'≤wts fs+5→Q .none hp') :
  aP K M (eN.body.drop 5) (fin Q) (xin X) ⟨[some (.ref st),some (.ref r),some (.int more),some (.int mode),some (.int way),some (.bool dark),some t.mv,some (.bool sec),some (.bool shut),none,none],hp⟩:=by
 refine e21 (nQ A.ne) fun gs f ef=>?_
 have hfB:f.wt≤B:=by rw [ef,bR] at hB;exact n1 hB (by simp +arith only)
 have put:∀{hp1:List MO} {w:Rw} {e:ME} {vs:List (Option MV)},hp<+:hp1→w.gp (·∈ss)→w.nest=0→w.lines.length=1→(∀Q:PQ,Q w.mv ⟨some (.ref st)::vs,hp1⟩→wpE K M e Q (xin X) ⟨some (.ref st)::vs,hp1⟩)→aP K M [ja e] (fin Q) (xin X) ⟨some (.ref st)::vs,hp1⟩:=by
  intro hp1 w e vs hpre hg hn hl he
  have A1:=A.up hpre
  have S1:=A1.S
  rw [ef] at S1
  refine nR S1 hfB hB' he ?_
  refine hq _ _ (A1.row ef hg hn) ?_
  rw [ef,bR,bR,xg,hl];exact by simp +arith only
 have setrow:∀{hp1:List MO} {i:Nat},hp<+:hp1→iK ss hp1 i→aP K M [ja (.tup [.cst (.str qB),.idx (.var 9) (.bin .mod (.bin .fdiv (.var 2) (.cst (.int 96))) (.blt .len [.var 9])),.var 6])] (fin Q) (xin X)
   ⟨[some (.ref st),some (.ref r),some (.int more),some (.int mode),some (.int way),some (.bool dark),some t.mv,some (.bool sec),some (.bool shut),some (.ref i),none],hp1⟩:=by
  intro hp1 i hpre h1
  refine e13 h1 fun sl e1 hne hsub=>?_
  have hpos:0<sl.length:=List.length_pos_iff.mpr hne
  have hx:0≤more / 96 % (sl.length:Int)∧more / 96 % (sl.length:Int)<sl.length:=⟨Int.emod_nonneg _ (cne hpos),Int.emod_lt_of_pos _ (lw hpos)⟩
  have hk:(more / 96 % (sl.length:Int)).toNat<sl.length:=tn (z1 hx.1 (by simp +arith only)) (z1 hx.2 (by simp +arith only))
  refine put (w:=.set (sl[(more / 96 % (sl.length:Int)).toNat]'hk) t) hpre ⟨hsub _ (List.getElem_mem _),ht⟩ rfl rfl fun Q hq=>?_
  refine ax e1 ?_
  rw [List.length_map]
  refine aC (decide_eq_true (z2 hx.1 hx.2 (by simp +arith only))) ?_
  refine ai e1 ?_
  delta dW onO;try dsimp only
  rw [bi hx.1 (by rw [List.length_map];exact hx.2)]
  dsimp only
  rw [List.getElem?_map,List.getElem?_eq_getElem hk]
  exact hq
 refine dC (cF rfl .lt (.inr (.inr rfl))) ?_ ?_
 ·have after:∀{hp1:List MO} {i:Nat},hp<+:hp1→iK ss hp1 i→aP K M [.ite (.var 8) [.asg [9] false (.sl (.var 1) (some (.cst (.int 5))) none)] [],ja (.tup [.cst (.str qB),.idx (.var 9) (.bin .mod (.bin .fdiv (.var 2) (.cst (.int 96))) (.blt .len [.var 9])),.var 6])] (fin Q) (xin X)
    ⟨[some (.ref st),some (.ref r),some (.int more),some (.int mode),some (.int way),some (.bool dark),some t.mv,some (.bool sec),some (.bool shut),some (.ref i),none],hp1⟩:=by
   intro hp1 i hpre h1
   refine dC (i6 rfl) ?_ (setrow hpre h1)
   refine ai ((A.up hpre).names) ?_
   exact setrow (aa hpre) (mJ A.ten hp1)
  conv=>whnf
  dsimp only
  refine ai A.names ?_
  refine ai (ah A.names) ?_
  conv=>whnf
  dsimp only [MS.push]
  rw [af]
  delta dW onO;try dsimp only
  refine bu (iA) (jR) ?_
  have hpre3:hp<+:hp++[MO.list (aF (ss.map MV.str) none (some 5))]++[MO.list (aF (ss.map MV.str) (some 5) none)]++[MO.list [.ref hp.length,.ref (hp++[MO.list (aF (ss.map MV.str) none (some 5))]).length]]:=aa (aa (aa (ak _)))
  have hk:∃k,sel (more / 7 % 4==3) (MV.ref hp.length) (.ref (hp++[MO.list (aF (ss.map MV.str) none (some 5))]).length)=.ref k∧iK ss (hp++[MO.list (aF (ss.map MV.str) none (some 5))]++[MO.list (aF (ss.map MV.str) (some 5) none)]++[MO.list [.ref hp.length,.ref (hp++[MO.list (aF (ss.map MV.str) none (some 5))]).length]]) k:=by
   cases (more / 7 % 4==3)
   ·exact ⟨_,rfl,(tT A.ten hp).up (aa (aa (ak _)))⟩
   ·exact ⟨_,rfl,(mJ A.ten _).up (aa (ak _))⟩
  refine e12 hk fun k ek hk=>?_
  rw [ek]
  conv=>whnf
  dsimp only [MS.push]
  rw [af]
  have hr:=A.all
  rcases hmode with rfl | rfl | rfl
  ·exact after (aa hpre3) (hr.up (aa hpre3))
  ·exact after (aa hpre3) (hr.up (aa hpre3))
  ·exact after (aa hpre3) (hk.up (aa (ak _)))
 ·show wpS K M _ _ _ _
  refine dC (fF (cF rfl .eq (.inl rfl)) (xe (i6 rfl))).1 ?_ ?_
  ·exact put (w:=.tell t) (ak _) ht rfl rfl fun Q hq=>hq
  ·show wpS K M _ _ _ _
   refine dC (cF rfl .eq (.inl rfl)) ?_ ?_
   ·exact put (w:=.skip) (ak _) trivial rfl rfl fun Q hq=>hq
   ·show wpS K M _ _ _ _
    refine qI (Dp (cF rfl .lt (.inr (.inr rfl))) (xh A.S.at_)) (fun hl=>?_) ?_
    ·exact jb hK A hl ht (.inl rfl) fun hp' fs' A' h'=>hq hp' fs' A' (n1 h' (by simp +arith only))
    ·show wpS K M _ _ _ _
     refine qI (zM (cF rfl .lt (.inr (.inr rfl))) (xh A.S.at_) (xe (i6 rfl))) (fun hl=>?_) ?_
     ·show wpS K M _ _ _ _
      refine dC (fF (cF rfl .eq (.inl rfl)) (nM rfl (by decide) (by decide) .gt (.inr rfl))).1 ?_ ?_
      ·have hk:(more / 384 % 5).toNat<ss.length:=by rw [A.ten];exact emN rfl
       have hg:(Tm.op 60 (.nm (ss[(more / 384 % 5).toNat]'hk)) (.num (1+more / 1920 % 4))).gp (·∈ss):=⟨⟨.inr (.inr (.inr (.inl rfl))),List.getElem_mem _,by lia,by lia⟩,by show 1≤3;decide⟩
       refine ai A.names ?_
       delta dW onO;try dsimp only
       rw [bi (em0 rfl) (by rw [List.length_map];exact (Int.toNat_lt (em0 rfl)).mp hk)]
       dsimp only
       rw [List.getElem?_map,List.getElem?_eq_getElem hk]
       exact jb hK A hl hg (.inr rfl) fun hp' fs' A' h'=>hq hp' fs' A' (n1 h' (by simp +arith only))
      ·exact jb hK A hl ht (.inr rfl) fun hp' fs' A' h'=>hq hp' fs' A' (n1 h' (by simp +arith only))
     ·show wpS K M _ _ _ _
      refine qI (zO A.S.at_) (fun hl=>?_) (hq hp fs A (by simp +arith only))
      obtain ⟨M,rfl⟩:∃M',M=M'+1:=⟨M-1,sb hM⟩
      have S1:=A.S
      have O1:=A.O
      rw [ef] at S1 O1
      have hgs:gs≠[]:=fun e=>by rw [ef,e] at hl;exact absurd hl (Nat.lt_irrefl 1)
      refine pe hK S1 O1 hgs (B:=B) (by rw [←ef];exact n1 hB (by simp +arith only)) hB' fun hp' fs' S' O' n' l' w' c' p'=>?_
      rw [←ef] at l' w'
      exact hq hp' fs' ⟨S',O',n',Nat.le_trans l' A.len,p' h0 A.L0 A.pre,A.L0,A.nm,A.ten,A.gn⟩ (n1 w' (by simp +arith only))
theorem E7 {L st r:Nat}{h0 hp:List MO}{ss:List (List Nat)}{fs:List Fr}(A:At L h0 r ss hp st fs){B N:Nat}(hB:wts fs+5≤B)(hB':B≤2000)(hN:9≤N){more mode:Int}(hmode:mode=0∨mode=1∨mode=2){Q:MV→List MO→Prop}{X:XT}
  (hq:∀hp' fs',At L h0 r ss hp' st fs'→wts fs'≤wts fs+5→Q .none hp'):K N 40 [.ref st,.ref r,.int more,.int mode] Q X hp:=by
 obtain ⟨M,rfl,hM⟩:=room (k:=8) (show 8<N by lia)
 refine hK _ _ _ _ _ _ eN rfl rfl ?_
 refine aJ (aG A.S.at_) ?_
 refine rD (fun w=>⟨[some (.ref st),some (.ref r),some (.int more),some (.int mode),some (.int (more % 12)),none,none,none,none,none,w],hp⟩) (fun _=>True) none rfl trivial (fun _ _=>A.S.at_) (fun j y w P hy _ h1 h2=>?_) (fun a w _=>?_)
 ·obtain ⟨f,ef,rfl⟩:=Option.map_eq_some_iff.mp (List.getElem?_map ..▸hy)
  refine ai ((A.S.fr f (List.mem_of_getElem? ef)).1) ?_
  conv=>whnf
  cases f.sec with
  | true=>exact h1 _ _ trivial
  | false=>exact h2 _ trivial
 ·refine .nil _ _ a rfl rfl (ah (af _ _)) (af _ _) ?_
  have A1:=A.up (aa (o:=.list []) (aa (o:=.list a) (ak hp)))
  refine zL hK A1.names A1.gn hM fun hp2 t b hpre ht=>?_
  have hpre:hp++[.list a]++[.list []]<+:hp2:=hpre
  have A2:=A1.up hpre
  refine ⟨rfl,?_⟩
  change aP K M (eN.body.drop 3) (fin Q) _ ⟨[some (.ref st),some (.ref r),some (.int more),some (.int mode),some (.int (more % 12)),some (.bool (!a.isEmpty)),some t.mv,some (.bool b),none,none,none],hp2⟩
  refine Dn (fF (cF rfl .eq (.inl rfl)) (fF (i6 rfl) (i6 rfl)).2).1 fun shut=>?_
  refine dC (cF rfl .eq (.inl rfl)) ?_ (rI hK A2 hB hB' (Nat.le_trans (nb rfl) hM) ht hmode hq)
  conv=>whnf
  dsimp only [MS.push,MS.set]
  rw [af]
  delta dW onO;try dsimp only
  rw [bi (em0 rfl) (by show _<(4:Int);exact em2 rfl)]
  refine e11 (Gy (j:=(more / 7 % 4).toNat) (emN rfl)) fun w' ew=>?_
  refine fb ew ?_
  exact rI hK (A2.up (aa (ak _))) hB hB' (Nat.le_trans (nb rfl) hM) ht hmode hq
end Internal
end
section
namespace Internal
variable {N:Nat}{Q:MV→List MO→Prop}{h:List MO}
variable {K:KT}(hK:aV PP K)
include hK
omit hK in
theorem tU (x:Int):dU (mix x):=by
 have:=zn x
 obtain ⟨n,hn⟩:=Int.eq_ofNat_of_zero_le this.1
 unfold dU
 rw [hn]
 exact Nat.lt_of_lt_of_le (Int.ofNat_lt.mp (hn▸this.2)) (nb rfl)
omit hK in
theorem At.base {L st r:Nat}{h0 hp:List MO}{ss:List (List Nat)}{f:Fr}(A:At L h0 r ss hp st [f]):hp[f.ra]?=some (.list (mvs f.rows))∧hp[f.a]?=some (.list f.cells)∧gps (·∈ss) f.rows∧ay f.rows≤7:=
 have h:=A.S.fr f (List.mem_singleton.mpr rfl)
 have o:=A.O 0 f rfl
 ⟨h.2,h.1,o.good,by have:=o.nest;exact this⟩
theorem tV {L st r:Nat}{h0 hp:List MO}{ss:List (List Nat)}{fs:List Fr}(A:At L h0 r ss hp st fs){M:Nat}(hM:1≤M){B:Nat}(hB':B≤2000)(hB:wts fs≤B){v0 v1 v2:Option MV}{vs:List (Option MV)}{X:XT}
  (hq:∀hp' i rows,h0<+:hp'→hp'[i]?=some (.list (mvs rows))→gps (·∈ss) rows→ay rows≤7→(lns rows).length≤B→Q (.ref i) hp') :
  aP K M (cU.body.drop 2) (fin Q) (xin X) ⟨v0::v1::v2::some (.ref st)::vs,hp⟩:=by
 refine ⟨cls fs+1,fY (fun k m=>∃hp fs,m=⟨v0::v1::v2::some (.ref st)::vs,hp⟩∧At L h0 r ss hp st fs∧wts fs≤B∧cls fs+1≤k) (fun m hI=>by obtain ⟨_,_,_,_,_,h⟩:=hI;exact nf (n1 h (by simp +arith only))) (fun k m W hI hW=>?_) _ _ ⟨hp,fs,rfl,A,hB,Nat.le_refl _⟩⟩
 obtain ⟨hp,fs,rfl,A,hB,hk⟩:=hI
 refine e21 (nQ A.ne) fun gs f ef=>?_
 refine ax A.S.at_ ?_
 conv=>whnf
 cases gs with
 | nil=>
  subst ef
  refine e04 A.base fun b1 b2 b3 b4=>?_
  refine ai A.S.at_ ?_
  refine ai b2 ?_
  refine hq hp f.ra f.rows A.pre b1 b3 b4 ?_
  have:wts ([]++[f])=f.wt+0:=rfl
  have:(lns f.rows).length+4≤f.wt:=by unfold Fr.wt;exact by simp +arith only
  lia
 | cons g gs=>
  have hl:(1:Int)<(cH fs).length:=by rw [ef];simp [cH];lia
  rw [decide_eq_true hl]
  obtain ⟨M,rfl⟩:∃M',M=M'+1:=⟨M-1,sb hM⟩
  have S1:=A.S
  have O1:=A.O
  rw [ef] at S1 O1
  refine pe hK S1 O1 (List.cons_ne_nil _ _) (B:=B) (by rw [←ef];exact hB) hB' fun hp' fs' S' O' n' l' w' c' p'=>?_
  rw [←ef] at l' w' c'
  exact hW _ ⟨hp',fs',rfl,⟨S',O',n',Nat.le_trans l' A.len,p' h0 A.L0 A.pre,A.L0,A.nm,A.ten,A.gn⟩,n2 w' hB (by simp +arith only),n2 c' hk (by simp +arith only)⟩
theorem zP {rc r:Nat}{cells:List Int}{ss:List (List Nat)}{loose:Int}(hc:h[rc]?=some (.list (cells.map .int)))(hr:h[r]?=some (.list (ss.map .str)))(ten:ss.length=10)(gn:∀s∈ss,Gn s)(hz:cells.length≤63)(hN:10≤N){X:XT}
  (hq:∀hp' i rows,h<+:hp'→hp'[i]?=some (.list (mvs rows))→gps (·∈ss) rows→ay rows≤7→(lns rows).length≤4+5 * cells.length→Q (.ref i) hp'):K N 41 [.ref rc,.ref r,.int loose] Q X h:=by
 obtain ⟨M,rfl,hM⟩:=room (k:=9) (show 9<N by lia)
 have e1:(h++[MO.list []]).length=h.length+1:=by simp
 have e2:(h++[MO.list []]++[MO.list [.str [],.none,.ref h.length,.bool false,.none]]).length=h.length+2:=by simp
 have A0:At h.length h r ss (h++[MO.list []]++[MO.list [.str [],.none,.ref h.length,.bool false,.none]]++[MO.list [.ref (h++[MO.list []]).length]]) (h++[MO.list []]++[MO.list [.str [],.none,.ref h.length,.bool false,.none]]).length [⟨(h++[MO.list []]).length,h.length,[],none,[],false,none⟩]:=by
  refine ⟨⟨af _ _,fun f hf=>?_,List.pairwise_singleton ..,fun f hf=>?_,by rw [e2];exact by simp +arith only⟩,fun i f e=>?_,List.cons_ne_nil _ _,Nat.le_of_ble_eq_true rfl,aa (aa (aa (ak _))),Nat.le_refl _,hr,ten,gn⟩
  ·rw [List.mem_singleton.mp hf]
   exact ⟨ah (af _ _),ah (ah (af _ _))⟩
  ·rw [List.mem_singleton.mp hf,e1,e2]
   exact ⟨by show h.length<h.length+1;exact by simp +arith only,by show h.length≠h.length+2;lia,by show h.length+1≠h.length+2;lia,Nat.le_refl _⟩
  ·cases i with
   | zero=>cases e;exact ⟨trivial,Nat.zero_le _,(fun rs e=>by cases e),.inl rfl⟩
   | succ i=>cases e
 refine hK _ _ _ _ _ _ cU rfl rfl ?_
 conv=>whnf
 dsimp only [dm,MS.set,MS.push]
 refine aJ (mB (aj A0.pre hc)) ?_
 generalize (h++[MO.list []]++[MO.list [.str [],.none,.ref h.length,.bool false,.none]]).length=st at *
 refine iw (fun j w4 w5 w6 w7 hp fs=>⟨[some (.ref rc),some (.ref r),some (.int loose),some (.ref st),w4,w5,w6,w7],hp⟩) (fun j w4 w5 w6 w7 hp fs=>At h.length h r ss hp st fs∧wts fs≤4+5 * j)
  _ _ _ _ _ _ rfl ⟨A0,Nat.le_refl 4⟩ (fun _ _ _ _ _ _ _ hI=>aj hI.1.pre hc) (fun j y w4 w5 w6 w7 hp fs P hy hI hn _=>?_) (fun w4 w5 w6 w7 hp fs hI=>?_)
 ·obtain ⟨A,hw⟩:=hI
  obtain ⟨z,hz1,rfl⟩:=nG hy
  obtain ⟨c,hc1,rfl⟩:=Option.map_eq_some_iff.mp (List.getElem?_map ..▸hz1)
  have hj:j<cells.length:=(List.getElem?_eq_some_iff.mp hc1).1
  have hc':=aj A.pre hc
  have last:∀more mode:Int,mode=0∨mode=1∨mode=2→aP K M [.expr (.call 40 [.var 3,.var 1,.var 6,.var 7])] P (xin X) ⟨[some (.ref rc),some (.ref r),some (.int loose),some (.ref st),some (.int j),some (.int c),some (.int more),some (.int mode)],hp⟩:=fun more mode hm=>by
   refine E7 hK A (B:=2000) (by lia) (Nat.le_refl _) hM hm fun hp' fs' A' hw'=>?_
   exact hn _ _ _ _ _ _ ⟨A',n2 hw' hw (by simp +arith only)⟩
  have second:∀more mode:Int,mode=0∨mode=1→aP K M [.ite (.and [.cmp .gt (.var 2) (.cst (.int 1)),.cmp .eq (.var 4) (.bin .mod (.var 2) (.blt .len [.var 0]))]) [.asg [7] false (.cst (.int 2))] [],.expr (.call 40 [.var 3,.var 1,.var 6,.var 7])] P (xin X) ⟨[some (.ref rc),some (.ref r),some (.int loose),some (.ref st),some (.int j),some (.int c),some (.int more),some (.int mode)],hp⟩:=fun more mode hm=>by
   refine dC (fF (cF rfl .gt (.inr (.inl rfl))) fun Q hq=>?_).1 (last more 2 (.inr (.inr rfl))) (last more mode (by lia))
   refine ax hc' ?_
   refine aC (decide_eq_true (by rw [List.length_map];exact lw (n1 hj (by simp +arith only)))) ?_
   exact hq _
  refine ⟨rfl,?_⟩
  refine ⟨.inl (by unfold dU;decide),?_⟩
  obtain ⟨M,rfl⟩:∃M',M=M'+1:=⟨M-1,sb (n1 hN (by simp +arith only))⟩
  refine db hK ?_
  refine ⟨.inl (tU _),?_⟩
  refine db hK ?_
  change aP K (M+1) [_,_,_,_] P _ ⟨[some (.ref rc),some (.ref r),some (.int loose),some (.ref st),some (.int j),some (.int c),some (.int _),w7],hp⟩
  refine dC (fF (cF rfl .eq (.inl rfl)) (nM rfl (by decide) (by decide) .eq (.inl rfl))).1 (second _ 1 (.inr rfl)) (second _ 0 (.inl rfl))
 ·refine e02 hI fun A hw=>?_
  rw [wO,List.length_map] at hw
  exact tV hK A (Nat.le_trans (nb rfl) hM) (B:=4+5 * cells.length) (by lia) hw hq
end Internal
end
section
namespace Internal
variable {N:Nat}{Q:MV→List MO→Prop}{X:XT}{h:List MO}
noncomputable abbrev zQ:List Nat:=[110,111,117,103,104,116]
noncomputable def Rw.ft:Rw→Tm
 | .set _ t=>t
 | .tell t=>t
 | .skip=>.num 0
 | .ite t _ _=>t
 | .wh t _=>t
noncomputable abbrev Txt:=List Nat
noncomputable def rn:Tm→List Txt
 | .op c a b=>rn a++rn b++(match c==47 with
  | true=>an b
  | false=>[])
 | _=>[]
noncomputable def dvs:Tm→Bool
 | .op c a b=>c==47||(dvs a||dvs b)
 | _=>false
theorem AK:∀{t:Tm}{x:Txt},x∈rn t→x∈an t
 | .num _,x,h=>aN h
 | .nm _,x,h=>aN h
 | .op c a b,x,h=>by
  show x∈an a++an b
  rcases List.mem_append.mp (show x∈rn a++rn b++_ from h) with h | h
  ·exact (List.mem_append.mp h).elim (fun h=>List.mem_append_left _ (AK h)) fun h=>List.mem_append_right _ (AK h)
  ·cases q:c==47 with
   | true=>rw [q] at h;exact List.mem_append_right _ h
   | false=>rw [q] at h;exact aN h
noncomputable abbrev ES:=List (List Nat × MV)
theorem ph {c i:Nat}{x:List Nat}{hp:List MO}{es:List (List Nat × MV)}(e:hp[i]?=some (.attrs es))(hx:(bn es x).isNone=true):xV c x (.inst c i) hp=true:=by
 show (match hp[i]? with
  | some (.attrs es)=>c==c&&(bn es x).isNone
  | _=>false)=true
 rw [e]
 show (c==c&&(bn es x).isNone)=true
 rw [hx,beq_self_eq_true];rfl
theorem pj:∀{es:List (List Nat × MV)}{k:List Nat}{v:MV},k∉es.map (·.1)→cG es k v=es++[(k,v)]
 | [],_,_,_=>rfl
 | (a,w)::es,k,v,h=>by
  have h1:(a==k)=false:=by
   cases q:a==k with
   | false=>rfl
   | true=>exact absurd (by rw [eq_of_beq q];exact .head _) h
  show (match a==k with | true=>_ | false=>_)=_
  rw [h1]
  show (a,w)::cG es k v=(a,w)::(es++[(k,v)])
  rw [pj fun q=>h (.tail _ q)]
theorem qJ:∀{es:List (List Nat × MV)}{k:List Nat},k∈es.map (·.1)→∃v,bn es k=some v∧(k,v)∈es
 | [],k,h=>aN h
 | (a,w)::es,k,h=>by
  show ∃v,(match a==k with | true=>some w | false=>bn es k)=some v∧_
  cases q:a==k with
  | true=>rw [eq_of_beq q];exact ⟨w,rfl,.head _⟩
  | false=>
   rcases List.mem_cons.mp h with e | h
   ·rw [e,beq_self_eq_true] at q;exact tf q
   ·obtain ⟨v,h1,h2⟩:=qJ h;exact ⟨v,h1,.tail _ h2⟩
theorem AL:∀{es:List (List Nat × MV)}{k:List Nat}{v:MV},bn es k=some v→(k,v)∈es
 | [],k,v,h=>az h
 | (a,w)::es,k,v,h=>by
  replace h:(match a==k with | true=>some w | false=>bn es k)=some v:=h
  cases q:a==k with
  | true=>rw [q] at h;rw [←Option.some.inj h,eq_of_beq q];exact .head _
  | false=>rw [q] at h;exact .tail _ (AL h)
theorem Dq:∀(es:List (List Nat × MV)) (x:List Nat) (v:MV) (k:List Nat),bn (cG es x v) k=if k=x then some v else bn es k
 | [],x,v,k=>by
  show (match x==k with | true=>some v | false=>none)=_
  by_cases e:k=x
  ·subst e;rw [beq_self_eq_true,if_pos rfl]
  ·rw [if_neg e,beq_eq_false_iff_ne.mpr (Ne.symm e)];rfl
 | (y,w)::r,x,v,k=>by
  have ih:=Dq r x v k
  by_cases e:y=x
  ·subst e
   show bn (match y==y with | true=>(y,v)::r | false=>(y,w)::cG r y v) k=_
   rw [beq_self_eq_true]
   show (match y==k with | true=>some v | false=>bn r k)=if k=y then some v else (match y==k with | true=>some w | false=>bn r k)
   by_cases e2:k=y
   ·subst e2;rw [beq_self_eq_true,if_pos rfl]
   ·rw [if_neg e2,beq_eq_false_iff_ne.mpr (Ne.symm e2)]
  ·show bn (match y==x with | true=>(y,v)::r | false=>(y,w)::cG r x v) k=_
   rw [beq_eq_false_iff_ne.mpr e]
   show (match y==k with | true=>some w | false=>bn (cG r x v) k)=if k=x then some v else (match y==k with | true=>some w | false=>bn r k)
   by_cases e2:y=k
   ·subst e2;rw [beq_self_eq_true,if_neg e]
   ·rw [beq_eq_false_iff_ne.mpr e2];exact ih
mutual
theorem mK:∀d:D,d.deq d=true
 | .none=>rfl
 | .bool b=>beq_self_eq_true b
 | .int i=>beq_self_eq_true i
 | .str s=>beq_self_eq_true s
 | .list xs=>gQ xs
 | .tup xs=>gQ xs
theorem gQ:∀ds:List D,D.deqs ds ds=true
 | []=>rfl
 | d::ds=>by
  show (d.deq d&&D.deqs ds ds)=true
  rw [mK d,gQ ds];rfl
end
theorem zR {hp:List MO}{x y:MV}{Q:Bool→Prop}(d:D)(h1:Rd hp x d)(h2:Rd hp y d)(h3:d.deep≤1000)(h4:d.ok=true)(h:Q true):EqP hp x y Q:=.mk d d h1 h2 h3 h4 h4 (by rw [mK];exact h)
theorem rJ {es:ES}{x:Txt}:(bn es x).isSome=true↔x∈es.map (·.1):=by
 constructor
 ·intro h
  obtain ⟨v,e⟩:=Option.isSome_iff_exists.mp h
  exact List.mem_map.mpr ⟨_,AL e,rfl⟩
 ·intro h
  refine e12 (qJ h) fun v e _=>?_
  rw [e];rfl
noncomputable abbrev E8:Txt:=[116,117,114,110]
noncomputable def ats (ab:List Tm):List Txt:=ab.flatMap fun t=>aS (an t)
noncomputable def Rw.fs:Rw→List Txt
 | .skip=>[]
 | r=>aS (an r.ft)
noncomputable def eZ (r:Rw)(ab:List Tm):List Txt:=aS (ats ab++r.fs)
theorem nS {ab:List Tm}{n:Txt}:n∈ats ab↔∃t∈ab,n∈an t:=by
 unfold ats
 rw [List.mem_flatMap]
 exact ⟨fun ⟨t,h,k⟩=>⟨t,h,aE.mp k⟩,fun ⟨t,h,k⟩=>⟨t,h,aE.mpr k⟩⟩
theorem xi {r:Rw}{n:Txt}(hr:r≠.skip):n∈r.fs↔n∈an r.ft:=by
 cases r with
 | skip=>exact absurd rfl hr
 | set s t=>exact aE
 | tell t=>exact aE
 | ite t a b=>exact aE
 | wh t a=>exact aE
theorem xj {r:Rw}{ab:List Tm}{n:Txt}(hr:r≠.skip):n∈eZ r ab↔n∈ats ab∨n∈an r.ft:=by
 unfold eZ
 rw [aE,List.mem_append,xi hr]
noncomputable abbrev Flw:=Int × Txt × Txt
noncomputable def qfl (q:Num):List Flw:=match q.2.1 with
 | .set x t=>(eZ (.set x t) q.2.2).map fun s=>(q.1,s,x)
 | _=>[]
noncomputable def bJ (qs:List Num):List Flw:=qs.flatMap qfl
inductive Rch (A B:List Txt)(fl:List Flw):Txt→Prop
 | base {x} (h:x∈B):Rch A B fl x
 | step {k s x} (h:(k,s,x)∈fl) (hs:Rch A B fl s) (hA:x∉A) (hB:x∉B):Rch A B fl x
noncomputable abbrev Lk:=Txt × List Txt
noncomputable def lk1 (A:List Txt)(r:Rw)(ab:List Tm):List Lk:=match r with
 | .set x t=>match A.contains x with
  | true=>[(qB,eZ (.set x t) ab)]
  | false=>[]
 | _=>[]
noncomputable def lk2 (r:Rw)(ab:List Tm):List Lk:=match r with
 | .tell t=>[(o6,eZ (.tell t) ab)]
 | _=>[]
noncomputable def lk3 (r:Rw)(ab:List Tm):List Lk:=match r with
 | .wh t a=>[(E8,eZ (.wh t a) ab)]
 | _=>[]
noncomputable def lk4 (r:Rw)(ab:List Tm):List Lk:=match dvs r.ft with
 | true=>[(zQ,aS (rn r.ft)++ats ab)]
 | false=>[]
noncomputable def lks (A:List Txt)(r:Rw)(ab:List Tm):List Lk:=lk1 A r ab++lk2 r ab++lk3 r ab++lk4 r ab
mutual
theorem Dr {P:Tm→Prop}:∀(r:Rw) {k:Int}{ab:List Tm},(∀q∈r.num k ab,P q.2.1.ft)→(∀t∈ab,P t)→∀q∈r.num k ab,(∀t∈q.2.2,P t)∧q.2.2.length≤ab.length+r.nest
 | .set s t,k,ab,h,ha,q,hq=>by rw [List.mem_singleton.mp hq];exact ⟨ha,Nat.le_refl _⟩
 | .tell t,k,ab,h,ha,q,hq=>by rw [List.mem_singleton.mp hq];exact ⟨ha,Nat.le_refl _⟩
 | .skip,k,ab,h,ha,q,hq=>by rw [List.mem_singleton.mp hq];exact ⟨ha,Nat.le_refl _⟩
 | .ite t a b,k,ab,h,ha,q,hq=>by
  have hb:∀u∈ab++[t],P u:=fun u hu=>(List.mem_append.mp hu).elim (ha u) fun e=>by rw [List.mem_singleton.mp e];exact h (k,.ite t a b,ab) (.head _)
  rcases List.mem_cons.mp hq with rfl | hq
  ·exact ⟨ha,Nat.le_add_right _ _⟩
  ·show _∧_≤ab.length+(max (ay a) (ay b)+1)
   refine Or.elim (List.mem_append.mp hq) (fun hq=>?_) fun hq=>?_
   ·obtain ⟨h1,h2⟩:=gf a (fun q hq=>h q (.tail _ (List.mem_append_left _ hq))) hb q hq
    rw [List.length_append,List.length_singleton] at h2
    exact ⟨h1,n2 h2 (Nat.le_max_left (ay a) (ay b)) (by simp +arith only)⟩
   ·obtain ⟨h1,h2⟩:=gf b (fun q hq=>h q (.tail _ (List.mem_append_right _ hq))) hb q hq
    rw [List.length_append,List.length_singleton] at h2
    exact ⟨h1,n2 h2 (Nat.le_max_right (ay a) (ay b)) (by simp +arith only)⟩
 | .wh t a,k,ab,h,ha,q,hq=>by
  have hb:∀u∈ab++[t],P u:=fun u hu=>(List.mem_append.mp hu).elim (ha u) fun e=>by rw [List.mem_singleton.mp e];exact h (k,.wh t a,ab) (.head _)
  rcases List.mem_cons.mp hq with rfl | hq
  ·exact ⟨ha,Nat.le_add_right _ _⟩
  ·refine e02 (gf a (fun q hq=>h q (.tail _ hq)) hb q hq) fun h1 h2=>?_
   rw [List.length_append,List.length_singleton] at h2
   exact ⟨h1,show _≤ab.length+(ay a+1) from n1 h2 (by simp +arith only)⟩
theorem gf {P:Tm→Prop}:∀(rs:List Rw) {k:Int}{ab:List Tm},(∀q∈nums k ab rs,P q.2.1.ft)→(∀t∈ab,P t)→∀q∈nums k ab rs,(∀t∈q.2.2,P t)∧q.2.2.length≤ab.length+ay rs
 | [],_,_,_,_,q,hq=>aN hq
 | r::rs,k,ab,h,ha,q,hq=>by
  show _∧_≤ab.length+max r.nest (ay rs)
  refine Or.elim (List.mem_append.mp (show q∈r.num k ab++nums (k+r.size) ab rs from hq)) (fun hq=>?_) fun hq=>?_
  ·obtain ⟨h1,h2⟩:=Dr r (fun q hq=>h q (List.mem_append_left _ hq)) ha q hq
   exact ⟨h1,n2 h2 (Nat.le_max_left r.nest (ay rs)) (by simp +arith only)⟩
  ·obtain ⟨h1,h2⟩:=gf rs (fun q hq=>h q (List.mem_append_right _ hq)) ha q hq
   exact ⟨h1,n2 h2 (Nat.le_max_right r.nest (ay rs)) (by simp +arith only)⟩
end
theorem rK {r:Rw}(h:r.good):r.ft.good:=by
 cases r with
 | set s t=>exact h.2
 | tell t=>exact h
 | skip=>exact ⟨⟨Int.le_refl 0,by decide⟩,Nat.zero_le _⟩
 | ite t a b=>exact h.1
 | wh t a=>exact h.1
theorem xk {r:Rw}{n:Txt}(h:n∈an r.ft):n∈r.nms:=by
 cases r with
 | set s t=>exact .tail _ (aE.mpr h)
 | tell t=>exact aE.mpr h
 | skip=>exact aN h
 | ite t a b=>exact aE.mpr h
 | wh t a=>exact aE.mpr h
structure LF (A B:List Txt)(rows:List Rw):Prop where
 gn:∀s∈A++B,Gn s
 nd:(A++B).Nodup
 len:A.length+B.length≤100
 g:cJ rows
 sz:au rows≤400
 ne:ay rows≤7
 few:(aS (aD A B rows)).length<200
 ok:∀s∈aS (aD A B rows),okS s
 nf:∀q∈nums 1 [] rows,(eZ q.2.1 q.2.2).length<64
structure rL (T:List Txt)(q:Num):Prop where
 good:q.2.1.good
 tg:∀t∈q.2.2,t.good
 am:∀n∈ats q.2.2,n∈T
 fn:∀n∈an q.2.1.ft,n∈T
 len:q.2.2.length≤7
 few:(eZ q.2.1 q.2.2).length<64
theorem LF.nums {A B:List Txt}{rows:List Rw}(F:LF A B rows):∀q∈nums 1 [] rows,rL (aS (aD A B rows)) q:=fun q hq=>by
 have key:∀q∈Internal.nums 1 [] rows,q.2.1.ft.good∧∀n∈Internal.an q.2.1.ft,n∈aS (aD A B rows):=fun q hq=>⟨rK (cp F.g q hq),fun n hn=>aE.mpr (List.mem_append_right _ (List.mem_flatMap.mpr ⟨q,hq,xk hn⟩))⟩
 refine e02 (gf rows (P:=fun t=>t.good∧∀n∈Internal.an t,n∈aS (aD A B rows)) key (fun _ h=>aN h) q hq) fun h1 h2=>?_
 refine ⟨cp F.g q hq,fun t ht=>(h1 t ht).1,fun n hn=>?_,(key q hq).2,Nat.le_trans h2 (by rw [List.length_nil,Nat.zero_add];exact F.ne),F.nf q hq⟩
 refine e12 (nS.mp hn) fun t ht hn=>?_
 exact (h1 t ht).2 n hn
theorem dg {t:Tm}(h:t.good):(aS (an t)).length≤8:=Nat.le_trans (iJ _) (Nat.le_trans (cO t) h.lv)
theorem xm (ab:List Tm)(t:Tm):ats (ab++[t])=ats ab++aS (an t):=by
 unfold ats
 rw [List.flatMap_append]
 exact congrArg (_++·) (List.append_nil _)
theorem nT:∀{ab:List Tm},(∀t∈ab,t.good)→(ats ab).length≤8 * ab.length
 | [],_=>Nat.le_refl _
 | t::ab,h=>by
  have h1:=dg (h t (.head _))
  have h2:=nT (ab:=ab) fun u hu=>h u (.tail _ hu)
  show (aS (an t)++ats ab).length≤8 * (ab.length+1)
  rw [List.length_append];exact n2 h2 h1 (by simp +arith only)
theorem Fy (r:Rw):∃w xs,r.mv=.tup (.str w::xs)∧(w==o8)=(match r with | .skip=>true | _=>false):=by
 cases r<;>exact ⟨_,_,rfl,rfl⟩
theorem xo {r:Rw}(h:r.good):r.fs.length≤8:=by
 cases r with
 | skip=>exact Nat.zero_le _
 | set s t=>exact dg h.2
 | tell t=>exact dg h
 | ite t a b=>exact dg h.1
 | wh t a=>exact dg h.1
noncomputable abbrev mL:Txt:=[111,112,101,110]
noncomputable abbrev gh:Txt:=[115,101,99,114,101,116]
noncomputable abbrev E9:Txt:=[102,114,101,101]
noncomputable def xp (A B:List Txt)(x:Txt):Txt:=match A.contains x with
 | true=>mL
 | false=>match B.contains x with
  | true=>gh
  | false=>E9
noncomputable def gR (f:Flw):MV:=.tup [.int f.1,.str f.2.1,.str f.2.2]
theorem rM {T:List Txt}{q:Num}(o:rL T q):(qfl q).length≤63:=by
 obtain ⟨k,r,ab⟩:=q
 cases r with
 | set x t=>
  show ((eZ (.set x t) ab).map _).length≤63
  rw [List.length_map]
  exact Nat.le_of_lt_succ o.few
 | _=>exact Nat.zero_le _
theorem pk {T:List Txt}:∀{qs:List Num},(∀q∈qs,rL T q)→(bJ qs).length≤63 * qs.length
 | [],_=>Nat.le_refl _
 | q::qs,h=>by
  have h1:=rM (h q (.head _))
  have h2:=pk (qs:=qs) fun x hx=>h x (.tail _ hx)
  show (qfl q++bJ qs).length≤63 * (qs.length+1)
  rw [List.length_append];exact n2 h2 h1 (by simp +arith only)
theorem lu (a b:List Num):bJ (a++b)=bJ a++bJ b:=List.flatMap_append ..
variable {K:KT}(hK:aV PP K)
include hK
theorem zS {ab:List Tm}(hg:∀t∈ab,t.good)(hl:ab.length≤7)(hN:6<N)(hq:∀h',h<+:h'→h'[h.length]?=some (.list ((ats ab).map .str))→Q (.ref h.length) h'):K N 101 [.tup (ab.map Tm.mv)] Q X h:=by
 obtain ⟨M,rfl,hM⟩:=room hN
 refine hK _ _ _ _ _ _ fq rfl rfl ?_
 refine jP (fun j w hp=>⟨[some (.tup (ab.map Tm.mv)),some (.ref h.length),w],hp⟩) (fun j w hp=>h<+:hp∧hp[h.length]?=some (.list ((ats (ab.take j)).map .str))) none _ rfl ⟨aa (ak _),af _ _⟩ (fun _ _ _ _=>trivial) (fun j x w hp P hx hI hn _=>?_) (fun w hp hI=>?_)
 ·obtain ⟨p1,e1⟩:=hI
  obtain ⟨t,ht,rfl⟩:=Option.map_eq_some_iff.mp (List.getElem?_map ..▸hx)
  have hg1:=hg t (List.mem_of_getElem? ht)
  refine aC (f9 e1) ?_
  refine gP hK (by have:=hg1.2;exact n2 this hN (by simp +arith only)) hg1.1 (Nat.le_trans hg1.lv (nb rfl)) fun i h2 p2 l2 e2=>?_
  have e3:=aj p2 e1
  refine bg (bf e3) (bg (bf e2) ?_)
  have l1:=nT (ab:=ab.take j) fun u hu=>hg u (List.mem_of_mem_take hu)
  have l2:=dg hg1
  have l3:(ab.take j).length≤ab.length:=by rw [List.length_take];exact Nat.min_le_right ..
  refine ⟨aL (by rw [List.length_map,List.length_map];exact Nat.le_trans (Nat.add_le_add (Nat.le_trans l1 (Nat.mul_le_mul_left 8 (Nat.le_trans l3 hl))) l2) (nb rfl)),?_⟩
  refine hn _ _ ⟨aR (p1.trans p2) (Nat.le_refl _),?_⟩
  rw [aw ht,xm,List.map_append];exact get_set e3
 ·refine e02 hI fun p1 e1=>?_
  rw [List.length_map,List.take_length] at e1
  exact hq hp p1 e1
theorem Ds {T:List Txt}{k:Int}{r:Rw}{ab:List Tm}(o:rL T (k,r,ab))(hN:7<N)(hq:∀h' i,h<+:h'→h.length≤i→h'[i]?=some (.list ((eZ r ab).map .str))→Q (.ref i) h'):K N 102 [r.mv,.tup (ab.map Tm.mv)] Q X h:=by
 obtain ⟨M,rfl,hM⟩:=room hN
 have few:(aS (ats ab++r.fs)).length<64:=o.few
 have la:(ats ab).length≤8 * ab.length:=nT o.tg
 have ll:ab.length≤7:=o.len
 have lf:r.fs.length≤8:=xo o.good
 refine hK _ _ _ _ _ _ gF rfl rfl ?_
 refine zS hK o.tg o.len hM fun h1 p1 e1=>?_
 have p1:h<+:h1:=p1
 have last:∀{hp:List MO} {i:Nat},h1<+:hp→hp[i]?=some (.list ((ats ab++r.fs).map .str))→aP K M [.ret (.blt .sortedSet [.var 2])] (fin Q) (xin X) ⟨[some r.mv,some (.tup (ab.map Tm.mv)),some (.ref i)],hp⟩:=fun {hp i} p e=>by
  refine ai e ?_
  refine .mk (ats ab++r.fs) rfl (An few) (by rw [List.length_append];exact Nat.lt_of_le_of_lt (Nat.add_le_add (Nat.le_trans la (Nat.mul_le_mul_left 8 ll)) lf) (nb rfl)) (hq _ _ (aa (p1.trans p)) (Nat.le_trans p1.length_le p.length_le) (af _ _))
 have more:∀{t:Tm},r.fm=t.mv→r.fs=aS (an t)→t.good→aP K M [.asg [2] false (.bin .add (.var 2) (.call 1 [.call 26 [.var 0]])),.ret (.blt .sortedSet [.var 2])] (fin Q) (xin X) ⟨[some r.mv,some (.tup (ab.map Tm.mv)),some (.ref h.length)],h1⟩:=fun {t} h2 h3 ht=>by
  refine w9 hK (kX (rG (n:=0) r)) (Nat.le_trans (nb rfl) hM) ?_
  rw [h2]
  refine gP hK (by have:=ht.2;exact n2 this hN (by simp +arith only)) ht.1 (Nat.le_trans ht.lv (nb rfl)) fun i h4 p4 l4 e4=>?_
  have p4:h1<+:h4:=p4
  refine ai (aj p4 e1) (ai e4 ?_)
  rw [h3] at lf
  refine ⟨dc (Nat.le_trans (Nat.add_le_add (Nat.le_trans la (Nat.mul_le_mul_left 8 ll)) lf) (nb rfl)),?_⟩
  refine last (aa p4) ?_
  rw [h3];exact dN _ _ _
 cases r with
 | skip=>
  refine last (ak _) ?_
  rw [show ats ab++Rw.fs .skip=ats ab from List.append_nil _];exact e1
 | set s t=>exact more rfl rfl o.good.2
 | tell t=>exact more rfl rfl o.good
 | ite t a b=>exact more rfl rfl o.good.1
 | wh t a=>exact more rfl rfl o.good.1
theorem Dt {i:Nat}{A B:List Txt}{rows:List Rw}{x:Txt}(hp:bW h i A B rows)(hg:∀s∈A++B,Gn s)(hx:okS x)(hN:0<N)(hq:Q (.str (xp A B x)) h):K N 65 [.inst 0 i,.str x] Q X h:=by
 obtain ⟨M,rfl,hM⟩:=room hN
 refine e23 hp fun a b h1 h2 h3=>?_
 unfold xp at hq
 refine hK _ _ _ _ _ _ eV rfl rfl ?_
 refine cr h1 ?_
 refine ax h2 ?_
 refine bL hx (fun s hs=>(hg s (List.mem_append_left _ hs)).1.ok) ?_
 refine fc (fun q=>?_) fun q=>?_
 ·rw [q] at hq;exact hq
 ·rw [q] at hq
  refine cr h1 ?_
  refine ax h3 ?_
  refine bL hx (fun s hs=>(hg s (List.mem_append_right _ hs)).1.ok) ?_
  refine fc (fun q=>?_) fun q=>?_
  ·rw [q] at hq;exact hq
  ·rw [q] at hq;exact hq
theorem zT {i:Nat}{A B:List Txt}{rows:List Rw}(hp:bW h i A B rows)(F:LF A B rows)(hN:9<N)
  (hq:∀h' r,h<+:h'→h.length≤r→h'[r]?=some (.list ((bJ (nums 1 [] rows)).map gR))→Q (.ref r) h'):K N 103 [.inst 0 i] Q X h:=by
 obtain ⟨M,rfl,hM⟩:=room hN
 refine e23 hp fun a b h1 _ _=>?_
 have p1:h<+:h++[.list []]:=aa (ak _)
 have hF:=F.nums
 have ln:(nums 1 [] rows).length=au rows:=bE rows 1 []
 have sz:=F.sz
 refine hK _ _ _ _ _ _ oX rfl rfl ?_
 refine aC (ph (aj p1 h1) rfl) ?_
 refine qF hK (hp.up p1) (Nat.le_trans (nb rfl) hM) ?_
 refine k9 hK rows (k:=1) (ab:=[]) (Nat.le_trans F.sz (nb rfl)) (by show 0+_≤_;exact n1 F.ne (by simp +arith only)) (n2 hN F.ne (by simp +arith only)) fun h4 p4 e4=>?_
 have p4:h++[.list []]<+:h4:=p4
 have l4:h.length<h4.length:=Nat.lt_of_lt_of_le (by rw [List.length_append];exact Nat.lt_succ_self _) p4.length_le
 refine aJ (aG e4) ?_
 refine nF (fun j w2 w3 w4 w5 hp=>⟨[some (.inst 0 i),some (.ref h.length),w2,w3,w4,w5],hp⟩) (fun j w2 w3 w4 w5 hp=>A3 (h<+:hp) (hp[h.length]?=some (.list ((bJ ((nums 1 [] rows).take j)).map gR))) (hp[(h++[MO.list []]).length]?=some (.list ((nums 1 [] rows).map co))))
  none none none none _ rfl ⟨p1.trans p4,aj p4 (af _ _),e4⟩ (fun _ _ _ _ _ _ hI=>hI.h3) (fun j x w2 w3 w4 w5 hp P hx hI hn _=>?_) (fun w2 w3 w4 w5 hp hI=>?_)
 ·refine hI.el fun q1 q2 q3=>?_
  obtain ⟨⟨k,r,ab⟩,hq1,rfl⟩:=Option.map_eq_some_iff.mp (List.getElem?_map ..▸hx)
  have o:=hF _ (List.mem_of_getElem? hq1)
  have lt:=pk (qs:=(nums 1 [] rows).take j) fun x hx=>hF x (List.mem_of_mem_take hx)
  have lj:=List.length_take_le j (nums 1 [] rows)
  have hj:=(List.getElem?_eq_some_iff.mp hq1).1
  refine ⟨rfl,?_⟩
  have skip:qfl (k,r,ab)=[]→P .next ⟨[some (.inst 0 i),some (.ref h.length),some (.int k),some r.mv,some (.tup (ab.map Tm.mv)),w5],hp⟩:=fun e=>hn _ _ _ _ _ ⟨q1,by rw [aw hq1,lu,show bJ [(k,r,ab)]=[] from (List.append_nil _).trans e,List.append_nil];exact q2,q3⟩
  cases r with
  | skip=>exact skip rfl
  | tell t=>exact skip rfl
  | ite t a b=>exact skip rfl
  | wh t a=>exact skip rfl
  | set x t=>
   have lq:=rM o
   refine aC (f9 q2) ?_
   refine Ds hK o (n1 hN (by simp +arith only)) fun h5 r5 p5 l5 e5=>?_
   have p5:hp<+:h5:=p5
   refine aJ (aG e5) ?_
   refine jS (fun w=>⟨[some (.inst 0 i),some (.ref h.length),some (.int k),some (Rw.mv (.set x t)),some (.tup (ab.map Tm.mv)),w],h5⟩) (fun j=>((qfl (k,.set x t,ab)).map gR).take j) _ rfl rfl (fun _=>e5) (fun j z w P hz n1 n2=>?_) (fun w=>?_)
   ·obtain ⟨s,hs1,rfl⟩:=Option.map_eq_some_iff.mp (List.getElem?_map ..▸hz)
    refine n1 _ _ (aw ?_)
    show (((eZ (.set x t) ab).map fun s=>(k,s,x)).map gR)[j]?=_
    rw [List.getElem?_map,List.getElem?_map,hs1];rfl
   ·have e6:((eZ (.set x t) ab).map MV.str).length=((qfl (k,.set x t,ab)).map gR).length:=by
     show _=(((eZ (.set x t) ab).map fun s=>(k,s,x)).map gR).length
     rw [List.length_map,List.length_map,List.length_map]
    rw [e6,List.take_length]
    have q4:=ah (o':=.list ((qfl (k,.set x t,ab)).map gR)) (aj p5 q2)
    refine bg (bf q4) (bg (bf (af _ _)) ?_)
    refine ⟨aL (by rw [List.length_map,List.length_map];exact Nat.le_trans (Nat.add_le_add (Nat.le_trans lt (Nat.mul_le_mul_left 63 (Nat.le_trans lj (Nat.le_of_lt (Nat.lt_of_lt_of_le hj (Nat.le_trans (Nat.le_of_eq ln) sz)))))) lq) (nb rfl)),?_⟩
    refine hn _ _ _ _ _ ⟨aR (aa (q1.trans p5)) (Nat.le_refl _),?_,ap (by rw [List.length_append];exact Nat.ne_of_lt (Nat.lt_succ_self _)) (ah (aj p5 q3))⟩
    rw [aw hq1,lu,show bJ [(k,.set x t,ab)]=qfl (k,.set x t,ab) from List.append_nil _,List.map_append]
    exact get_set q4
 ·refine hI.el fun q1 q2 q3=>?_
  rw [List.length_map,List.take_length] at q2
  exact hq _ _ q1 (Nat.le_refl _) q2
end Internal
end
section
namespace Internal
inductive Rn (A B:List Txt)(fl:List Flw):Nat→Txt→Prop
 | base {x} (h:x∈B):Rn A B fl 0 x
 | step {n k s x} (h:(k,s,x)∈fl) (hs:Rn A B fl n s) (hA:x∉A) (hB:x∉B):Rn A B fl (n+1) x
structure Dst (A B:List Txt)(fl:List Flw)(x:Txt)(d:Nat):Prop where
 at_:Rn A B fl d x
 le:∀n,Rn A B fl n x→d≤n
noncomputable abbrev Fa:=List (Int × Txt)
inductive Pth (A B:List Txt)(fl:List Flw):Fa→Txt→Prop
 | base {x} (h:x∈B):Pth A B fl [(0,x)] x
 | step {l s k x} (hl:Pth A B fl l s) (h:(k,s,x)∈fl) (hA:x∉A) (hB:x∉B):Pth A B fl (l++[(k,x)]) x
noncomputable def pM (p:Int × Txt):MV:=.tup [.int p.1,.str p.2]
section
variable {A B:List Txt}{fl:List Flw}
theorem Rn.rch {n:Nat}{x:Txt}(h:Rn A B fl n x):Rch A B fl x:=by
 induction h with
 | base h=>exact .base h
 | step h _ hA hB ih=>exact .step h ih hA hB
theorem Rch.rn {x:Txt}(h:Rch A B fl x):∃n,Rn A B fl n x:=by
 induction h with
 | base h=>exact ⟨0,.base h⟩
 | step h _ hA hB ih=>obtain ⟨n,hn⟩:=ih;exact ⟨n+1,.step h hn hA hB⟩
theorem Dst.rch {x:Txt}{d:Nat}(h:Dst A B fl x d):Rch A B fl x:=h.at_.rch
theorem Dst.one {x:Txt}{d e:Nat}(h:Dst A B fl x d)(k:Dst A B fl x e):d=e:=Nat.le_antisymm (h.le _ k.at_) (k.le _ h.at_)
noncomputable def upd (f:Txt→Nat)(x:Txt)(v:Nat):Txt→Nat:=fun y=>match y==x with
 | true=>v
 | false=>f y
theorem dD {f:Txt→Nat}{x:Txt}{v:Nat}:upd f x v x=v:=by
 show (match x==x with | true=>v | false=>f x)=v
 rw [beq_self_eq_true]
theorem qK {f:Txt→Nat}{x y:Txt}{v:Nat}(h:y≠x):upd f x v y=f y:=by
 show (match y==x with | true=>v | false=>f y)=f y
 rw [beq_eq_false_iff_ne.mpr h]
structure RL (A B:List Txt)(fl:List Flw)(f:Txt→Nat)(ws:List Txt)(n:Nat):Prop where
 base:∀x∈B,x∈ws∧f x=0
 snd:∀x∈ws,Rn A B fl (f x) x
 cl:∀s∈ws.take n,∀k x,(k,s,x)∈fl→x∉A→x∉B→x∈ws∧f x≤f s+1
 mono:ws.Pairwise fun a b=>f a≤f b
 near:∀a,ws[n]?=some a→∀x∈ws,f x≤f a+1
theorem RL.low {f:Txt→Nat}{ws:List Txt}{n:Nat}(h:RL A B fl f ws n)(hn:ws.length≤n){m:Nat}{x:Txt}(r:Rn A B fl m x):x∈ws∧f x≤m:=by
 induction r with
 | base hb=>obtain ⟨h1,h2⟩:=h.base _ hb;exact ⟨h1,Nat.le_of_eq h2⟩
 | step hf _ hA hB ih=>
  obtain ⟨h1,h2⟩:=h.cl _ (by rw [List.take_of_length_le hn];exact ih.1) _ _ hf hA hB
  exact ⟨h1,Nat.le_trans h2 (Nat.succ_le_succ ih.2)⟩
theorem RL.all {f:Txt→Nat}{ws:List Txt}{n:Nat}(h:RL A B fl f ws n)(hn:ws.length≤n)(x:Txt):x∈ws↔Rch A B fl x:=
 ⟨fun hx=>(h.snd x hx).rch,fun r=>by obtain ⟨m,hm⟩:=r.rn;exact (h.low hn hm).1⟩
theorem RL.isd {f:Txt→Nat}{ws:List Txt}{n:Nat}(h:RL A B fl f ws n)(hn:ws.length≤n){x:Txt}(hx:x∈ws):Dst A B fl x (f x):=⟨h.snd x hx,fun _ r=>(h.low hn r).2⟩
theorem RL.turn {f:Txt→Nat}{ws:List Txt}{n j:Nat}{k:Int}{src s x:Txt}(L:RL A B fl f ws n)(hc:∀k x,(k,src,x)∈fl.take j→x∉A→x∉B→x∈ws∧f x≤f src+1)(e:ws[n]?=some src)(hj:fl[j]?=some (k,s,x)) :
  ((s=src→x∉A→x∉B→x∈ws)→∀k x,(k,src,x)∈fl.take (j+1)→x∉A→x∉B→x∈ws∧f x≤f src+1)∧
  (x∉ws→s=src→x∉A→x∉B→RL A B fl (upd f x (f src+1)) (ws++[x]) n∧(∀k y,(k,src,y)∈fl.take (j+1)→y∉A→y∉B→y∈ws++[x]∧upd f x (f src+1) y≤upd f x (f src+1) src+1)∧(ws++[x])[n]?=some src):=by
 have d:∀{k' y},(k',src,y)∈fl.take (j+1)→(k',src,y)∈fl.take j∨(s=src∧y=x):=fun hy=>by
  rw [aw hj] at hy
  exact (List.mem_append.mp hy).imp_right fun hy=>by cases List.mem_singleton.mp hy;exact ⟨rfl,rfl⟩
 have hsrc:=List.mem_of_getElem? e
 refine ⟨fun h4 k' y hy hA hB=>(d hy).elim (fun hy=>hc k' y hy hA hB) fun q=>by obtain ⟨q,rfl⟩:=q;exact ⟨h4 q hA hB,L.near _ e y (h4 q hA hB)⟩,fun hx hs hA hB=>?_⟩
 have old:∀{y},y∈ws→upd f x (f src+1) y=f y:=fun hy=>qK fun q=>hx (q▸hy)
 have e':(ws++[x])[n]?=some src:=ah e
 have up:∀{y s'},y∈ws∧f y≤f s'+1→s'∈ws→y∈ws++[x]∧upd f x (f src+1) y≤upd f x (f src+1) s'+1:=fun h h'=>⟨List.mem_append_left _ h.1,by rw [old h.1,old h'];exact h.2⟩
 refine ⟨⟨fun y hy=>?_,fun y hy=>?_,fun s' hs' k'' y hf' hA hB=>?_,?_,fun a ha y hy=>?_⟩,fun k' y hy hA hB=>?_,e'⟩
 ·refine e02 (L.base y hy) fun h1 h2=>?_
  exact ⟨List.mem_append_left _ h1,by rw [old h1];exact h2⟩
 ·rcases List.mem_append.mp hy with hy | hy
  ·rw [old hy];exact L.snd y hy
  ·rw [List.mem_singleton.mp hy,dD]
   exact .step (hs▸List.mem_of_getElem? hj) (L.snd _ hsrc) hA hB
 ·rw [List.take_append_of_le_length (Nat.le_of_lt (List.getElem?_eq_some_iff.mp e).1)] at hs'
  exact up (L.cl s' hs' k'' y hf' hA hB) (List.mem_of_mem_take hs')
 ·refine List.pairwise_append.mpr ⟨L.mono.imp_of_mem fun ha hb h=>by rw [old ha,old hb];exact h,List.pairwise_singleton ..,fun a ha b hb=>?_⟩
  rw [List.mem_singleton.mp hb,dD,old ha]
  exact L.near _ e a ha
 ·obtain rfl:=same e' ha
  rw [old hsrc]
  refine Or.elim (List.mem_append.mp hy) (fun hy=>?_) fun hy=>?_
  ·rw [old hy];exact L.near _ e y hy
  ·rw [List.mem_singleton.mp hy,dD];exact Nat.le_refl _
 ·rcases d hy with hy | ⟨_,rfl⟩
  ·exact up (hc k' y hy hA hB) hsrc
  ·exact ⟨List.mem_append_right _ (List.mem_singleton.mpr rfl),by rw [dD,old hsrc];exact Nat.le_refl _⟩
theorem RL.next {f:Txt→Nat}{ws:List Txt}{n:Nat}{src:Txt}(L:RL A B fl f ws n)(hc:∀k x,(k,src,x)∈fl→x∉A→x∉B→x∈ws∧f x≤f src+1)(e:ws[n]?=some src):RL A B fl f ws (n+1):=
 ⟨L.base,L.snd,fun s hs k x hf hA hB=>by
  rw [aw e] at hs
  refine Or.elim (List.mem_append.mp hs) (fun hs=>?_) fun hs=>?_
  ·exact L.cl s hs k x hf hA hB
  ·rw [List.mem_singleton.mp hs] at hf ⊢;exact hc k x hf hA hB,L.mono,fun a ha x hx=>by
  obtain ⟨h1,h2⟩:=List.getElem?_eq_some_iff.mp e
  obtain ⟨h3,h4⟩:=List.getElem?_eq_some_iff.mp ha
  have h5:=List.pairwise_iff_getElem.mp L.mono n (n+1) h1 h3 (Nat.lt_succ_self _)
  rw [h2,h4] at h5
  exact Nat.le_trans (L.near _ e x hx) (Nat.succ_le_succ h5)⟩
structure Gz (A B:List Txt)(fl:List Flw)(hp:List MO)(w:Nat)(x:Txt)(v:MV)(n:Nat):Prop where
 ex:∃i l,v=.ref i∧w<i∧hp[i]?=some (.list (l.map pM))∧Pth A B fl l x∧l.length=n+1
structure RI (A B:List Txt)(fl:List Flw)(f:Txt→Nat)(h:List MO)(T:List Txt)(hp:List MO)(es:ES)(ws:List Txt):Prop where
 pre:h<+:hp
 d:hp[h.length]?=some (.dict es)
 w:hp[h.length+1]?=some (.list (ws.map .str))
 keys:es.map (·.1)=ws
 nd:ws.Nodup
 rd:∀e∈es,Gz A B fl hp (h.length+1) e.1 e.2 (f e.1)
 lt:∀x∈ws,f x<ws.length
 sub:∀x∈ws,x∈T
variable {f:Txt→Nat}{h:List MO}{T:List Txt}{hp hp':List MO}{es:ES}{ws:List Txt}
theorem RI.up (r:RI A B fl f h T hp es ws)(p:hp<+:hp'):RI A B fl f h T hp' es ws:=⟨r.pre.trans p,aj p r.d,aj p r.w,r.keys,r.nd,fun e he=>by
 refine e24 ((r.rd e he).ex) fun i k h1 h2 h3 h4=>?_
 exact ⟨i,k,h1,h2,aj p h3,h4⟩,r.lt,r.sub⟩
theorem RI.few (r:RI A B fl f h T hp es ws)(hT:T.length<200):ws.length<200:=Nat.lt_of_le_of_lt (gO ws T r.nd r.sub) hT
theorem RI.len (r:RI A B fl f h T hp es ws):es.length=ws.length:=by rw [←r.keys,List.length_map]
theorem RI.add (r:RI A B fl f h T hp es ws){x:Txt}(hx:x∉ws)(hT:x∈T){i n:Nat}{l:Fa}(hi:h.length+1<i)(e:hp[i]?=some (.list (l.map pM)))(hl:Pth A B fl l x)(hn:l.length=n+1)(hw:n≤ws.length) :
  RI A B fl (upd f x n) h T ((hp.set h.length (.dict (cG es x (.ref i)))).set (h.length+1) (.list ((ws++[x]).map .str))) (cG es x (.ref i)) (ws++[x]):=by
 have hd:cG es x (.ref i)=es++[(x,.ref i)]:=pj (by rw [r.keys];exact hx)
 have keep:∀{j:Nat} {o:MO},h.length+1<j→hp[j]?=some o→((hp.set h.length (.dict (cG es x (.ref i)))).set (h.length+1) (.list ((ws++[x]).map .str)))[j]?=some o:=fun hj ho=>ap (Nat.ne_of_lt hj) (ap (Nat.ne_of_lt (Nat.lt_trans (Nat.lt_succ_self _) hj)) ho)
 have old:∀{y},y∈ws→upd f x n y=f y:=fun hy=>qK fun q=>hx (q▸hy)
 refine ⟨aR (aR r.pre (Nat.le_refl _)) (Nat.le_succ _),ap (Nat.succ_ne_self _) (get_set r.d),get_set (ap (Ne.symm (Nat.succ_ne_self _)) r.w),?_,?_,fun q hq=>?_,fun y hy=>?_,fun y hy=>?_⟩
 ·rw [hd,List.map_append,r.keys];rfl
 ·exact List.nodup_append.mpr ⟨r.nd,List.nodup_cons.mpr ⟨List.not_mem_nil,List.nodup_nil⟩,fun a ha b hb e=>hx (by rw [←List.mem_singleton.mp hb,←e];exact ha)⟩
 ·rw [hd] at hq
  rcases List.mem_append.mp hq with hq | hq
  ·refine e24 ((r.rd q hq).ex) fun i' l' h1 h2 h3 h4=>?_
   rw [old (by rw [←r.keys];exact List.mem_map.mpr ⟨q,hq,rfl⟩)]
   exact ⟨i',l',h1,h2,keep h2 h3,h4⟩
  ·rw [List.mem_singleton.mp hq,dD]
   exact ⟨i,l,rfl,hi,keep hi e,hl,hn⟩
 ·rw [List.length_append,List.length_singleton]
  rcases List.mem_append.mp hy with hy | hy
  ·rw [old hy];exact Nat.lt_succ_of_lt (r.lt y hy)
  ·rw [List.mem_singleton.mp hy,dD];exact Nat.lt_succ_of_le hw
 ·rcases List.mem_append.mp hy with hy | hy
  ·exact r.sub y hy
  ·rw [List.mem_singleton.mp hy];exact hT
structure Fb (A B:List Txt)(fl:List Flw)(hp:List MO)(es:ES):Prop where
 keys:∀x,x∈es.map (·.1)↔Rch A B fl x
 rd:∀e∈es,∃i l d,e.2=.ref i∧hp[i]?=some (.list (l.map pM))∧Pth A B fl l e.1∧l.length=d+1∧Dst A B fl e.1 d∧d<200
end
end Internal
end
section
namespace Internal
variable {N:Nat}{Q:MV→List MO→Prop}{X:XT}{h:List MO}
theorem xq {c:Nat}{w:Txt}(h:w.length≠1):([c]==w)=false:=beq_eq_false_iff_ne.mpr fun e=>h (by rw [←e];rfl)
theorem xr {A B:List Txt}{rows:List Rw}{k:Int}{r:Rw}{ab:List Tm}(hq:(k,r,ab)∈nums 1 [] rows)(x:Txt)(t:Tm)(e:r=.set x t):x∈aS (aD A B rows):=by
 subst e
 exact aE.mpr (List.mem_append_right _ (List.mem_flatMap.mpr ⟨_,hq,.head _⟩))
theorem Du {A B:List Txt}{rows:List Rw}:∀f∈bJ (nums 1 [] rows),f.2.2∈aS (aD A B rows):=fun f hf=>by
 obtain ⟨⟨k,r,ab⟩,hq,hf⟩:=List.mem_flatMap.mp hf
 refine aE.mpr (List.mem_append_right _ (List.mem_flatMap.mpr ⟨_,hq,?_⟩))
 cases r with
 | set x t=>
  obtain ⟨s,_,rfl⟩:=List.mem_map.mp (show f∈(eZ (.set x t) ab).map fun s=>(k,s,x) from hf)
  exact .head _
 | _=>exact aN hf
theorem Dv {fl:List Flw}{j:Nat}{v:MV}(e:(fl.map gR)[j]?=some v):∃k s x,fl[j]?=some (k,s,x)∧v=gR (k,s,x):=by
 obtain ⟨⟨k,s,x⟩,h1,h2⟩:=List.getElem?_map ..▸e |> Option.map_eq_some_iff.mp
 exact ⟨k,s,x,h1,h2.symm⟩
variable {K:KT}(hK:aV PP K)
include hK
theorem tW {f:Txt→Nat}{T A B:List Txt}{rows:List Rw}{i p N:Nat}{fl:List Flw}{hp:List MO}{es:ES}{ws:List Txt}{v3:Option MV}{w7 w8:Option MV}{at_:Int}{k:Int}{src s x:Txt}{P:Fl→MS→Prop}{X:XM}(r:RI A B fl f h T hp es ws)(hT:T.length<200)(hpg:bW h i A B rows)(hg:∀s∈A++B,Gn s)(hx:okS x)(hxT:x∈T)(hs:src∈ws)(hm:(k,s,x)∈fl)(hN:0<N)
  (hf:h.length+1<p) (hfl:hp[p]?=some (.list (fl.map gR)))
  (q0:(s=src→x∉A→x∉B→x∈ws)→P .next ⟨[some (.inst 0 i),some (.ref h.length),some (.ref (h.length+1)),some (.str x),some (.ref p),some (.int at_),some (.str src),some (.int k),some (.str s)],hp⟩)
  (q1:∀hp' es',RI A B fl (upd f x (f src+1)) h T hp' es' (ws++[x])→hp'[p]?=some (.list (fl.map gR))→x∉ws→s=src→x∉A→x∉B→P .next ⟨[some (.inst 0 i),some (.ref h.length),some (.ref (h.length+1)),some (.str x),some (.ref p),some (.int at_),some (.str src),some (.int k),some (.str s)],hp'⟩) :
  asg [7,8,3] true (gR (k,s,x)) (fun m=>aP K N [.ite (.and [.cmp .eq (.var 8) (.var 6),.cmp .nin (.var 3) (.var 1),.cmp .eq (.umth 0 65 [107,105,110,100] (.var 0) [.var 3]) (.cst (.str [102,114,101,101]))]) [.setIdx (.var 1) (.var 3) (.bin .add (.idx (.var 1) (.var 6)) (.list [.tup [.var 7,.var 3]])),.expr (.mth .append (.var 2) [.var 3])] []] P X m) ⟨[some (.inst 0 i),some (.ref h.length),some (.ref (h.length+1)),v3,some (.ref p),some (.int at_),some (.str src),w7,w8],hp⟩:=by
 refine e23 (hpg.up r.pre) fun a b h1 _ _=>?_
 have few:=r.few hT
 refine ⟨rfl,?_⟩
 conv=>whnf
 cases q1':(s==src) with
 | false=>exact q0 fun e=>by rw [e,beq_self_eq_true] at q1';exact tf q1'
 | true=>
  refine lN r.d ?_
  conv=>whnf
  cases q2:(bn es x).isSome with
  | true=>exact q0 fun _ _ _=>r.keys▸rJ.mp q2
  | false=>
   have hnew:x∉ws:=fun hx=>by rw [rJ.mpr (r.keys.symm▸hx)] at q2;exact tf q2
   refine aC (ph h1 rfl) ?_
   refine Dt hK (hpg.up r.pre) hg hx hN ?_
   unfold xp
   cases q3:A.contains x with
   | true=>exact q0 fun _ hA=>absurd (List.contains_iff_mem.mp q3) hA
   | false=>
    cases q4:B.contains x with
    | true=>exact q0 fun _ _ hB=>absurd (List.contains_iff_mem.mp q4) hB
    | false=>
     have hA:x∉A:=fun q=>by rw [List.contains_iff_mem.mpr q] at q3;exact tf q3
     have hB:x∉B:=fun q=>by rw [List.contains_iff_mem.mpr q] at q4;exact tf q4
     have hs':s=src:=eq_of_beq q1'
     obtain ⟨v,e1,e2⟩:=qJ (es:=es) (k:=src) (by rw [r.keys];exact hs)
     refine e25 ((r.rd _ e2).ex) fun j l e3 e4 e5 e6 e7=>?_
     obtain rfl:v=.ref j:=e3
     have e7:l.length=f src+1:=e7
     have lt:=r.lt src hs
     refine mT r.d ?_
     refine fb e1 ?_
     refine ai (ah e5) (ai (af _ _) ?_)
     refine ⟨aL (by rw [List.length_map,List.length_singleton];exact n3 lt (Nat.le_of_eq e7) few (by simp +arith only)),?_⟩
     have p2:hp<+:hp++[MO.list [.tup [.int k,.str x]]]++[MO.list (l.map pM++[.tup [.int k,.str x]])]:=aa (aa (ak _))
     have r2:=r.up p2
     refine mT r2.d ?_
     refine ⟨by rw [r.len];exact Nat.lt_of_lt_of_le few (aL (nb rfl)),?_⟩
     have r3:RI A B fl (upd f x (f src+1)) h T _ _ _:=r2.add hnew hxT (i:=(hp++[MO.list [.tup [.int k,.str x]]]).length) (l:=l++[(k,x)]) ?_ (by rw [List.map_append];exact af _ _) (.step e6 (hs'▸hm) hA hB) (by rw [List.length_append,e7];rfl) lt
     ·have hw:((hp++[MO.list [.tup [.int k,.str x]]]++[MO.list (l.map pM++[.tup [.int k,.str x]])]).set h.length (.dict (cG es x (.ref (hp++[MO.list [.tup [.int k,.str x]]]).length))))[h.length+1]?=some (.list (ws.map .str)):=ap (Ne.symm (Nat.succ_ne_self _)) r2.w
      refine aC (aH hw) (bg (bf hw) ?_)
      refine ⟨by rw [List.length_map];unfold line;exact Nat.le_trans few (nb rfl),?_⟩
      rw [List.map_append] at r3
      exact q1 _ _ r3 (ap (Nat.ne_of_lt hf) (ap (Nat.ne_of_lt (Nat.lt_trans (Nat.lt_succ_self _) hf)) (aj p2 hfl))) hnew hs' hA hB
     ·have:=(List.getElem?_eq_some_iff.mp r.w).1
      rw [List.length_append,List.length_singleton];exact n1 this (by simp +arith only)
theorem qL {T A B:List Txt}{rows:List Rw}{i p N:Nat}{fl:List Flw}{f:Txt→Nat}{hp:List MO}{es:ES}{ws:List Txt}{v3:Option MV}(r:RI A B fl f h T hp es ws)(hT:T.length<200)(hpg:bW h i A B rows)(hg:∀s∈A++B,Gn s)(hok:∀x∈T,okS x)(hN:0<N)
  (hf:h.length+1<p) (hfl:hp[p]?=some (.list (fl.map gR))) (hfT:∀f∈fl,f.2.2∈T) (L:RL A B fl f ws 0)
  (hq:∀h' es,h<+:h'→h'[h.length]?=some (.dict es)→Fb A B fl h' es→Q (.ref h.length) h') :
  aP K N (ir.body.drop 5) (fin Q) (xin X) ⟨[some (.inst 0 i),some (.ref h.length),some (.ref (h.length+1)),v3,some (.ref p),some (.int (0:Nat)),none,none,none],hp⟩:=by
 refine ⟨201,rq (fun w:Nat × List MO × (Txt→Nat) × ES × List Txt × Option MV × Option MV × Option MV × Option MV=>⟨[some (.inst 0 i),some (.ref h.length),some (.ref (h.length+1)),w.2.2.2.2.2.1,some (.ref p),some (.int (w.1:Nat)),w.2.2.2.2.2.2.1,w.2.2.2.2.2.2.2.1,w.2.2.2.2.2.2.2.2],w.2.1⟩) (fun k w=>A5 (w.1+k=201) (w.1≤w.2.2.2.2.1.length) (RI A B fl w.2.2.1 h T w.2.1 w.2.2.2.1 w.2.2.2.2.1) (w.2.1[p]?=some (.list (fl.map gR))) (RL A B fl w.2.2.1 w.2.2.2.2.1 w.1))
  (fun w hI=>nf (n3 (hI.h3.few hT) hI.h2 (Nat.le_of_eq hI.h1.symm) (by simp +arith only))) (fun k w W hI hW=>?_) 201 (0,hp,f,es,ws,v3,none,none,none) rfl ⟨rfl,Nat.zero_le _,r,hfl,L⟩⟩
 clear r hfl L
 obtain ⟨n,hp,f,es,ws,v3,w6,w7,w8⟩:=w
 refine hI.el fun h1 h2 r hfl L=>?_
 dsimp only at h1 h2 r hfl L
 refine ax r.w ?_
 rcases Nat.lt_or_ge n ws.length with hlt | hge
 ·refine pL (decide_eq_true (show (n:Int)<((ws.map MV.str).length:Nat) by rw [List.length_map];exact Int.ofNat_lt.mpr hlt)) ?_
  have e:=bD hlt
  generalize ws[n]=src at e
  refine ai r.w ?_
  refine bu (j:=n) (C9 rfl (by rw [List.length_map];exact hlt)) (by rw [List.getElem?_map,e];rfl) ?_
  refine aJ (aG hfl) ?_
  refine iw (fun j v3 w7 w8 hp es (z:(Txt→Nat) × List Txt)=>⟨[some (.inst 0 i),some (.ref h.length),some (.ref (h.length+1)),v3,some (.ref p),some (.int ((n:Int)+1)),some (.str src),w7,w8],hp⟩)
   (fun j v3 w7 w8 hp es z=>A5 (RI A B fl z.1 h T hp es z.2) (hp[p]?=some (.list (fl.map gR))) (RL A B fl z.1 z.2 n) (∀k x,(k,src,x)∈fl.take j→x∉A→x∉B→x∈z.2∧z.1 x≤z.1 src+1) (z.2[n]?=some src)) _ _ _ _ _ (f,ws) rfl ⟨r,hfl,L,fun k x h=>(by rw [List.take_zero] at h;exact aN h),e⟩ (fun _ _ _ _ _ _ _ hI=>hI.h2) (fun j y v3 w7 w8 hp es z P hy hI hn _=>?_) (fun v3 w7 w8 hp es z hI=>?_)
  ·obtain ⟨f,ws⟩:=z
   refine hI.el fun r hfl L hc e=>?_
   obtain ⟨k',s,x,hj,rfl⟩:=Dv hy
   have hm:=List.mem_of_getElem? hj
   refine e02 (L.turn hc e hj) fun t1 t2=>?_
   refine tW hK r hT hpg hg (hok x (hfT _ hm)) (hfT _ hm) (List.mem_of_getElem? e) hm hN hf hfl (fun h4=>?_) fun hp' es' r' hfl' h5 h6 h7 h8=>?_
   ·exact hn _ _ _ hp es (f,ws) ⟨r,hfl,L,t1 h4,e⟩
   ·refine e03 (t2 h5 h6 h7 h8) fun L hc e=>?_
    exact hn _ _ _ hp' es' (_,_) ⟨r',hfl',L,hc,e⟩
  ·obtain ⟨f,ws⟩:=z
   refine hI.el fun r hfl L hc e=>?_
   have hlt:=(List.getElem?_eq_some_iff.mp e).1
   rw [List.length_map,List.take_length] at hc
   exact hW (n+1,hp,f,es,ws,_,_,_,_) ⟨(Nat.succ_add_eq_add_succ n k).trans h1,hlt,r,hfl,L.next hc e⟩
 ·refine dP (decide_eq_false (show ¬ (n:Int)<((ws.map MV.str).length:Nat) by rw [List.length_map];exact fun q=>Nat.not_lt.mpr hge (Int.ofNat_lt.mp q))) ?_
  have few:=r.few hT
  refine hq hp es r.pre r.d ⟨fun x=>by rw [r.keys];exact L.all hge x,fun e he=>?_⟩
  refine e25 ((r.rd e he).ex) fun i' l q1 _ q3 q4 q5=>?_
  have hx:e.1∈ws:=r.keys▸List.mem_map.mpr ⟨e,he,rfl⟩
  exact ⟨i',l,_,q1,q3,q4,q5,L.isd hge hx,Nat.lt_trans (r.lt _ hx) few⟩
theorem zU {i:Nat}{A B:List Txt}{rows:List Rw}(hpg:bW h i A B rows)(F:LF A B rows)(hN:10<N)
  (hq:∀h' es,h<+:h'→h'[h.length]?=some (.dict es)→Fb A B (bJ (nums 1 [] rows)) h' es→Q (.ref h.length) h'):K N 104 [.inst 0 i] Q X h:=by
 obtain ⟨M,rfl,hM⟩:=room hN
 refine e23 hpg fun a b h1 _ _=>?_
 have p2:h<+:h++[.dict []]++[.list []]:=aa (aa (ak _))
 have e2:(h++[MO.dict []]).length=h.length+1:=by rw [List.length_append];rfl
 have hp2:=hpg.up p2
 refine hK _ _ _ _ _ _ ir rfl rfl ?_
 show aP K M (ir.body.drop 2) (fin Q) (xin X) ⟨[some (.inst 0 i),some (.ref h.length),some (.ref (h++[MO.dict []]).length),none,none,none,none,none,none],h++[MO.dict []]++[.list []]⟩
 rw [e2]
 generalize hfl:bJ (nums 1 [] rows)=fl at hq
 have r0:RI A B fl (fun _=>0) h (aS (aD A B rows)) (h++[MO.dict []]++[.list []]) [] []:=⟨p2,ah (af _ _),by rw [←e2];exact af _ _,rfl,List.nodup_nil,fun _ h=>aN h,fun _ h=>aN h,fun _ h=>aN h⟩
 refine aC (ph (aj p2 h1) rfl) ?_
 refine Dk hK hp2 (Nat.le_trans (nb rfl) hM) ?_
 have r1:=r0.up (aa (o:=.list (B.map .str)) (aa (o:=.list (A.map .str)) (ak _)))
 have e3:(h++[MO.dict []]++[MO.list []]).length+1=(h++[MO.dict []]++[MO.list []]++[MO.list (A.map .str)]).length:=by rw [List.length_append (bs:=[MO.list (A.map .str)])];rfl
 have e4:(h++[MO.dict []]++[MO.list []]++[MO.list (A.map .str)]++[MO.list (B.map .str)])[(h++[MO.dict []]++[MO.list []]).length+1]?=some (.list (B.map .str)):=by rw [e3];exact af _ _
 have l4:h.length+1<(h++[MO.dict []]++[MO.list []]).length+1:=by rw [List.length_append,e2];exact Nat.lt_succ_of_lt (Nat.lt_succ_self _)
 have gB:∀x∈B,x∈aS (aD A B rows):=fun x hx=>aE.mpr (List.mem_append_left _ (List.mem_append_right _ hx))
 have nB:B.Nodup:=(List.nodup_append.mp F.nd).2.1
 have few:=F.few
 refine aJ (aG e4) ?_
 refine jQ (fun j v3 hp es (f:Txt→Nat)=>⟨[some (.inst 0 i),some (.ref h.length),some (.ref (h.length+1)),v3,none,none,none,none,none],hp⟩) (fun j v3 hp es f=>A3 (RI A B fl f h (aS (aD A B rows)) hp es (B.take j)) (hp[(h++[MO.dict []]++[MO.list []]).length+1]?=some (.list (B.map .str))) (∀x,f x=0)) _ _ [] _ rfl ⟨r1,e4,fun _=>rfl⟩ (fun _ _ _ _ _ hI=>hI.h2) (fun j y v3 hp es f P hy hI hn _=>?_) (fun v3 hp es f hI=>?_)
 ·refine hI.el fun r e5 f0=>?_
  obtain ⟨x,hx,rfl⟩:=Option.map_eq_some_iff.mp (List.getElem?_map ..▸hy)
  have hm:=List.mem_of_getElem? hx
  have hnew:x∉B.take j:=fun q=>by
   have hd:=(List.nodup_append.mp ((List.take_append_drop (j+1) B).symm▸nB)).1
   rw [aw hx] at hd
   exact (List.nodup_append.mp hd).2.2 x q x (List.mem_singleton.mpr rfl) rfl
  have rf:=r.few few
  have p3:hp<+:hp++[MO.list [.tup [.int 0,.str x]]]:=aa (ak _)
  have r2:=r.up p3
  refine mT r2.d ?_
  refine ⟨by rw [r.len];exact Nat.lt_of_lt_of_le rf (aL (nb rfl)),?_⟩
  have r3:RI A B fl (upd f x 0) h _ _ _ _:=r2.add hnew (gB x hm) (i:=hp.length) (l:=[(0,x)]) (List.getElem?_eq_some_iff.mp r.w).1 (af _ _) (.base hm) rfl (Nat.zero_le _)
  have hw:((hp++[MO.list [.tup [.int 0,.str x]]]).set h.length (.dict (cG es x (.ref hp.length))))[h.length+1]?=some (.list ((B.take j).map .str)):=ap (Ne.symm (Nat.succ_ne_self _)) r2.w
  refine aC (aH hw) (bg (bf hw) ?_)
  refine ⟨by rw [List.length_map];unfold line;exact Nat.le_trans rf (nb rfl),?_⟩
  rw [List.map_append] at r3
  refine hn _ _ (cG es x (.ref hp.length)) (upd f x 0) ⟨?_,ap (Nat.ne_of_lt l4) (ap (Nat.ne_of_lt (Nat.lt_trans (Nat.lt_succ_self _) l4)) (aj p3 e5)),fun y=>?_⟩
  ·rw [aw hx];exact r3
  ·by_cases q:y=x
   ·rw [q,dD]
   ·rw [qK q];exact f0 y
 ·refine hI.el fun r e5 f0=>?_
  rw [List.length_map,List.take_length] at r
  refine zT hK (hpg.up r.pre) F (hM) fun h5 p p5 l5 e5=>?_
  have p5:_<+:h5:=p5
  have r5:=r.up p5
  rw [hfl] at e5
  refine qL hK r5 few hpg F.gn F.ok (Nat.le_trans (nb rfl) hM) (Nat.lt_of_lt_of_le (List.getElem?_eq_some_iff.mp r.w).1 l5) e5 (hfl▸Du) ⟨fun x hx=>⟨hx,f0 x⟩,fun x hx=>by rw [f0];exact .base hx,fun s hs=>by rw [List.take_zero] at hs;exact aN hs,?_,fun a _ x _=>by rw [f0];exact Nat.zero_le _⟩ hq
  exact List.pairwise_of_forall fun a b=>by rw [f0];exact Nat.zero_le _
end Internal
end
section
namespace Internal
open Classical in
noncomputable def kd (S:Txt→Prop)(n:Txt):Txt:=if S n then gh else mL
variable {K:KT}(hK:aV PP K)
include hK
theorem rN {i:Nat}{A B:List Txt}{rows:List Rw}{N:Nat}{Q:MV→List MO→Prop}{X:XT}{h:List MO}(hpg:bW h i A B rows)(F:LF A B rows)(hN:12<N)
  (hq:∀h' r,h<+:h'→h.length≤r→h'[r]?=some (.list ((aS (aD A B rows)).map fun n=>.tup [.str n,.str (kd (Rch A B (bJ (nums 1 [] rows))) n)]))→Q (.ref r) h'):K N 105 [.inst 0 i] Q X h:=by
 obtain ⟨M,rfl,hM⟩:=room hN
 refine hK _ _ _ _ _ _ oY rfl rfl ?_
 refine zU hK hpg F (Nat.le_trans (nb rfl) hM) fun h1 es p1 d1 R1=>?_
 have p1:h<+:h1:=p1
 have p2:h1<+:h1++[.list []]:=aa (ak _)
 refine e23 (hpg.up (p1.trans p2)) fun a b b1 _ _=>?_
 have few:=F.few
 refine aC (ph b1 rfl) ?_
 refine jy hK (hpg.up (p1.trans p2)) F.g F.sz (Nat.le_trans F.len (nb rfl)) (Nat.lt_of_lt_of_le F.few (nb rfl)) F.ne (Nat.le_trans (nb rfl) hM) fun h3 g p3 l3 e3=>?_
 have p3:h1++[.list []]<+:h3:=p3
 have p13:h1<+:h3:=p2.trans p3
 refine aJ (aG e3) ?_
 have lg:h1.length<g:=Nat.lt_of_lt_of_le (show h1.length<(h1++[MO.list []]).length by rw [List.length_append];exact Nat.lt_succ_self _) l3
 refine jP (fun j w hp=>⟨[some (.inst 0 i),some (.ref h.length),some (.ref h1.length),w],hp⟩) (fun j w hp=>A3 (h1<+:hp) (hp[h1.length]?=some (.list (((aS (aD A B rows)).take j).map fun n=>.tup [.str n,.str (kd (Rch A B (bJ (nums 1 [] rows))) n)]))) (hp[g]?=some (.list ((aS (aD A B rows)).map .str)))) none _ rfl ⟨p13,aj p3 (af _ _),e3⟩ (fun _ _ _ hI=>hI.h3) (fun j x w hp P hx hI hn _=>?_) (fun w hp hI=>?_)
 ·obtain ⟨q1,q2,q3⟩:=hI
  obtain ⟨n,hn1,rfl⟩:=Option.map_eq_some_iff.mp (List.getElem?_map ..▸hx)
  have hlt:=(List.getElem?_eq_some_iff.mp hn1).1
  have add:∀w:Txt,w=kd (Rch A B (bJ (nums 1 [] rows))) n→aP K M [.expr (.mth .append (.var 2) [.tup [.var 3,.cst (.str w)]])] P (xin X) ⟨[some (.inst 0 i),some (.ref h.length),some (.ref h1.length),some (.str n)],hp⟩:=fun w e=>by
   refine aC (aH q2) (bg (bf q2) ?_)
   refine ⟨by rw [List.length_map];exact Nat.lt_of_le_of_lt (List.length_take_le' ..) (Nat.lt_of_lt_of_le few (aL (nb rfl))),?_⟩
   refine hn _ _ ⟨aR q1 (Nat.le_refl _),?_,ap (Nat.ne_of_lt lg) q3⟩
   rw [aw hn1,List.map_append,e];exact get_set q2
  refine lN (aj q1 d1) ?_
  refine fc (fun q=>?_) fun q=>?_
  ·exact add gh (if_pos ((R1.keys n).mp (rJ.mp q))).symm
  ·exact add mL (if_neg fun hs=>by rw [rJ.mpr ((R1.keys n).mpr hs)] at q;exact tf q).symm
 ·refine hI.el fun q1 q2 q3=>?_
  rw [List.length_map,List.take_length] at q2
  exact hq _ _ (p1.trans q1) p1.length_le q2
end Internal
end
section
namespace Internal
variable {N:Nat}{Q:MV→List MO→Prop}{X:XT}{h:List MO}
noncomputable def ans (ab:List Tm):List Txt:=ab.flatMap an
theorem zV (ab:List Tm)(t:Tm):ans (ab++[t])=ans ab++an t:=by
 unfold ans
 rw [List.flatMap_append]
 exact congrArg (_++·) (List.append_nil _)
theorem nU:∀{ab:List Tm},(∀t∈ab,t.good)→(ans ab).length≤8 * ab.length
 | [],_=>Nat.le_refl _
 | t::ab,h=>by
  have h1:=Nat.le_trans (cO t) (h t (.head _)).lv
  have h2:=nU (ab:=ab) fun u hu=>h u (.tail _ hu)
  show (an t++ans ab).length≤8 * (ab.length+1)
  rw [List.length_append];exact n2 h2 h1 (by simp +arith only)
inductive LsA (hp:List MO)(i:Nat):List Num→List MV→Prop
 | nil:LsA hp i [] []
 | cons {k r ab a qs us}:a≠i→hp[a]?=some (.list ((ans ab).map .str))→LsA hp i qs us→LsA hp i ((k,r,ab)::qs) (.tup [r.mv,.ref a]::us)
section
variable {hp hp':List MO}{i:Nat}
theorem LsA.up (u:∀j o,j≠i→hp[j]?=some o→hp'[j]?=some o){qs:List Num}{us:List MV}(h:LsA hp i qs us):LsA hp' i qs us:=by
 induction h with
 | nil=>exact .nil
 | cons h1 h2 _ ih=>exact .cons h1 (u _ _ h1 h2) ih
theorem LsA.app {qs qs':List Num}{us us':List MV}(h:LsA hp i qs us)(k:LsA hp i qs' us'):LsA hp i (qs++qs') (us++us'):=by
 induction h with
 | nil=>exact k
 | cons h1 h2 _ ih=>exact .cons h1 h2 ih
theorem LsA.len {qs:List Num}{us:List MV}(h:LsA hp i qs us):us.length=qs.length:=by
 induction h with
 | nil=>rfl
 | cons _ _ _ ih=>exact congrArg (·+1) ih
theorem LsA.get {qs:List Num}{us:List MV}(h:LsA hp i qs us):∀{j:Nat}{q:Num},qs[j]?=some q→∃a,us[j]?=some (.tup [q.2.1.mv,.ref a])∧hp[a]?=some (.list ((ans q.2.2).map .str)):=by
 induction h with
 | nil=>intro j q e;exact az e
 | @cons k r ab a qs us h1 h2 h3 ih=>
  intro j q e
  cases j with
  | zero=>obtain rfl:=Option.some.inj e;exact ⟨a,rfl,h2⟩
  | succ j=>exact ih e
end
variable {K:KT}(hK:aV PP K)
include hK
theorem nV:∀(t:Tm) {N:Nat}{Q:MV→List MO→Prop}{X:XT}{h:List MO},t.deep<N→t.lv≤1000→(∀r h',h<+:h'→h'[r]?=some (.list ((an t).map .str))→Q (.ref r) h')→K N 37 [t.mv] Q X h
 | .num k,N,Q,X,h,hN,hl,hq=>by
  obtain ⟨M,rfl,hM⟩:=room hN
  refine hK _ _ _ _ _ _ be rfl rfl ?_
  exact hq _ _ (aa (ak _)) (af _ _)
 | .nm s,N,Q,X,h,hN,hl,hq=>by
  obtain ⟨M,rfl,hM⟩:=room hN
  refine hK _ _ _ _ _ _ be rfl rfl ?_
  exact hq _ _ (aa (ak _)) (af _ _)
 | .op c a b,N,Q,X,h,hN,hl,hq=>by
  have hN:max a.deep b.deep+1<N:=hN
  have hl:a.lv+b.lv≤1000:=hl
  obtain ⟨M,rfl,hM⟩:=room hN
  have ea:=cO a
  have eb:=cO b
  refine hK _ _ _ _ _ _ be rfl rfl ?_
  refine dP (show ([c]==wV)=false from xq (by decide)) ?_
  refine dP (show ([c]==mF)=false from xq (by decide)) ?_
  refine nV a (n2 hN (Nat.le_max_left a.deep b.deep) (by simp +arith only)) (n1 hl (by simp +arith only)) fun r1 h1 p1 e1=>?_
  refine nV b (n2 hN (Nat.le_max_right a.deep b.deep) (by simp +arith only)) (n1 hl (by simp +arith only)) fun r2 h2 p2 e2=>?_
  refine ai (aj p2 e1) (ai e2 ?_)
  refine ⟨dc (n3 eb ea hl (by simp +arith only)),?_⟩
  exact hq _ _ (aa (List.IsPrefix.trans p1 p2)) (dN _ _ _)
theorem tX {r:Rw}(hN:0<N)(hq:Q (.ref h.length) (h++[.list (r.subs.map fun b=>.tup (mvs b))])):K N 72 [r.mv] Q X h:=by
 obtain ⟨M,rfl,hM⟩:=room hN
 refine hK _ _ _ _ _ _ gG rfl rfl ?_
 cases r with
 | set s t=>exact hq
 | tell t=>exact ⟨⟨rfl,rfl,by decide,Nat.le_of_ble_eq_true rfl⟩,hq⟩
 | skip=>exact ⟨⟨rfl,rfl,by decide,Nat.le_of_ble_eq_true rfl⟩,hq⟩
 | ite t a b=>exact ⟨⟨rfl,rfl,by decide,Nat.le_of_ble_eq_true rfl⟩,hq⟩
 | wh t a=>exact ⟨⟨rfl,rfl,by decide,Nat.le_of_ble_eq_true rfl⟩,hq⟩
theorem zW {r:Rw}(hN:0<N)(hq:Q r.ft.mv h):K N 106 [r.mv] Q X h:=by
 obtain ⟨M,rfl,hM⟩:=room hN
 refine hK _ _ _ _ _ _ fy rfl rfl ?_
 cases r<;>exact hq
end Internal
end
section
namespace Internal
noncomputable def Kp1 (i:Nat)(h h':List MO):Prop:=∀j o,j≠i→h[j]?=some o→h'[j]?=some o
theorem Kp1.refl {i:Nat}(h:List MO):Kp1 i h h:=fun _ _ _ e=>e
theorem Kp1.trans {i:Nat}{a b c:List MO}(x:Kp1 i a b)(y:Kp1 i b c):Kp1 i a c:=fun j o h e=>y j o h (x j o h e)
theorem Kp1.pre {i:Nat}{a b:List MO}(p:a<+:b):Kp1 i a b:=fun _ _ _ e=>aj p e
theorem Kp1.set {i:Nat}{a:List MO}{o:MO}:Kp1 i a (a.set i o):=fun j _ h e=>ap (Ne.symm h) e
theorem xt {r:Rw}{b:List Rw}(h:b∈r.subs):r.tm=r.ft:=by
 cases r with
 | ite t x y=>rfl
 | wh t x=>rfl
 | _=>exact aN h
variable {K:KT}
noncomputable def LI (K:KT)(rs:List Rw):Prop:=∀{N:Nat}{k:Int}{ab:List Tm}{ar i:Nat}{vs:List MV}{Q:MV→List MO→Prop}{X:XT}{h:List MO}{u:MV}{g:Gd},cR .val [u] h=some (mvs rs,g)→(∀hp,Kp1 i h hp→aO g hp)→cJ rs→(∀t∈ab,t.good)→ab.length+ay rs≤7→vs.length+au rs≤10000→ay rs+6<N→h[ar]?=some (.list ((ans ab).map .str))→ar≠i→h[i]?=some (.list vs)→
 (∀h' us,Kp1 i h h'→h'[i]?=some (.list (vs++us))→LsA h' i (nums k ab rs) us→Q (.ref i) h')→K N 107 [u,.ref ar,.ref i] Q X h
variable (hK:aV PP K)
include hK
theorem zX (rs:List Rw)(ih:∀r∈rs,∀b∈r.subs,LI K b):LI K rs:=by
 intro N k ab ar i vs Q X h u g hit hgd hg hab hl hz hN har hne hi hq
 obtain ⟨M,rfl,hM⟩:=room hN
 have la:=nU hab
 refine hK _ _ _ _ _ _ gH rfl rfl ?_
 refine aJ hit ?_
 refine jQ (fun j w3 w4 hp us=>⟨[some u,some (.ref ar),some (.ref i),w3,w4],hp⟩) (fun j w3 w4 hp us=>A3 (Kp1 i h hp) (hp[i]?=some (.list (vs++us))) (LsA hp i (nums k ab (rs.take j)) us)) none none h [] rfl ⟨.refl _,by rw [List.append_nil];exact hi,.nil⟩ (fun _ _ _ _ _ hI=>hgd _ hI.h1) (fun j x w3 w4 hp us P hx hI hn _=>?_) (fun w3 w4 hp us hI=>?_)
 ·refine hI.el fun k1 e1 a1=>?_
  obtain ⟨r,hr,rfl⟩:=rB hx
  have hm:=List.mem_of_getElem? hr
  have gr:=f7 hg r hm
  have sz:au (rs.take (j+1))≤au rs:=kZ rs _
  rw [aw hr,df,show au [r]=r.size from Nat.add_zero _,size_eq] at sz
  have l1:us.length=au (rs.take j):=by rw [a1.len,bE]
  refine aC (aH e1) (bg (bf e1) ?_)
  refine ⟨Nat.lt_of_lt_of_le (show _<10000 by rw [List.length_append];exact n3 (Nat.le_of_eq l1) sz hz (by simp +arith only)) (aL (by decide)),?_⟩
  have e2:(hp.set i (.list (vs++us++[MV.tup [r.mv,.ref ar]])))[i]?=some (.list (vs++us++[MV.tup [r.mv,.ref ar]])):=get_set e1
  have k2:Kp1 i hp (hp.set i (.list (vs++us++[MV.tup [r.mv,.ref ar]]))):=.set
  refine tX hK (r:=r) (n1 hN (by simp +arith only)) ?_
  refine aJ (aG (af _ _)) ?_
  have p3:hp.set i (.list (vs++us++[MV.tup [r.mv,.ref ar]]))<+:(hp.set i (.list (vs++us++[MV.tup [r.mv,.ref ar]])))++[MO.list (r.subs.map fun b=>.tup (mvs b))]:=aa (ak _)
  have nei:i≠(hp.set i (.list (vs++us++[MV.tup [r.mv,.ref ar]]))).length:=Nat.ne_of_lt (List.getElem?_eq_some_iff.mp e2).1
  have a2:LsA (hp.set i (.list (vs++us++[MV.tup [r.mv,.ref ar]]))) i (nums k ab (rs.take j)++[(k+au (rs.take j),r,ab)]) (us++[MV.tup [r.mv,.ref ar]]):=(a1.up k2).app (.cons hne (k2 _ _ hne (k1 _ _ hne har)) .nil)
  refine nE (fun j2 w4 hp2 us2=>⟨[some u,some (.ref ar),some (.ref i),some r.mv,w4],hp2⟩) (fun j2 w4 hp2 us2=>A4 (Kp1 i hp hp2) (hp2[i]?=some (.list (vs++(us++[MV.tup [r.mv,.ref ar]]++us2)))) (LsA hp2 i (nums k ab (rs.take j)++[(k+au (rs.take j),r,ab)]++cK (k+au (rs.take j)+1) (ab++[r.tm]) (r.subs.take j2)) (us++[MV.tup [r.mv,.ref ar]]++us2)) (hp2[(hp.set i (.list (vs++us++[MV.tup [r.mv,.ref ar]]))).length]?=some (.list (r.subs.map fun b=>.tup (mvs b)))))
   _ _ [] rfl ⟨k2.trans (.pre p3),by rw [List.append_nil,←List.append_assoc];exact aj p3 e2,by rw [List.append_nil];show LsA _ i (_++[]) _;rw [List.append_nil];exact a2.up fun _ _ _ e=>aj p3 e,af _ _⟩ (fun _ _ _ _ hI=>hI.h4) (fun j2 y w4 hp2 us2 P2 hy hI hn2 _=>?_) (fun w4 hp2 us2 hI=>?_)
  ·refine hI.el fun q1 q2 q3 q4=>?_
   obtain ⟨b,hb,rfl⟩:=Option.map_eq_some_iff.mp (List.getElem?_map ..▸hy)
   have hbm:=List.mem_of_getElem? hb
   have gt:r.ft.good:=rK gr
   have nb1:=d9 b hbm
   have nr:=d8 (Nat.le_refl (ay rs)) r hm
   have ss:=jx r.subs (j2+1)
   rw [aw hb,dA,show bk [b]=au b from Nat.add_zero _] at ss
   have l2:us2.length=bk (r.subs.take j2):=by
    have h1:=q3.len
    have h2:∀(bs:List (List Rw)) (k:Int) (ab:List Tm),(cK k ab bs).length=bk bs:=fun bs=>by
     induction bs with
     | nil=>intro k ab;rfl
     | cons b bs ih=>intro k ab;show (nums k ab b++cK (k+au b) ab bs).length=au b+bk bs;rw [List.length_append,bE,ih]
    rw [List.length_append,List.length_append,List.length_append,List.length_append,h2,bE,List.length_singleton,List.length_singleton] at h1
    lia
   have har2:=q1 _ _ hne (k1 _ _ hne har)
   refine zW hK (r:=r) (n1 hN (by simp +arith only)) ?_
   refine nV hK r.ft (by have:=gt.2;exact n2 this hN (by simp +arith only)) (Nat.le_trans gt.lv (nb rfl)) fun r5 h5 p5 e5=>?_
   have p5:hp2<+:h5:=p5
   refine ai (aj p5 har2) (ai e5 ?_)
   have ln:=Nat.le_trans (cO r.ft) gt.lv
   refine ⟨dc (Nat.le_trans (Nat.add_le_add (Nat.le_trans la (Nat.mul_le_mul_left 8 (Nat.le_trans (Nat.le_add_right _ _) hl))) ln) (nb rfl)),?_⟩
   have e6:(h5++[MO.list ((ans ab).map .str++(an r.ft).map .str)])[h5.length]?=some (.list ((ans (ab++[r.tm])).map .str)):=by rw [xt hbm,zV];exact dN _ _ _
   have p6:hp2<+:h5++[MO.list ((ans ab).map .str++(an r.ft).map .str)]:=aa p5
   have hlt:i<h5.length:=Nat.lt_of_lt_of_le (List.getElem?_eq_some_iff.mp q2).1 p5.length_le
   refine ih r hm b hbm (k:=k+au (rs.take j)+1+bk (r.subs.take j2)) (ab:=ab++[r.tm]) rfl (fun _ _=>trivial) (pd gr b hbm) (fun t ht=>(List.mem_append.mp ht).elim (hab t) fun e=>by rw [List.mem_singleton.mp e,xt hbm];exact gt) (by rw [List.length_append,List.length_singleton];exact n3 nr nb1 hl (by simp +arith only)) ?_ (n3 nr nb1 hN (by simp +arith only)) e6 (Nat.ne_of_gt hlt) (aj p6 q2) fun h7 us7 k7 e7 a7=>?_
   ·rw [List.length_append,List.length_append,List.length_append,List.length_singleton,l1,l2];exact n3 hz sz ss (by simp +arith only)
   ·refine hn2 _ h7 (us2++us7) ⟨(q1.trans (.pre p6)).trans k7,?_,?_,k7 _ _ (Ne.symm nei) (aj p6 q4)⟩
    ·rw [e7];simp only [List.append_assoc]
    ·rw [aw hb,i3,←List.append_assoc,←List.append_assoc]
     refine (q3.up fun j o hj e=>k7 j o hj (aj p6 e)).app ?_
     show LsA h7 i (nums _ _ b++[]) us7
     rw [List.append_nil];exact a7
  ·refine hI.el fun q1 q2 q3 q4=>?_
   rw [List.length_map,List.take_length] at q3
   refine hn _ _ hp2 (us++[MV.tup [r.mv,.ref ar]]++us2) ⟨k1.trans q1,q2,?_⟩
   rw [aw hr,iI,show nums (k+au (rs.take j)) ab [r]=r.num (k+au (rs.take j)) ab from List.append_nil _,xc]
   rw [List.append_assoc] at q3
   exact q3
 ·refine hI.el fun k1 e1 a1=>?_
  rw [dM,List.take_length] at a1
  exact hq _ _ k1 e1 a1
theorem xu (rs:List Rw):LI K rs:=fD (P:=fun rs=>LI K rs) (fun rs ih=>zX hK rs ih) rs
end Internal
end
section
namespace Internal
theorem AM {m:MS}{a:Nat}{v:MV}(h:a<m.vars.length):(m.set a v).get a=some v:=by
 unfold MS.get MS.set
 rw [List.getElem?_set_self h]
theorem xw {α:Type}{p:α→Bool}{ys:List α}{j:Nat}{s:α}(e:ys[j]?=some s)(h:p s=true):(ys.take (j+1)).filter p=(ys.take j).filter p++[s]:=by
 rw [aw e,List.filter_append,List.filter_cons_of_pos h];rfl
theorem xx {α:Type}{p:α→Bool}{ys:List α}{j:Nat}{s:α}(e:ys[j]?=some s)(h:p s=false):(ys.take (j+1)).filter p=(ys.take j).filter p:=by
 rw [aw e,List.filter_append,List.filter_cons_of_neg (by rw [h];exact Bool.false_ne_true)];exact List.append_nil _
theorem Fc {m:MS}{i j:Nat}{v:MV}(h:i≠j):(m.set i v).get j=m.get j:=by
 unfold MS.get MS.set
 rw [List.getElem?_set_ne h]
noncomputable def fil (sec l:List Txt):List Txt:=l.filter fun x=>sec.contains x
theorem rO {sec l:List Txt}{x:Txt}:x∈fil sec l↔x∈l∧x∈sec:=by
 unfold fil;rw [List.mem_filter,List.contains_iff_mem]
theorem zY {sec l:List Txt}:(fil sec l).isEmpty=!l.any sec.contains:=by
 rw [Bool.eq_iff_iff,List.isEmpty_iff,Bool.not_eq_true',Bool.eq_false_iff]
 constructor
 ·intro h q
  refine e12 (List.any_eq_true.mp q) fun n h1 h2=>?_
  have:n∈fil sec l:=rO.mpr ⟨h1,List.contains_iff_mem.mp h2⟩
  rw [h] at this;exact aN this
 ·intro h
  refine List.eq_nil_iff_forall_not_mem.mpr fun n hn=>h ?_
  obtain ⟨h1,h2⟩:=rO.mp hn
  exact List.any_eq_true.mpr ⟨n,h1,List.contains_iff_mem.mpr h2⟩
section
variable {K:KT}
theorem Fd {n v w s:Nat}{src:ME}{l sec:List Txt}{vs:List (Option MV)}{hp:List MO}{P:PQ}{X:XM}(hsrc:∀P':PQ,(∀hp' r,hp<+:hp'→hp'[r]?=some (.list (l.map .str))→P' (.ref r) ⟨vs,hp'⟩)→wpE K n src P' X ⟨vs,hp⟩)(ol:∀x∈l,okS x)(hs:hp[s]?=some (.list (sec.map .str)))(os:∀x∈sec,okS x)(hv:v<vs.length)(hw:∀hp',(MS.mk vs hp').get w=some (.ref s))(hne:v≠w)
  (hq:∀hp',hp<+:hp'→P (.ref hp'.length) ⟨vs,hp'++[.list ((fil sec l).map .str)]⟩):wpE K n (.comp (.var v) [v] false .val [src] [.cmp .inn (.var v) (.var w)]) P X ⟨vs,hp⟩:=by
 refine hsrc _ fun hp r pre hl=>?_
 have hs:=aj pre hs
 have hq:=hq hp pre
 have hw:=hw hp
 refine aJ (aG hl) ?_
 refine jS (fun z=>⟨vs.set v z,hp⟩) (fun j=>(fil sec (l.take j)).map .str) (vs[v]'hv) (by rw [List.set_getElem_self]) rfl (fun _=>hl) (fun j x z P hx n1 n2=>?_) (fun z=>?_)
 ·obtain ⟨y,hy,rfl⟩:=Option.map_eq_some_iff.mp (List.getElem?_map ..▸hx)
  have e:(MS.mk (vs.set v z) hp).set v (.str y)=⟨vs.set v (some (.str y)),hp⟩:=by unfold MS.set;rw [List.set_set]
  have g1:(MS.mk (vs.set v (some (.str y))) hp).get v=some (.str y):=AM (m:=⟨vs,hp⟩) hv
  have g2:(MS.mk (vs.set v (some (.str y))) hp).get w=some (.ref s):=(Fc (m:=⟨vs,hp⟩) hne).trans hw
  show wpE K n (.var v) _ noX ((MS.mk (vs.set v z) hp).set v (.str y))
  rw [e]
  refine iB g1 ?_
  refine iB g2 ?_
  refine ax hs ?_
  refine bL (ol y (List.mem_of_getElem? hy)) os ?_
  refine fc (fun q=>?_) fun q=>?_
  ·show wpE K n (.var v) (fun x m=>P (some x) m) noX ⟨vs.set v (some (.str y)),hp⟩
   refine iB g1 (n1 _ _ ?_)
   show ((l.take (j+1)).filter _).map MV.str=((l.take j).filter _).map MV.str++_
   rw [xw hy q,List.map_append];rfl
  ·refine n2 _ ?_
   show ((l.take (j+1)).filter _).map MV.str=((l.take j).filter _).map MV.str
   rw [xx hy q]
 ·rw [List.length_map,List.take_length]
  exact hq
theorem GG {n:Nat}{c:ME}{a r:List MSt}{Q:Fl→MS→Prop}{X:XM}{m:MS}(hc:∀P:PQ,P (.bool false) m→wpE K n c P X m)(h:aP K n r Q X m):aP K n (.ite c a []::r) Q X m:=hc _ h
theorem GA {n:Nat}{e:ME}{a b r:List MSt}{Q:Fl→MS→Prop}{X:XM}{m:MS}(h:wpE K n e (fun x m=>wpE K n (.list []) (fun y m=>jd .ne x y (fun t m=>match t with
  | true=>aP K n a (fun f m=>match f with
   | .next=>aP K n r Q X m
   | f=>Q f m) X m
  | false=>aP K n b (fun f m=>match f with
   | .next=>aP K n r Q X m
   | f=>Q f m) X m) m) X m) X m):aP K n (.ite (.cmp .ne e (.list [])) a b::r) Q X m:=h
theorem zZ (hK:aV PP K){n u r:Nat}{a:ME}{t:Tm}{ab:List Tm}{m:MS}{P:PQ}{X:XM}(ha:∀P':PQ,P' t.mv m→wpE K n a P' X m)(hu:∀hp',(MS.mk m.vars hp').get u=some (.ref r))(hr:m.heap[r]?=some (.list ((ans ab).map .str)))(gt:t.good)(ga:∀t∈ab,t.good)(ll:ab.length≤7)(hn:3<n)
  (hq:∀hp' i,m.heap<+:hp'→hp'[i]?=some (.list ((an t++ans ab).map .str))→P (.ref i) ⟨m.vars,hp'⟩):wpE K n (.bin .add (.call 37 [a]) (.var u)) P X m:=by
 refine ha _ ?_
 refine nV hK t (by have:=gt.2;exact n2 this hn (by simp +arith only)) (Nat.le_trans gt.lv (nb rfl)) fun r5 h5 p5 e5=>?_
 have p5:m.heap<+:h5:=p5
 refine iB (hu h5) ?_
 refine ai e5 (ai (aj p5 hr) ?_)
 have ln:=Nat.le_trans (cO t) gt.lv
 have la:(ans ab).length≤8 * ab.length:=nU ga
 refine ⟨dc (Nat.le_trans (Nat.add_le_add ln (Nat.le_trans la (Nat.mul_le_mul_left 8 ll))) (nb rfl)),?_⟩
 exact hq _ _ (aa p5) (dN _ _ _)
end
end Internal
end
section
namespace Internal
noncomputable def yN (b n:Nat):List (List Nat):=(List.range n).map fun (k:Nat)=>121::b::dec k
theorem xy:∀s∈yN 111 20++yN 115 20,Gn s:=by unfold Gn Nm;decide +kernel
theorem GB:(yN 111 20++yN 115 20).Nodup:=by decide +kernel
theorem xA (b:Nat){n:Nat}(h:n≤20):(yN b n).Sublist (yN b 20):=by
 have e:yN b n=(yN b 20).take n:=by
  unfold yN;rw [←List.map_take,List.take_range,Nat.min_eq_left h]
 rw [e];exact List.take_sublist ..
theorem xB (b n:Nat):(yN b n).length=n:=by unfold yN;rw [List.length_map,List.length_range]
section
variable {K:KT}
theorem AN {n i:Nat}{e:ME}{r:List MSt}{Q:Fl→MS→Prop}{X:XM}{m:MS}(h:wpE K n e (fun v m=>aP K n r Q X (m.set i v)) X m):aP K n (.asg [i] false e::r) Q X m:=h
theorem z0 {n:Nat}{a b:ME}{Q:PQ}{X:XM}{m:MS}(h:wpE K n a (fun x m=>wpE K n b (fun y m=>Q (.ref m.heap.length) (m.push (.list [x,y]))) X m) X m):wpE K n (.list [a,b]) Q X m:=h
theorem xC {g:Gd}{step:MV→(Option MV→MS→Prop)→MS→Prop}{Q:List MV→MS→Prop}{x y:MV}{m:MS}(A:MV→MS→Prop)(B:MV→MV→MS→Prop)(g0:aO g m.heap)(h1:∀P:Option MV→MS→Prop,(∀a m1,A a m1→P (some a) m1)→step x P m)(ga:∀a m1,A a m1→aO g m1.heap)
  (h2:∀a m1,A a m1→∀P:Option MV→MS→Prop,(∀b m2,B a b m2→P (some b) m2)→step y P m1) (gb:∀a b m2,B a b m2→aO g m2.heap∧Q [a,b] m2):cq g step Q [x,y] [] m:=by
 rw [ej]
 refine ⟨g0,h1 _ fun a m1 hA=>?_⟩
 show cq g step Q [y] [a] m1
 rw [ej]
 refine ⟨ga a m1 hA,h2 a m1 hA _ fun b m2 hB=>?_⟩
 show cq g step Q [] [a,b] m2
 rw [iO]
 exact gb a b m2 hB
theorem xD {n v b:Nat}{k:Int}{src:ME}{m:MS}{Q:PQ}{X:XM}(hk:0≤k∧k≤20)(hsrc:∀Q:PQ,Q (.int k) m→wpE K n src Q X m)(hv:v<m.vars.length)(hq:Q (.ref m.heap.length) ⟨m.vars,m.heap++[.list ((yN b k.toNat).map .str)]⟩) :
  wpE K n (.comp (.bin .add (.cst (.str [121,b])) (.blt .str [.var v])) [v] false .range1 [src] []) Q X m:=by
 refine hsrc _ ?_
 refine aJ (fB (z1 hk.1 (by simp +arith only)) (z1 hk.2 (by simp +arith only))) ?_
 refine de (fun j a m'=>m'.vars.length=m.vars.length∧m'.heap=m.heap∧a=((yN b k.toNat).take j).map .str) ⟨rfl,rfl,rfl⟩ (fun _ _ _ _=>trivial) (fun j x a m' P hx hI n1 _=>?_) (fun a m' hI=>?_)
 ·obtain ⟨e1,e2,rfl⟩:=hI
  obtain ⟨hj,rfl⟩:=fC hx
  show wpE K n (.var v) _ noX (m'.set v (.int j))
  refine iB (AM (by rw [e1];exact hv)) ?_
  have hj6:(j:Int)<1000000:=Int.lt_trans (Int.lt_of_lt_of_le (Int.lt_toNat.mp hj) hk.2) (by decide)
  refine ⟨⟨Int.natCast_nonneg _,hj6⟩,?_⟩
  have:=(mY (i:=(j:Int)) ⟨Int.natCast_nonneg _,hj6⟩).2
  refine ⟨aL (Nat.le_trans (Nat.add_le_add_left this 2) (nb rfl)),?_⟩
  refine n1 _ _ ⟨by show (m'.vars.set v _).length=_;rw [List.length_set,e1],e2,?_⟩
  rw [aw (r:=121::b::dec j) (by unfold yN;rw [List.getElem?_map,List.getElem?_range hj];rfl),List.map_append];rfl
 ·obtain ⟨e1,e2,rfl⟩:=hI
  show Q (.ref m'.heap.length) ⟨m.vars,m'.heap++[.list _]⟩
  rw [mC,List.take_of_length_le (by rw [xB];exact Nat.le_refl _),e2]
  exact hq
theorem xE {n r a:Nat}{ss ys:List (List Nat)}{v1 v2 v3 v4 v5 v7:Option MV}{hp:List MO}{Q:PQ}{X:XM}(hr:hp[r]?=some (.list (ss.map .str)))(hs:∀s∈ss,okS s)(ha:hp[a]?=some (.list (ys.map .str)))(hy:∀s∈ys,okS s)(hq:Q (.ref hp.length) ⟨[some (.ref r),v1,v2,v3,v4,v5,some (.ref a),v7],hp++[.list ((ys.filter fun s=>!ss.contains s).map .str)]⟩) :
  wpE K n (.comp (.var 7) [7] false .val [.var 6] [.cmp .nin (.var 7) (.var 0)]) Q X ⟨[some (.ref r),v1,v2,v3,v4,v5,some (.ref a),v7],hp⟩:=by
 refine aJ (aG ha) ?_
 refine jS (fun w=>⟨[some (.ref r),v1,v2,v3,v4,v5,some (.ref a),w],hp⟩) (fun j=>((ys.take j).filter fun s=>!ss.contains s).map .str) _ rfl rfl (fun _=>ha) (fun j x w P hx n1 n2=>?_) (fun w=>?_)
 ·obtain ⟨s,hs1,rfl⟩:=Option.map_eq_some_iff.mp (List.getElem?_map ..▸hx)
  refine ax hr ?_
  refine bL (hy s (List.mem_of_getElem? hs1)) hs ?_
  cases q:ss.contains s with
  | true=>exact n2 _ (by rw [xx hs1 (by rw [q];rfl)])
  | false=>exact n1 _ _ (by rw [xw hs1 (by rw [q];rfl),List.map_append];rfl)
 ·rw [List.length_map,List.take_length]
  exact hq
variable (hK:aV PP K)
include hK
theorem Dx {c:Int}{r:Nat}{ss:List (List Nat)}{N:Nat}{Q:MV→List MO→Prop}{X:XT}{h:List MO}(hr:h[r]?=some (.list (ss.map .str)))(hs:∀s∈ss,okS s)(hN:0<N)
  (hq:∀(h':List MO) (i a b:Nat) (U V:List (List Nat)),h<+:h'→h'[i]?=some (.list [.ref a,.ref b])→h'[a]?=some (.list (U.map .str))→h'[b]?=some (.list (V.map .str))→U.Sublist (yN 111 20)→V.Sublist (yN 115 20)→(∀s∈U++V,s∉ss)→Q (.ref i) h'):K N 95 [.ref r,.int c] Q X h:=by
 obtain ⟨m,rfl,hM⟩:=room hN
 refine hK _ _ _ _ _ _ fA rfl rfl ?_
 refine ai (af _ _) ?_
 have hx:0≤c % 4∧c % 4<4:=em rfl
 obtain ⟨x,hx1,k,rfl,hk⟩:=mD.get (P:=fun _ x=>∃k:Int,x=.int k∧0≤k∧k<20) (n:=0) (l:=[MV.int 0,.int (c / 4 % 3),.int (c / 4 % 20),.int 0]) (.cons ⟨0,rfl,by decide⟩ (.cons ⟨_,rfl,em rfl⟩ (.cons ⟨_,rfl,em rfl⟩ (.cons ⟨0,rfl,by decide⟩ .nil)))) (c % 4).toNat (by show _<4;exact emN rfl)
 refine bu (bi hx.1 hx.2) hx1 ?_
 have rest:∀hp:List MO,h<+:hp→aP K m (fA.body.drop 1) (fin Q) (xin X) ⟨[some (.ref r),some (.int c),some (.int k),none,none,none,none,none],hp⟩:=fun hp p1=>by
  refine AN (z0 ?_)
  refine xD (⟨z1 hk.1 (by simp +arith only),z1 hk.2 (by simp +arith only)⟩) (fun Q hq=>hq) (Nat.le_of_ble_eq_true rfl) ?_
  have hk2:0≤k+c / 4 % 2∧k+c / 4 % 2≤20:=by lia
  have hn2:(k+c / 4 % 2).toNat≤20:=Int.toNat_le.mpr hk2.2
  have hn1:k.toNat≤20:=by lia
  refine xD (k:=k+c / 4 % 2) hk2 (fun Q hq=>hq) (Nat.le_of_ble_eq_true rfl) ?_
  have ya:∀b n,b=111∨b=115→n≤20→∀s∈yN b n,okS s:=fun b n hb hn s hs=>by
   have hs:=(xA b hn).subset hs
   rcases hb with rfl | rfl
   ·exact (xy s (List.mem_append_left _ hs)).1.ok
   ·exact (xy s (List.mem_append_right _ hs)).1.ok
  have q1:=p1.trans (aa (o:=.list ((yN 115 (k+c / 4 % 2).toNat).map .str)) (aa (o:=.list ((yN 111 k.toNat).map .str)) (ak hp)))
  have q2:(hp++[MO.list ((yN 111 k.toNat).map .str)]++[.list ((yN 115 (k+c / 4 % 2).toNat).map .str)])[hp.length]?=some (.list ((yN 111 k.toNat).map .str)):=ah (af _ _)
  have q3:(hp++[MO.list ((yN 111 k.toNat).map .str)]++[.list ((yN 115 (k+c / 4 % 2).toNat).map .str)])[(hp++[MO.list ((yN 111 k.toNat).map .str)]).length]?=some (.list ((yN 115 (k+c / 4 % 2).toNat).map .str)):=af _ _
  dsimp only
  generalize (hp++[MO.list ((yN 111 k.toNat).map .str)]).length=b at *
  generalize hp++[MO.list ((yN 111 k.toNat).map .str)]++[.list ((yN 115 (k+c / 4 % 2).toNat).map .str)]=h1 at *
  refine aJ (aG (af _ _)) ?_
  refine xC (fun a m=>a=.ref (h1++[MO.list [.ref hp.length,.ref b]]).length∧m=⟨[some (.ref r),some (.int c),some (.int k),some (.ref h1.length),none,none,some (.ref hp.length),none],h1++[MO.list [.ref hp.length,.ref b]]++[MO.list (((yN 111 k.toNat).filter fun s=>!ss.contains s).map .str)]⟩) (fun a e m=>a=.ref (h1++[MO.list [.ref hp.length,.ref b]]).length∧e=.ref (h1++[MO.list [.ref hp.length,.ref b]]++[MO.list (((yN 111 k.toNat).filter fun s=>!ss.contains s).map .str)]).length∧m.heap=h1++[MO.list [.ref hp.length,.ref b]]++[MO.list (((yN 111 k.toNat).filter fun s=>!ss.contains s).map .str)]++[MO.list (((yN 115 (k+c / 4 % 2).toNat).filter fun s=>!ss.contains s).map .str)])
   (af _ _) (fun P n1=>?_) (fun a m1 hA=>by obtain ⟨_,rfl⟩:=hA;exact ah (af _ _)) (fun a m1 hA P n1=>?_) (fun a e m2 hB=>?_)
  ·show wpE K m (.comp (.var 7) [7] false .val [.var 6] [.cmp .nin (.var 7) (.var 0)]) (fun x m=>P (some x) m) noX ⟨[some (.ref r),some (.int c),some (.int k),some (.ref h1.length),none,none,some (.ref hp.length),none],h1++[MO.list [.ref hp.length,.ref b]]⟩
   refine xE (n:=m) (v1:=some (.int c)) (v2:=some (.int k)) (v3:=some (.ref h1.length)) (v4:=none) (v5:=none) (v7:=none) (ah (aj q1 hr)) hs (ah q2) (ya 111 _ (.inl rfl) hn1) ?_
   exact n1 _ _ ⟨rfl,rfl⟩
  ·obtain ⟨rfl,rfl⟩:=hA
   show wpE K m (.comp (.var 7) [7] false .val [.var 6] [.cmp .nin (.var 7) (.var 0)]) (fun x m=>P (some x) m) noX ⟨[some (.ref r),some (.int c),some (.int k),some (.ref h1.length),none,none,some (.ref b),none],h1++[MO.list [.ref hp.length,.ref b]]++[MO.list (((yN 111 k.toNat).filter fun s=>!ss.contains s).map .str)]⟩
   refine xE (n:=m) (v1:=some (.int c)) (v2:=some (.int k)) (v3:=some (.ref h1.length)) (v4:=none) (v5:=none) (v7:=none) (ah (ah (aj q1 hr))) hs (ah (ah q3)) (ya 115 _ (.inr rfl) hn2) ?_
   exact n1 _ _ ⟨rfl,rfl,rfl⟩
  obtain ⟨rfl,rfl,hB⟩:=hB
  refine ⟨by rw [hB];exact ah (ah (af _ _)),?_⟩
  show Q _ (m2.heap++[_])
  rw [hB]
  refine hq _ _ _ _ ((yN 111 k.toNat).filter fun s=>!ss.contains s) ((yN 115 (k+c / 4 % 2).toNat).filter fun s=>!ss.contains s) (q1.trans (aa (aa (aa (aa (ak _)))))) (af _ _) (ah (ah (af _ _))) (ah (af _ _)) (List.filter_sublist.trans (xA _ hn1)) (List.filter_sublist.trans (xA _ hn2)) fun s hs' q=>?_
  have hc:ss.contains s=true:=List.contains_iff_mem.mpr q
  rcases List.mem_append.mp hs' with h1 | h1
  ·have:=(List.mem_filter.mp h1).2;rw [hc] at this;exact ff this
  ·have:=(List.mem_filter.mp h1).2;rw [hc] at this;exact ff this
 exact rest _ (aa (ak _))
end
end Internal
end
section
namespace Internal
theorem pn {α:Type}(n:Nat)(l:List α):(l.drop n++l.take n).Perm l:=by
 have:=List.perm_append_comm (l₁:=l.drop n) (l₂:=l.take n)
 rw [List.take_append_drop] at this;exact this
section
variable {K:KT}(hK:aV PP K)
include hK
theorem z4 {c:Int}{r i a b:Nat}{ss U V:List (List Nat)}{N:Nat}{Q:MV→List MO→Prop}{X:XT}{h:List MO}(hr:h[r]?=some (.list (ss.map .str)))(ten:ss.length=10)(hi:h[i]?=some (.list [.ref a,.ref b]))(ha:h[a]?=some (.list (U.map .str)))(hb:h[b]?=some (.list (V.map .str)))(hU:U.length≤20)(hV:V.length≤20)(hN:0<N)
  (hq:∀(h':List MO) (i a b:Nat) (A B A' B':List (List Nat)),h<+:h'→h'[i]?=some (.list [.ref a,.ref b])→h'[a]?=some (.list (A.map .str))→h'[b]?=some (.list (B.map .str))→A.Perm (U++A')→B.Perm (V++B')→A'.Sublist (ss.take 5)→B'.Sublist (ss.drop 5)→Q (.ref i) h'):K N 96 [.ref r,.ref i,.int c] Q X h:=by
 obtain ⟨m,rfl,hM⟩:=room hN
 refine hK _ _ _ _ _ _ dL rfl rfl ?_
 refine ai hi ?_
 refine ax ha ?_
 refine ai (ah hi) ?_
 refine ax (ah hb) ?_
 have loop:∀(hp:List MO) (ra rb rr:Nat),h<+:hp→h.length≤ra→h.length≤rb→ra≠rb→ra≠rr→rb≠rr→hp[rr]?=some (.list [.ref ra,.ref rb])→hp[ra]?=some (.list (U.map .str))→hp[rb]?=some (.list (V.map .str))→
   aP K m (dL.body.drop 2) (fin Q) (xin X) ⟨[some (.ref r),some (.ref i),some (.int c),some (.ref rr),some (.int c),none,none,none],hp⟩:=fun hp ra rb rr p0 la lb n1 n2 n3 e1 e2 e3=>by
  refine aJ (mB (aj p0 hr)) ?_
  refine iw (fun j (v:Int) (w5:Option MV) (w6:Option MV) (hp:List MO) (A:List (List Nat)) (B:List (List Nat))=>⟨[some (.ref r),some (.ref i),some (.int c),some (.ref rr),some (.int v),w5,w6,none],hp⟩) (fun j (v:Int) (w5:Option MV) (w6:Option MV) (hp:List MO) (A:List (List Nat)) (B:List (List Nat))=>A6 (h<+:hp) (hp[rr]?=some (.list [.ref ra,.ref rb])) (hp[ra]?=some (.list ((U++A).map .str))) (hp[rb]?=some (.list ((V++B).map .str))) (A.Sublist ((ss.take 5).take j)) (B.Sublist ((ss.drop 5).take (j-5))))
   c none none hp [] [] rfl ⟨p0,e1,by rw [List.append_nil];exact e2,by rw [List.append_nil];exact e3,List.nil_sublist _,List.nil_sublist _⟩ (fun _ _ _ _ _ _ _ hI=>aj hI.h1 hr) (fun j x v w5 w6 hp A B P hx hI hn _=>?_) (fun v w5 w6 hp A B hI=>?_)
  ·refine hI.el fun p1 f1 f2 f3 sA sB=>?_
   obtain ⟨z,hz1,rfl⟩:=nG hx
   obtain ⟨s,hs1,rfl⟩:=Option.map_eq_some_iff.mp (List.getElem?_map ..▸hz1)
   have hj:=(List.getElem?_eq_some_iff.mp hs1).1
   have lA:=sA.length_le
   have lB:=sB.length_le
   rw [List.length_take,List.length_take] at lA
   rw [List.length_take,List.length_drop] at lB
   have tA:((ss.take 5).take j).Sublist ((ss.take 5).take (j+1)):=List.take_sublist_take_left (Nat.le_succ _)
   have tB:((ss.drop 5).take (j-5)).Sublist ((ss.drop 5).take (j+1-5)):=List.take_sublist_take_left (Nat.sub_le_sub_right (Nat.le_succ _) _)
   refine ⟨rfl,?_⟩
   refine si (fun _=>?_) fun _=>?_
   ·exact hn _ _ _ hp A B ⟨p1,f1,f2,f3,sA.trans tA,sB.trans tB⟩
   ·refine ai f1 ?_
    rcases Nat.lt_or_ge j 5 with h5 | h5
    ·refine bu (j:=0) (v:=.ref ra) ?_ rfl ?_
     ·rw [show (j:Int) / 5=0 from Int.ediv_eq_zero_of_lt (Int.natCast_nonneg _) (Int.ofNat_lt.mpr h5)];rfl
     refine aC (aH f2) ?_
     refine bg (bf f2) ?_
     have lA:=Nat.le_trans lA (Nat.min_le_left ..)
     refine ⟨by rw [List.length_map,List.length_append];exact lk (Internal.n3 hU lA h5 (by simp +arith only)) (b:=1000) rfl,?_⟩
     refine hn _ _ _ _ (A++[s]) B ⟨aR p1 la,ap n2 f1,?_,ap n1 f3,?_,sB.trans tB⟩
     ·rw [show (U++(A++[s])).map MV.str=(U++A).map MV.str++[.str s] by rw [←List.append_assoc,List.map_append];rfl];exact get_set f2
     ·rw [aw (r:=s) (by rw [List.getElem?_take_of_lt h5];exact hs1)]
      exact sA.append (List.Sublist.refl _)
    ·refine bu (j:=1) (v:=.ref rb) ?_ rfl ?_
     ·rw [show (j:Int) / 5=1 by lia];rfl
     refine aC (aH f3) ?_
     refine bg (bf f3) ?_
     have lB:=Nat.le_trans (Nat.le_trans lB (Nat.min_le_left ..)) (Nat.sub_le _ _)
     refine ⟨by rw [List.length_map,List.length_append];exact lk (Internal.n3 hV lB (Nat.le_trans hj (Nat.le_of_eq ten)) (by simp +arith only)) (b:=1000) rfl,?_⟩
     refine hn _ _ _ _ A (B++[s]) ⟨aR p1 lb,ap n3 f1,ap (Ne.symm n1) f2,?_,sA.trans tA,?_⟩
     ·rw [show (V++(B++[s])).map MV.str=(V++B).map MV.str++[.str s] by rw [←List.append_assoc,List.map_append];rfl];exact get_set f3
     ·rw [Nat.succ_sub h5,aw (r:=s) (by rw [List.getElem?_drop,Nat.add_sub_cancel' h5];exact hs1)]
      exact sB.append (List.Sublist.refl _)
  ·refine hI.el fun p1 f1 f2 f3 sA sB=>?_
   have sA:=sA.trans (List.take_sublist _ _)
   have sB:=sB.trans (List.take_sublist _ _)
   have lA:=sA.length_le
   have lB:=sB.length_le
   rw [List.length_take] at lA
   rw [List.length_drop] at lB
   refine ai f1 ?_
   refine ax f2 ?_
   refine aC (decide_eq_true (Int.lt_of_lt_of_le Int.one_pos (Int.le_max_left ..))) ?_
   refine ai f1 ?_
   refine ax f3 ?_
   refine aC (decide_eq_true (Int.lt_of_lt_of_le Int.one_pos (Int.le_max_left ..))) ?_
   have hx:0≤c / 27 % max 1 (((U++A).map MV.str).length:Int):=Int.emod_nonneg _ (Int.ne_of_gt (Int.lt_of_lt_of_le Int.one_pos (Int.le_max_left ..)))
   have hy:0≤c / 189 % max 1 (((V++B).map MV.str).length:Int):=Int.emod_nonneg _ (Int.ne_of_gt (Int.lt_of_lt_of_le Int.one_pos (Int.le_max_left ..)))
   generalize c / 27 % max 1 (((U++A).map MV.str).length:Int)=x at *
   generalize c / 189 % max 1 (((V++B).map MV.str).length:Int)=y at *
   have fin':∀hp,h<+:hp→hp[rr]?=some (.list [.ref ra,.ref rb])→hp[ra]?=some (.list ((U++A).map .str))→hp[rb]?=some (.list ((V++B).map .str))→aP K m (dL.body.drop 4) (fin Q) (xin X) ⟨[some (.ref r),some (.ref i),some (.int c),some (.ref rr),some (.int v),w5,w6,some (.ref hp.length)],hp++[MO.list [.int x,.int y]]⟩:=fun hp p1 f1 f2 f3=>by
    refine ai (ah f1) ?_
    refine ai (af _ _) ?_
    refine ai (ah f2) ?_
    have rot:∀(l:List (List Nat)) {x:Int},0≤x→aF (l.map MV.str) (some x) none++aF (l.map MV.str) none (some x)=(l.drop x.toNat++l.take x.toNat).map MV.str:=fun l {x} hx=>by
     rw [bQ hx,cj hx,List.map_append,List.map_drop,List.map_take]
    have rln:∀(l:List (List Nat)) {x:Int},0≤x→l.length≤1000→(aF (l.map MV.str) (some x) none).length+(aF (l.map MV.str) none (some x)).length≤line:=fun l {x} hx hl=>by
     rw [bQ hx,cj hx,List.length_drop,List.length_take,List.length_map,Nat.min_comm,Nat.sub_add_min_cancel];exact lk hl rfl
    refine ai (ah (ah f1)) ?_
    refine ai (ah (af _ _)) ?_
    refine ai (ah (ah f2)) ?_
    refine ai (ah (af _ _)) ?_
    refine ai (af _ _) ?_
    refine ⟨rln _ hx (by rw [List.length_append];exact Nat.le_trans (Nat.add_le_add hU (Nat.le_trans lA (Nat.min_le_left _ _))) (nb rfl)),?_⟩
    refine ai (ah (ah (ah (ah f1)))) ?_
    refine ai (ah (ah (ah (af _ _)))) ?_
    refine ai (ah (ah (ah (ah f3)))) ?_
    refine ai (ah (ah (ah (ah (ah f1))))) ?_
    refine ai (ah (ah (ah (ah (af _ _))))) ?_
    refine ai (ah (ah (ah (ah (ah f3))))) ?_
    refine ai (ah (af _ _)) ?_
    refine ai (af _ _) ?_
    refine ⟨rln _ hy (by rw [List.length_append];exact Nat.le_trans (Nat.add_le_add hV (Nat.le_trans lB (Nat.le_trans (Nat.sub_le _ _) (Nat.le_of_eq ten)))) (nb rfl)),?_⟩
    refine hq _ _ _ _ ((U++A).drop x.toNat++(U++A).take x.toNat) ((V++B).drop y.toNat++(V++B).take y.toNat) A B (aa (aa (aa (aa (aa (aa (aa (aa p1)))))))) (af _ _) ?_ ?_ (pn _ _) (pn _ _) sA sB
    ·rw [←rot _ hx];exact ah (ah (ah (ah (af _ _))))
    ·rw [←rot _ hy];exact ah (af _ _)
   exact fin' hp p1 f1 f2 f3
 have l1:(h++[MO.list (U.map .str)]).length=h.length+1:=by rw [List.length_append];rfl
 have l2:(h++[MO.list (U.map .str)]++[MO.list (V.map .str)]).length=h.length+1+1:=by rw [List.length_append,l1];rfl
 exact loop (h++[MO.list (U.map .str)]++[MO.list (V.map .str)]++[MO.list [.ref h.length,.ref (h++[MO.list (U.map .str)]).length]]) h.length (h++[MO.list (U.map .str)]).length (h++[MO.list (U.map .str)]++[MO.list (V.map .str)]).length (aa (aa (aa (ak _)))) (Nat.le_refl _) (n1 (Nat.le_of_eq l1.symm) (by simp +arith only)) (Nat.ne_of_lt (n1 (Nat.le_of_eq l1.symm) (by simp +arith only))) (Nat.ne_of_lt (n1 (Nat.le_of_eq l2.symm) (by simp +arith only))) (Nat.ne_of_lt (n2 (Nat.le_of_eq l2.symm) (Nat.le_of_eq l1) (by simp +arith only))) (af _ _) (ah (ah (af _ _))) (ah (af _ _))
end
end Internal
end
section
namespace Internal
theorem rP {ab:List Tm}{n:Txt}:n∈ans ab↔n∈ats ab:=by
 rw [nS];unfold ans;exact List.mem_flatMap
theorem rQ {x:Txt}{t:Tm}{ab:List Tm}{n:Txt}:n∈eZ (.set x t) ab↔n∈an t++ans ab:=by
 rw [xj (fun e=>by cases e),List.mem_append,rP]
 exact or_comm
theorem z6 {k:Int}{x n:Txt}{t:Tm}{ab:List Tm}:(k,n,x)∈qfl (k,.set x t,ab)↔n∈an t++ans ab:=by
 rw [←rQ (x:=x)]
 show (k,n,x)∈(eZ (.set x t) ab).map (fun s=>(k,s,x))↔_
 rw [List.mem_map]
 exact ⟨fun ⟨s,h,e⟩=>by cases e;exact h,fun h=>⟨n,h,rfl⟩⟩
structure mM (h:List MO)(rp ra rb ri:Nat)(A B:List Txt)(qs:List Num)(us:List MV):Prop where
 p:h[rp]?=some (.list [.ref ra,.ref rb])
 a:h[ra]?=some (.list (A.map .str))
 b:h[rb]?=some (.list (B.map .str))
 r:h[ri]?=some (.list us)
 ls:LsA h ri qs us
theorem mM.up {h h':List MO}{rp ra rb ri:Nat}{A B:List Txt}{qs:List Num}{us:List MV}(L:mM h rp ra rb ri A B qs us)(p:h<+:h'):mM h' rp ra rb ri A B qs us:=
 ⟨aj p L.p,aj p L.a,aj p L.b,aj p L.r,L.ls.up fun _ _ _ e=>aj p e⟩
structure Sec (A B T:List Txt)(fl:List Flw)(sec:List Txt):Prop where
 nd:sec.Nodup
 sub:∀x∈sec,x∈T
 base:∀x∈B,x∈sec
 snd:∀x∈sec,Rch A B fl x
noncomputable def Clo (A:List Txt)(fl:List Flw)(sec:List Txt):Prop:=∀f∈fl,f.2.1∈sec→f.2.2∉A→f.2.2∈sec
theorem Sec.all {A B T:List Txt}{fl:List Flw}{sec:List Txt}(s:Sec A B T fl sec)(c:Clo A fl sec)(x:Txt):x∈sec↔Rch A B fl x:=by
 refine ⟨s.snd x,fun r=>?_⟩
 induction r with
 | base h=>exact s.base _ h
 | step h _ hA _ ih=>exact c _ h ih hA
theorem Sec.add {A B T:List Txt}{fl:List Flw}{sec:List Txt}{k:Int}{x n:Txt}(s:Sec A B T fl sec)(hx:x∉sec)(hT:x∈T)(hA:x∉A)(hf:(k,n,x)∈fl)(hn:n∈sec):Sec A B T fl (sec++[x]):=
 ⟨List.nodup_append.mpr ⟨s.nd,List.nodup_cons.mpr ⟨List.not_mem_nil,List.nodup_nil⟩,fun a ha b hb e=>hx (by rw [←List.mem_singleton.mp hb,←e];exact ha)⟩,
  fun y hy=>(List.mem_append.mp hy).elim (s.sub y) fun h=>by rw [List.mem_singleton.mp h];exact hT,fun y hy=>List.mem_append_left _ (s.base y hy),
  fun y hy=>(List.mem_append.mp hy).elim (s.snd y) fun h=>by rw [List.mem_singleton.mp h];exact .step hf (s.snd n hn) hA fun hB=>hx (s.base x hB)⟩
theorem LsA.at_ {hp:List MO}{i:Nat}{qs:List Num}{us:List MV}(h:LsA hp i qs us){j:Nat}{x:MV}(e:us[j]?=some x):∃q a,qs[j]?=some q∧x=.tup [q.2.1.mv,.ref a]∧hp[a]?=some (.list ((ans q.2.2).map .str)):=by
 have hj:=(List.getElem?_eq_some_iff.mp e).1
 rw [h.len] at hj
 refine e12 (h.get (bD hj)) fun a h1 h2=>?_
 exact ⟨_,a,bD hj,same e h1,h2⟩
theorem Dy {hp:List MO}{i j:Nat}{l:List Txt}{Q:Bool→Prop}(hi:hp[i]?=some (.list (l.map .str)))(hj:hp[j]?=some (.list []))(h:Q l.isEmpty):EqP hp (.ref i) (.ref j) Q:=by
 refine .nil i j (l.map .str) rfl rfl hi hj ?_
 rw [show (l.map MV.str).isEmpty=l.isEmpty from by cases l<;>rfl];exact h
theorem z7 {α:Type}{x:α}{a b:List α}:x∉a++b↔x∉a∧x∉b:=by rw [List.mem_append,not_or]
theorem pq {x:Txt}{l:List Txt}(h:l.contains x=false):x∉l:=fun q=>by rw [List.contains_iff_mem.mpr q] at h;exact tf h
variable {K:KT}(hK:aV PP K)
include hK
section
variable {h:List MO}{rp ra rb ri:Nat}{A B:List Txt}{rows:List Rw}{us:List MV}(L:mM h rp ra rb ri A B (nums 1 [] rows) us) (F:LF A B rows)
include F
theorem xF {k:Int}{r:Rw}{ab:List Tm}{a s N:Nat}{g:Bool}{sec:List Txt}{w4 w5 w6:Option MV}{hp:List MO}{P:Fl→MS→Prop}{X:XM}(L:mM hp rp ra rb ri A B (nums 1 [] rows) us)(hq:(k,r,ab)∈nums 1 [] rows)(ha:hp[a]?=some (.list ((ans ab).map .str)))(hs:hp[s]?=some (.list (sec.map .str)))(S:Sec A B (aS (aD A B rows)) (bJ (nums 1 [] rows)) sec)(hN:4<N)
  (q0:∀hp' w6,hp<+:hp'→(∀x t,r=.set x t→x∉A→(∃n∈an t++ans ab,n∈sec)→x∈sec)→P .next ⟨[some (.ref rp),some (.ref ri),some (.ref s),some (.bool g),some r.mv,some (.ref a),w6],hp'⟩)
  (q1:∀hp' w6 x t n,hp<+:hp'→r=.set x t→x∉A→x∉sec→n∈an t++ans ab→n∈sec→P .next ⟨[some (.ref rp),some (.ref ri),some (.ref s),some (.bool true),some r.mv,some (.ref a),w6],hp'.set s (.list ((sec++[x]).map .str))⟩) :
  asg [4,5] true (.tup [r.mv,.ref a]) (fun m=>aP K N [.ite (.and [.cmp .eq (.idx (.var 4) (.cst (.int 0))) (.cst (.str [115,101,116])),.cmp .nin (.idx (.var 4) (.cst (.int 1))) (.bin .add (.idx (.var 0) (.cst (.int 0))) (.var 2))]) [.ite (.cmp .ne (.comp (.var 6) [6] false .val [.bin .add (.call 37 [.idx (.var 4) (.cst (.int 2))]) (.var 5)] [.cmp .inn (.var 6) (.var 2)]) (.list [])) [.expr (.mth .append (.var 2) [.idx (.var 4) (.cst (.int 1))]),.asg [3] false (.cst (.bool true))] []] []] P X m) ⟨[some (.ref rp),some (.ref ri),some (.ref s),some (.bool g),w4,w5,w6],hp⟩:=by
 have o:=F.nums _ hq
 have few:=gO sec _ S.nd S.sub
 have fT:=F.few
 have len:=F.len
 have oks:∀x∈sec,okS x:=fun x hx=>F.ok x (S.sub x hx)
 have no:(∀x t,r≠.set x t)→P .next ⟨[some (.ref rp),some (.ref ri),some (.ref s),some (.bool g),some r.mv,some (.ref a),w6],hp⟩:=fun h=>q0 hp w6 (ak _) fun x t e=>absurd e (h x t)
 refine ⟨rfl,?_⟩
 cases r with
 | tell t=>exact no fun _ _ e=>by cases e
 | skip=>exact no fun _ _ e=>by cases e
 | ite t a b=>exact no fun _ _ e=>by cases e
 | wh t a=>exact no fun _ _ e=>by cases e
 | set x t=>
  have gt:t.good:=o.good.2
  have xT:x∈aS (aD A B rows):=xr hq x t rfl
  have gA:∀y∈A++sec,okS y:=fun y hy=>(List.mem_append.mp hy).elim (fun h=>(F.gn y (List.mem_append_left _ h)).1.ok) (oks y)
  refine ai L.p ?_
  refine ai L.a (ai hs ?_)
  refine ⟨dc (n3 len fT few (by simp +arith only)),?_⟩
  refine ax (xs:=(A++sec).map .str) (by rw [List.map_append];exact af _ _) ?_
  refine bL (F.ok x xT) gA ?_
  cases q:(A++sec).contains x with
  | true=>exact q0 _ w6 (aa (ak _)) fun y u e hA _=>by cases e;exact (List.mem_append.mp (List.contains_iff_mem.mp q)).resolve_left hA
  | false=>
   obtain ⟨hA,hS⟩:=z7.mp (pq q)
   have p1:hp<+:hp++[MO.list (A.map .str++sec.map .str)]:=aa (ak _)
   have on:∀n∈an t++ans ab,okS n:=fun n hn=>(List.mem_append.mp hn).elim (fun h=>F.ok n (o.fn n h)) fun h=>F.ok n (o.am n (rP.mp h))
   show aP K N [.ite (.cmp .ne (.comp (.var 6) [6] false .val [.bin .add (.call 37 [.idx (.var 4) (.cst (.int 2))]) (.var 5)] [.cmp .inn (.var 6) (.var 2)]) (.list [])) [.expr (.mth .append (.var 2) [.idx (.var 4) (.cst (.int 1))]),.asg [3] false (.cst (.bool true))] []] _ X ⟨[some (.ref rp),some (.ref ri),some (.ref s),some (.bool g),some (Rw.mv (.set x t)),some (.ref a),w6],hp++[MO.list (A.map .str++sec.map .str)]⟩
   refine GA ?_
   refine Fd (l:=an t++ans ab) (fun P' hP'=>?_) on (aj p1 hs) oks (Nat.le_of_ble_eq_true rfl) (fun _=>rfl) (by decide) fun h5 p5=>?_
   ·exact zZ hK (t:=t) (ab:=ab) (fun P' h=>h) (fun _=>rfl) (aj p1 ha) gt o.tg o.len (Nat.lt_of_succ_lt hN) hP'
   have p5:hp<+:h5:=p1.trans p5
   refine Dy (ah (af _ _)) (af _ _) ?_
   rw [zY]
   cases q2:(an t++ans ab).any sec.contains with
   | false=>
    refine q0 _ _ (aa (aa p5)) fun y u e _ hx=>?_
    cases e
    refine e12 hx fun n h1 h2=>?_
    rw [List.any_eq_true.mpr ⟨n,h1,List.contains_iff_mem.mpr h2⟩] at q2;exact tf q2
   | true=>
    refine e12 (List.any_eq_true.mp q2) fun n h1 h2=>?_
    have e6:=ah (o':=MO.list []) (ah (o':=MO.list ((fil sec (an t++ans ab)).map .str)) (aj p5 hs))
    refine aC (aH e6) (bg (bf e6) ?_)
    refine ⟨by rw [List.length_map];exact Nat.lt_of_le_of_lt few (Nat.lt_of_lt_of_le fT (aL (nb rfl))),?_⟩
    have:=q1 _ w6 x t n (aa (o:=MO.list []) (aa (o:=MO.list ((fil sec (an t++ans ab)).map .str)) p5)) rfl hA hS h1 (List.contains_iff_mem.mp h2)
    rw [List.map_append] at this
    exact this
include L
theorem xG {N:Nat}{Q:MV→List MO→Prop}{X:XT}(hN:5<N)(hq:∀h' r (sec:List Txt),h<+:h'→h'[r]?=some (.list (sec.map .str))→(∀x,x∈sec↔Rch A B (bJ (nums 1 [] rows)) x)→(∀x∈sec,x∈aS (aD A B rows))→sec.length<200→Q (.ref r) h'):K N 108 [.ref rp,.ref ri] Q X h:=by
 obtain ⟨M,rfl,hM⟩:=room hN
 have fT:=F.few
 have B0:Sec A B (aS (aD A B rows)) (bJ (nums 1 [] rows)) B:=⟨(List.nodup_append.mp F.nd).2.1,fun x hx=>aE.mpr (List.mem_append_left _ (List.mem_append_right _ hx)),fun x hx=>hx,fun x hx=>.base hx⟩
 refine hK _ _ _ _ _ _ gI rfl rfl ?_
 refine ai L.p ?_
 refine ax L.b ?_
 refine ⟨202,rq (fun w:List Txt × Bool × List MO × Option MV × Option MV × Option MV=>⟨[some (.ref rp),some (.ref ri),some (.ref h.length),some (.bool w.2.1),w.2.2.2.1,w.2.2.2.2.1,w.2.2.2.2.2],w.2.2.1⟩) (fun k w=>A5 (h<+:w.2.2.1) (w.2.2.1[h.length]?=some (.list (w.1.map .str))) (Sec A B (aS (aD A B rows)) (bJ (nums 1 [] rows)) w.1) (w.2.1=true→202≤k+w.1.length) (w.2.1=false→1≤k∧Clo A (bJ (nums 1 [] rows)) w.1))
  (fun w hI=>?_) (fun k w W hI hW=>?_) 202 (B,true,_,none,none,none) rfl ⟨aa (ak _),af _ _,B0,fun _=>Nat.le_add_right _ _,fun h=>tf h⟩⟩
 ·obtain ⟨sec,g,hp,w4,w5,w6⟩:=w
  obtain ⟨_,_,S,h1,h2⟩:=hI
  have few:sec.length≤_:=gO sec _ S.nd S.sub
  cases g with
  | true=>have:202≤0+sec.length:=h1 rfl;exact nf (n3 this few fT (by simp +arith only))
  | false=>exact nf (h2 rfl).1
 ·obtain ⟨sec,g,hp,w4,w5,w6⟩:=w
  obtain ⟨p1,e1,S,h1,h2⟩:=hI
  dsimp only at p1 e1 S h1 h2
  have few:=gO sec _ S.nd S.sub
  cases g with
  | false=>exact hq hp _ sec p1 e1 (S.all (h2 rfl).2) S.sub (Nat.lt_of_le_of_lt few fT)
  | true=>
   have h1:=h1 rfl
   have L1:=L.up p1
   refine aJ (aG L1.r) ?_
   refine iw (fun j sec' g w4 w5 w6 hp=>⟨[some (.ref rp),some (.ref ri),some (.ref h.length),some (.bool g),w4,w5,w6],hp⟩)
    (fun j sec' g w4 w5 w6 hp=>A5 (h<+:hp) (hp[h.length]?=some (.list (sec'.map .str))) (Sec A B (aS (aD A B rows)) (bJ (nums 1 [] rows)) sec') (g=true→sec.length<sec'.length) (g=false→sec'=sec∧Clo A (bJ ((nums 1 [] rows).take j)) sec')) sec false w4 w5 w6 hp rfl ⟨p1,e1,S,fun h=>ff h,fun _=>⟨rfl,fun f hf=>by rw [List.take_zero] at hf;exact aN hf⟩⟩ (fun _ _ _ _ _ _ _ hI=>(L.up hI.h1).r) (fun j x sec' g w4 w5 w6 hp P hx hI hn _=>?_) (fun sec' g w4 w5 w6 hp hI=>?_)
   ·obtain ⟨p2,e2,S2,g1,g2⟩:=hI
    have L2:=L.up p2
    obtain ⟨⟨k',r,ab⟩,a,hj,rfl,ea⟩:=L2.ls.at_ hx
    have hm:=List.mem_of_getElem? hj
    refine xF hK F L2 hm ea e2 S2 (n1 hM (by simp +arith only)) (fun hp' w6 p3 h3=>?_) fun hp' w6 x t n p3 h3 h4 h5 h6 h7=>?_
    ·refine hn sec' g _ _ _ hp' ⟨p2.trans p3,aj p3 e2,S2,g1,fun h=>⟨(g2 h).1,fun f hf hs hA=>?_⟩⟩
     rw [aw hj,lu] at hf
     refine Or.elim (List.mem_append.mp hf) (fun hf=>?_) fun hf=>?_
     ·exact (g2 h).2 f hf hs hA
     ·have hf:f∈qfl (k',r,ab):=by rw [show bJ [(k',r,ab)]=qfl (k',r,ab) from List.append_nil _] at hf;exact hf
      cases r with
      | set x t=>
       obtain ⟨s,hs',rfl⟩:=List.mem_map.mp (show f∈(eZ (.set x t) ab).map fun s=>(k',s,x) from hf)
       exact h3 x t rfl hA ⟨s,rQ.mp hs',hs⟩
      | _=>exact aN hf
    ·subst h3
     have hf:(k',n,x)∈bJ (nums 1 [] rows):=List.mem_flatMap.mpr ⟨_,hm,z6.mpr h6⟩
     refine hn (sec'++[x]) true _ _ _ _ ⟨aR (p2.trans p3) (Nat.le_refl _),get_set (aj p3 e2),S2.add h5 (xr hm x t rfl) h4 hf h7,fun _=>?_,fun h=>tf h⟩
     rw [List.length_append,List.length_singleton]
     cases g with
     | true=>exact Nat.lt_succ_of_lt (g1 rfl)
     | false=>rw [(g2 rfl).1];exact Nat.lt_succ_self _
   ·refine hI.el fun p2 e2 S2 g1 g2=>?_
    rw [L1.ls.len,List.take_length] at g2
    refine hW (sec',g,hp,_,_,_) ⟨p2,e2,S2,fun h=>?_,fun h=>⟨?_,(g2 h).2⟩⟩
    ·have:=g1 h;exact n2 this h1 (by simp +arith only)
    ·exact n3 h1 few fT (by simp +arith only)
end
end Internal
end
section
namespace Internal
noncomputable def zN (k:Int):Txt:=122::122::dec k
noncomputable def zNs:List Txt:=(List.range 60).map fun (k:Nat)=>zN k
theorem Fe:∀s∈zNs,Gn s:=by unfold Gn Nm;decide +kernel
theorem Ff {k:Int}(h0:0≤k)(h1:k<60):zN k∈zNs:=List.mem_map.mpr ⟨k.toNat,List.mem_range.mpr ((Int.toNat_lt h0).mpr h1),by rw [Int.toNat_of_nonneg h0]⟩
theorem AO {k:Int}(h:-1≤k∧k<60):2+(dec k).length≤line:=by
 have:(dec k).length≤6:=by
  refine Or.elim (Int.lt_or_le k 0) (fun q=>?_) fun q=>?_
  ·obtain rfl:k=-1:=by lia
   decide
  ·exact (mY ⟨q,z1 h.2 (by simp +arith only)⟩).2
 exact aL (Nat.le_trans (Nat.add_le_add_left this 2) (nb rfl))
noncomputable def Flt (p:Txt→Prop)(r:Rw):Prop:=r.gp p∧r.subs=[]
variable {K:KT}(hK:aV PP K)
theorem z8 {n:Nat}{elt:ME}{t:List Nat}{src:ME}{ifs:List ME}{k:Int}{P:PQ}{X:XM}{m:MS}(hs:∀P:PQ,P (.int k) m→wpE K n src P X m)(h1:-16777216≤k)(h2:k≤16777216)(h:cq none (fun v P m=>asg t false v (fun m=>jW K n ifs (fun b m=>match b with
  | true=>wpE K n elt (fun x m=>P (some x) m) noX m
  | false=>P none m) noX m) m) (fun acc m'=>P (.ref m'.heap.length) ⟨m.vars,m'.heap++[.list acc]⟩) ((List.range k.toNat).map fun (i:Nat)=>.int i) [] m):wpE K n (.comp elt t false .range1 [src] ifs) P X m:=by
 refine hs _ ?_
 exact aJ (fB h1 h2) h
include hK
theorem z9 {r:Nat}{ss:List Txt}{many step:Int}{N:Nat}{Q:MV→List MO→Prop}{X:XT}{h:List MO}(hr:h[r]?=some (.list (ss.map .str)))(ten:ss.length=10)(hm:0≤many∧many<61)(hs:0≤step∧step≤1000)(hN:0<N)
  (hq:∀h' i rows,h<+:h'→h.length≤i→h'[i]?=some (.list (mvs rows))→rows.length≤61→(∀q∈rows,∃k s,0≤k∧k<many∧(s∈ss∨∃k',(0≤k'∧k'<many)∧s=zN k')∧q=.set (zN k) (.op 43 (.nm s) (.num 1)))→Q (.ref i) h'):K N 109 [.ref r,.int many,.int step] Q X h:=by
 obtain ⟨M,rfl,hM⟩:=room hN
 refine hK _ _ _ _ _ _ bA rfl rfl ?_
 show aP K M (.asg [3] false (.comp (.bin .mod (.bin .mul (.var 7) (.var 2)) (.cst (.int 61))) [7] false .range1 [.cst (.int 61)] [.cmp .lt (.bin .mod (.bin .mul (.var 7) (.var 2)) (.cst (.int 61))) (.var 1)])::bA.body.drop 1) (fin Q) (xin X) ⟨[some (.ref r),some (.int many),some (.int step),none,none,none,none,none],h⟩
 refine AN ?_
 refine z8 (k:=61) (fun P h=>h) (by decide) (by decide) ?_
 refine de (fun j acc m=>∃z os,m=⟨[some (.ref r),some (.int many),some (.int step),none,none,none,none,z],h⟩∧acc=os.map .int∧os.length≤j∧∀o∈os,0≤o∧o<many) ⟨none,[],rfl,rfl,Nat.le_refl _,fun _ h=>aN h⟩ (fun _ _ _ _=>trivial) (fun j x acc m P hx hI n1 n2=>?_) (fun acc m hI=>?_)
 ·obtain ⟨z,os,rfl,rfl,h1,h2⟩:=hI
  obtain ⟨hj,rfl⟩:=fC hx
  have hj:j<61:=hj
  have sm:dU (j:Int)∨dU step:=.inl (Nat.lt_of_lt_of_le hj (nb rfl))
  refine ⟨sm,?_⟩
  refine si (fun q=>?_) fun q=>?_
  ·exact n2 _ ⟨_,os,rfl,rfl,Nat.le_succ_of_le h1,h2⟩
  ·refine ⟨sm,?_⟩
   refine n1 _ _ ⟨_,os++[(j:Int) * step % 61],rfl,by rw [List.map_append];rfl,by rw [List.length_append];exact Nat.succ_le_succ h1,fun o ho=>?_⟩
   refine Or.elim (List.mem_append.mp ho) (fun ho=>?_) fun ho=>?_
   ·exact h2 o ho
   ·rw [List.mem_singleton.mp ho];exact ⟨em0 rfl,of_decide_eq_true q⟩
 ·obtain ⟨z,os,rfl,rfl,h1,h2⟩:=hI
  have p2:h<+:h++[MO.list (os.map .int)]:=aa (ak _)
  have p3:h<+:h++[MO.list (os.map .int)]++[MO.list []]:=aa p2
  have lr:h.length<(h++[MO.list (os.map MV.int)]).length:=by rw [List.length_append];exact Nat.lt_succ_self _
  have eo:=ah (o':=MO.list []) (af h (MO.list (os.map .int)))
  show aP K M (bA.body.drop 2) (fin Q) (xin X) ⟨[some (.ref r),some (.int many),some (.int step),some (.ref h.length),some (.ref (h++[MO.list (os.map MV.int)]).length),none,none,none],h++[MO.list (os.map .int)]++[MO.list []]⟩
  have el:=af (h++[MO.list (os.map MV.int)]) (MO.list [])
  generalize (h++[MO.list (os.map MV.int)]).length=g at *
  generalize h++[MO.list (os.map .int)]++[MO.list []]=h2' at *
  refine aJ (aG eo) ?_
  refine jQ (fun j w5 w6 hp rows=>⟨[some (.ref r),some (.int many),some (.int step),some (.ref h.length),some (.ref g),w5,w6,none],hp⟩) (fun j w5 w6 hp (rows:List Rw)=>A5 (h<+:hp) (hp[h.length]?=some (.list (os.map .int))) (hp[g]?=some (.list (mvs rows))) (rows.length≤j) (∀q∈rows,∃k s,0≤k∧k<many∧(s∈ss∨∃k',(0≤k'∧k'<many)∧s=zN k')∧q=.set (zN k) (.op 43 (.nm s) (.num 1)))) none none h2' [] rfl ⟨p3,eo,el,Nat.le_refl _,fun _ h=>aN h⟩ (fun _ _ _ _ _ hI=>hI.h2) (fun j x w5 w6 hp rows P hx hI hn _=>?_) (fun w5 w6 hp rows hI=>?_)
  ·refine hI.el fun q1 q2 q3 q4 q5=>?_
   obtain ⟨o,ho,rfl⟩:=Option.map_eq_some_iff.mp (List.getElem?_map ..▸hx)
   obtain ⟨o1,o2⟩:=h2 o (List.mem_of_getElem? ho)
   have lj:=(List.getElem?_eq_some_iff.mp ho).1
   refine ⟨⟨z1 o1 (by simp +arith only),z2 o2 hm.2 (by simp +arith only)⟩,?_⟩
   refine ⟨AO ⟨z1 o1 (by simp +arith only),z2 o2 hm.2 (by simp +arith only)⟩,?_⟩
   have e9:ss[9]?=some (ss[9]'(n1 (Nat.le_of_eq ten.symm) (by simp +arith only))):=bD (n1 (Nat.le_of_eq ten.symm) (by simp +arith only))
   refine ai (aj q1 hr) (bu (k:=9) (j:=9) (bi (by decide) (by rw [List.length_map,ten];decide)) (by rw [List.getElem?_map,e9];rfl) ?_)
   refine ai (af _ _) (bu iA jR ?_)
   have hsel:∃s,sel (o==0) (MV.str ([122,122]++dec (o-1))) (.str (ss[9]'(by lia)))=.str s∧(s∈ss∨∃k',(0≤k'∧k'<many)∧s=zN k'):=by
    cases q:o==0 with
    | true=>exact ⟨_,rfl,.inl (List.mem_of_getElem? e9)⟩
    | false=>
     have:o≠0:=fun e=>by rw [e] at q;exact tf q
     exact ⟨_,rfl,.inr ⟨o-1,⟨by lia,z1 o2 (by simp +arith only)⟩,rfl⟩⟩
   refine e12 hsel fun s es hs'=>?_
   rw [es]
   have q3':=ah (o':=MO.list [.str ([122,122]++dec (o-1)),.str (ss[9]'(by lia))]) q3
   refine aC (aH q3') ?_
   refine ⟨⟨z1 o1 (by simp +arith only),z2 o2 hm.2 (by simp +arith only)⟩,?_⟩
   refine ⟨AO ⟨z1 o1 (by simp +arith only),z2 o2 hm.2 (by simp +arith only)⟩,?_⟩
   refine bg (bf q3') ?_
   refine ⟨by rw [dM];exact Nat.lt_of_le_of_lt q4 (Nat.lt_of_lt_of_le lj (Nat.le_trans h1 (aL (nb rfl)))),?_⟩
   refine hn _ _ _ (rows++[.set (zN o) (.op 43 (.nm s) (.num 1))]) ⟨aR (aa q1) (Nat.le_of_lt lr),ap (Nat.ne_of_gt lr) (ah q2),?_,by rw [List.length_append];exact Nat.succ_le_succ q4,fun q hq'=>?_⟩
   ·rw [f5];exact get_set q3'
   ·rcases List.mem_append.mp hq' with hq' | hq'
    ·exact q5 q hq'
    ·rw [List.mem_singleton.mp hq'];exact ⟨o,s,o1,o2,hs',rfl⟩
  ·refine hI.el fun q1 q2 q3 q4 q5=>?_
   rw [List.length_map] at q4
   exact hq _ _ _ q1 (Nat.le_of_lt lr) q3 (Nat.le_trans q4 h1) q5
end Internal
end
section
namespace Internal
mutual
theorem qM:∀r:Rw,r.size≤r.lines.length
 | .set s t=>Nat.le_refl _
 | .tell t=>Nat.le_refl _
 | .skip=>Nat.le_refl _
 | .ite t a b=>by
  have h1:=dh a
  have h2:=dh b
  show au a+au b+1≤(lns a++rA::(lns b++[o9])).length+1
  rw [List.length_append,List.length_cons,List.length_append];exact n2 h2 h1 (by simp +arith only)
 | .wh t a=>by
  have h1:=dh a
  show au a+1≤(lns a++[o9]).length+1
  rw [List.length_append];exact n1 h1 (by simp +arith only)
theorem dh:∀rs:List Rw,au rs≤(lns rs).length
 | []=>Nat.le_refl _
 | r::rs=>by
  have h1:=qM r
  have h2:=dh rs
  show r.size+au rs≤(r.lines++lns rs).length
  rw [List.length_append];exact n2 h2 h1 (by simp +arith only)
end
theorem tY {p:List Nat→Prop}:∀{t:Tm},t.ok p→∀x∈an t,p x
 | .num _,_,x,h=>aN h
 | .nm s,q,x,h=>by rw [List.mem_singleton.mp h];exact q
 | .op c a b,q,x,h=>(List.mem_append.mp h).elim (tY q.2.1 x) (tY q.2.2 x)
mutual
theorem Dz {p:List Nat→Prop}:∀(r:Rw) (k:Int) (ab:List Tm),r.gp p→∀x∈ci (r.num k ab),p x
 | .set s t,k,ab,g,x,h=>by
  have h:x∈(s::aS (an t))++[]:=h
  rw [List.append_nil] at h
  refine Or.elim (List.mem_cons.mp h) (fun e=>?_) fun h=>?_
  ·rw [e];exact g.1
  ·exact tY g.2.1 x (aE.mp h)
 | .tell t,k,ab,g,x,h=>by
  have h:x∈aS (an t)++[]:=h
  rw [List.append_nil] at h
  exact tY g.1 x (aE.mp h)
 | .skip,k,ab,_,x,h=>aN h
 | .ite t a b,k,ab,g,x,h=>by
  have h:x∈aS (an t)++ci (nums (k+1) (ab++[t]) a++nums (k+1+au a) (ab++[t]) b):=h
  rw [dB] at h
  rcases List.mem_append.mp h with h | h
  ·exact tY g.1.1 x (aE.mp h)
  ·exact (List.mem_append.mp h).elim (gj a _ _ g.2.1 x) (gj b _ _ g.2.2 x)
 | .wh t a,k,ab,g,x,h=>by
  have h:x∈aS (an t)++ci (nums (k+1) (ab++[t]) a):=h
  refine Or.elim (List.mem_append.mp h) (fun h=>?_) fun h=>?_
  ·exact tY g.1.1 x (aE.mp h)
  ·exact gj a _ _ g.2 x h
theorem gj {p:List Nat→Prop}:∀(rs:List Rw) (k:Int) (ab:List Tm),gps p rs→∀x∈ci (nums k ab rs),p x
 | [],_,_,_,x,h=>aN h
 | r::rs,k,ab,g,x,h=>by
  have h:x∈ci (r.num k ab++nums (k+r.size) ab rs):=h
  rw [dB] at h
  exact (List.mem_append.mp h).elim (Dz r k ab g.1 x) (gj rs _ ab g.2 x)
end
structure Bks (ss us:List Txt)(bs zs:List Rw):Prop where
 gp:gps (·∈ss) bs
 nest:ay bs≤7
 len:au bs+zs.length≤400
 fl:∀q∈zs,q.gp (·∈ss++us)∧q.subs=[]
theorem xH {r:Rw}(h:r.subs=[])(k:Int):r.num k []=[(k,r,[])]:=by
 cases r with
 | ite t a b=>cases h
 | wh t a=>cases h
 | _=>rfl
theorem tZ {r:Rw}(h:r.subs=[]):r.nest=0∧r.size=1:=by
 cases r with
 | ite t a b=>cases h
 | wh t a=>cases h
 | _=>exact ⟨rfl,rfl⟩
theorem mO:∀{zs:List Rw}{k:Int},(∀q∈zs,q.subs=[])→∀q∈nums k [] zs,∃k' r,r∈zs∧q=(k',r,[])
 | [],k,_,q,hq=>aN hq
 | r::zs,k,h,q,hq=>by
  rcases List.mem_append.mp (show q∈r.num k []++nums (k+r.size) [] zs from hq) with hq | hq
  ·rw [xH (h r (.head _))] at hq
   exact ⟨k,r,.head _,List.mem_singleton.mp hq⟩
  ·refine e22 (mO (fun q hq=>h q (.tail _ hq)) q hq) fun k' r' h1 h2=>?_
   exact ⟨k',r',.tail _ h1,h2⟩
theorem mP:∀{zs:List Rw},(∀q∈zs,q.subs=[])→ay zs=0∧au zs=zs.length
 | [],_=>⟨rfl,rfl⟩
 | r::zs,h=>by
  obtain ⟨h1,h2⟩:=tZ (h r (.head _))
  refine e02 (mP (zs:=zs) fun q hq=>h q (.tail _ hq)) fun h3 h4=>?_
  show max r.nest (ay zs)=0∧r.size+au zs=zs.length+1
  rw [h1,h2,h3,h4];exact ⟨rfl,Nat.add_comm _ _⟩
theorem xI:∀{p:Txt→Prop}{zs:List Rw},(∀q∈zs,q.gp p)→gps p zs
 | _,[],_=>trivial
 | _,r::zs,h=>⟨h r (.head _),xI fun q hq=>h q (.tail _ hq)⟩
theorem Bks.nf {ss us:List Txt}{bs zs:List Rw}(ten:ss.length=10)(b:Bks ss us bs zs)(hg:cJ (bs++zs)):∀q∈nums 1 [] (bs++zs),(eZ q.2.1 q.2.2).length<64:=fun q hq=>by
 rw [iI] at hq
 refine Or.elim (List.mem_append.mp hq) (fun hq=>?_) fun hq=>?_
 ·have key:∀q∈nums 1 [] bs,∀n∈an q.2.1.ft,n∈ss:=fun q hq n hn=>gj bs 1 [] b.gp n (List.mem_flatMap.mpr ⟨q,hq,xk hn⟩)
  refine e02 (gf bs (P:=fun t=>∀n∈an t,n∈ss) key (fun _ h=>aN h) q hq) fun h1 _=>?_
  refine Nat.lt_of_le_of_lt (jT (t:=ss) fun n hn=>?_) (n1 (Nat.le_of_eq ten) (by simp +arith only))
  rcases List.mem_append.mp hn with hn | hn
  ·refine e12 (nS.mp hn) fun t ht hn=>?_
   exact h1 t ht n hn
  ·by_cases hs:q.2.1=.skip
   ·rw [hs] at hn;exact aN hn
   ·exact key q hq n ((xi hs).mp hn)
 ·obtain ⟨k',r,hr,rfl⟩:=mO (fun q hq=>(b.fl q hq).2) q hq
  have gr:r.good:=f7 hg r (List.mem_append_right _ hr)
  exact Nat.lt_of_le_of_lt (iJ _) (Nat.lt_of_le_of_lt (show (ats []++r.fs).length≤8 from xo gr) (by decide))
theorem t0 {ss U V W A B A' B':List (List Nat)}{bs zs:List Rw}(ten:ss.length=10)(gn:∀s∈ss,Gn s)(hnd:ss.Nodup)(hU:U.Sublist (yN 111 20))(hV:V.Sublist (yN 115 20))(hno:∀s∈U++V,s∉ss)(pA:A.Perm (U++A'))(pB:B.Perm (V++B'))(sA:A'.Sublist (ss.take 5))(sB:B'.Sublist (ss.drop 5))(hz:∀s∈W,Gn s)(lz:W.length≤60)(b:Bks ss W bs zs):LF A B (bs++zs):=by
 have hg:gps (·∈ss++W) (bs++zs):=jV (ec (fun s h=>List.mem_append_left _ h) b.gp) (xI fun q hq=>(b.fl q hq).1)
 refine e02 (mP fun q hq=>(b.fl q hq).2) fun z1 z2=>?_
 have sy:(U++V).Sublist (yN 111 20++yN 115 20):=hU.append hV
 have ss':(A'++B').Sublist ss:=by have:=sA.append sB;rw [List.take_append_drop] at this;exact this
 have pp:(A++B).Perm ((U++V)++(A'++B')):=by
  refine (pA.append pB).trans ?_
  rw [List.append_assoc,List.append_assoc]
  refine List.Perm.append_left U ?_
  rw [←List.append_assoc,←List.append_assoc]
  exact List.Perm.append_right B' List.perm_append_comm
 have lU:=hU.length_le
 have lV:=hV.length_le
 rw [xB] at lU lV
 have l':=ss'.length_le
 have gU:∀s∈U++V,Gn s:=fun s h=>xy s (sy.subset h)
 have lp:=pp.length_eq
 simp only [List.length_append] at lp l'
 have mem:∀s∈A++B,s∈(U++V)++(ss++W):=fun s h=>by
  refine Or.elim (List.mem_append.mp (pp.subset h)) (fun h=>?_) fun h=>?_
  ·exact List.mem_append_left _ h
  ·exact List.mem_append_right _ (List.mem_append_left _ (ss'.subset h))
 have gall:∀s∈(U++V)++(ss++W),Gn s:=fun s h=>(List.mem_append.mp h).elim (gU s) fun h=>(List.mem_append.mp h).elim (gn s) (hz s)
 have memp:∀s∈aD A B (bs++zs),s∈(U++V)++(ss++W):=fun s h=>by
  refine Or.elim (List.mem_append.mp h) (fun h=>?_) fun h=>?_
  ·exact mem s h
  ·exact List.mem_append_right _ (gj _ 1 [] hg s h)
 have gg:cJ (bs++zs):=fE (ec (fun s h=>gall s (List.mem_append_right _ h)) hg)
 refine ⟨fun s h=>gall s (mem s h),pp.nodup_iff.mpr (List.nodup_append.mpr ⟨GB.sublist sy,hnd.sublist ss',fun a ha b hb e=>hno a ha (e▸ss'.subset hb)⟩),by rw [lp];exact n3 lU lV (ten▸l') (by simp +arith only),gg,by rw [df,z2];exact b.len,f6 b.nest (by rw [z1];exact Nat.zero_le _),?_,fun s h=>(gall s (memp s (aE.mp h))).1.ok,b.nf ten gg⟩
 have:=jT memp
 rw [List.length_append,List.length_append,List.length_append,ten] at this
 exact n2 this (Nat.add_le_add (Nat.add_le_add lU lV) lz) (by simp +arith only)
end Internal
end
section
namespace Internal
theorem nW {p:Txt→Prop}:∀{a b:List Rw},gps p (a++b)→gps p a∧gps p b
 | [],_,h=>⟨trivial,h⟩
 | _::_,_,h=>⟨⟨h.1,(nW h.2).1⟩,(nW h.2).2⟩
theorem jc:∀{a b:List Rw}{k:Nat},ay (a++b)≤k→ay a≤k∧ay b≤k
 | [],_,_,h=>⟨Nat.zero_le _,h⟩
 | r::a,b,k,h=>by
  refine e02 (Nat.max_le.mp (show max r.nest (ay (a++b))≤k from h)) fun h1 h2=>?_
  exact ⟨mx h1 (jc h2).1,(jc h2).2⟩
theorem pt:∀(rs:List Rw) (k:Nat),(mvs rs).take k=mvs (rs.take k)
 | _,0=>rfl
 | [],_+1=>rfl
 | r::rs,k+1=>congrArg (List.cons r.mv) (pt rs k)
theorem pu:∀{zs:List Rw},(∀q∈zs,q.subs=[])→(lns zs).length=zs.length
 | [],_=>rfl
 | r::zs,h=>by
  have h1:=pu (zs:=zs) fun q hq=>h q (.tail _ hq)
  have h2:r.lines.length=1:=by
   have:=h r (.head _)
   cases r with
   | ite t a b=>cases this
   | wh t a=>cases this
   | _=>rfl
  show (r.lines++lns zs).length=zs.length+1
  rw [List.length_append,h1,h2,Nat.add_comm]
structure Pl (xs:List MV)(ds:List D):Prop where
 r:∀hp,Rds hp xs ds
 d:D.deeps ds≤1
 o:D.oks ds=true
theorem Pl.cons {x:MV}{d:D}{xs:List MV}{ds:List D}(h1:∀hp,Rd hp x d)(h2:d.deep≤1)(h3:d.ok=true)(h:Pl xs ds):Pl (x::xs) (d::ds):=
 ⟨fun hp=>.cons (h1 hp) (h.r hp),mx h2 h.d,Bool.and_eq_true_iff.mpr ⟨h3,h.o⟩⟩
theorem Pl.nil:Pl [] []:=⟨fun _=>.nil,Nat.zero_le _,rfl⟩
theorem rR {xs:List MV}{ds:List D}{hp:List MO}{i j:Nat}{Q:Bool→Prop}(h:Pl xs ds)(hi:hp[i]?=some (.list xs))(hj:hp[j]?=some (.list xs))(hq:Q true):EqP hp (.ref i) (.ref j) Q:=
 zR (.list ds) (.list hi (h.r hp)) (.list hj (h.r hp)) (Nat.le_trans (Nat.succ_le_succ h.d) (nb rfl)) h.o hq
theorem Pl.trues:∀n:Nat,Pl (List.replicate n (.bool true)) (List.replicate n (.bool true))
 | 0=>.nil
 | n+1=>.cons (fun _=>.bool _) (Nat.zero_le _) rfl (Pl.trues n)
noncomputable def prM (f:Txt→Txt)(n:Txt):MV:=.tup [.str n,.str (f n)]
theorem Pl.pairs {f:Txt→Txt}(hf:∀n,okS (f n)){xs:List MV}{ds:List D}(h:Pl xs ds):∀{l:List Txt},(∀n∈l,okS n)→Pl (l.map (prM f)++xs) (l.map (fun n=>.tup [.str n,.str (f n)])++ds)
 | [],_=>h
 | n::l,hl=>.cons (fun _=>.tup (.cons (.str _) (.cons (.str _) .nil))) (Nat.le_refl _) (by show (D.ok (.str n)&&(D.ok (.str (f n))&&true))=true;rw [(hl n (.head _)).d,(hf n).d];rfl) (Pl.pairs hf h fun m hm=>hl m (.tail _ hm))
theorem xJ (S:Txt→Prop)(n:Txt):okS (kd S n):=by
 have h1:okS gh:=by unfold okS gh;decide
 have h2:okS mL:=by unfold okS mL;decide
 unfold kd
 split
 ·exact h1
 ·exact h2
theorem DA {S:Txt→Prop}{sec:List Txt}(h:∀x,x∈sec↔S x)(n:Txt):sel (sec.contains n) (MV.str mL) (.str gh)=.str (kd S n):=by
 unfold kd
 cases q:sec.contains n with
 | true=>rw [if_pos ((h n).mp (List.contains_iff_mem.mp q))];rfl
 | false=>rw [if_neg fun hs=>pq q ((h n).mpr hs)];rfl
theorem GC {ts:List MV}{hp:List MO}{f:Bool→Prop}(h:f true):Bg [.tuple] hp (.tup ts) f:=h
theorem Aa {K:KT}{v1 v2 v3 v4 v5 v7:Option MV}{N i9:Nat}{l:List Txt}{f:Txt→Txt}{v0 v6 v8:Option MV}{hp:List MO}{P:PQ}{X:XM}(e9:hp[i9]?=some (.list (l.map (prM f))))(hl:l.length<200)(hq:EqP (hp++[.list (List.replicate l.length (.bool true))]++[.list [.bool true]]++[.list (List.replicate l.length (.bool true))]) (.ref hp.length) (.ref (hp++[MO.list (List.replicate l.length (.bool true))]++[MO.list [.bool true]]).length) fun b=>P (.bool !b) ⟨[v0,v1,v2,v3,v4,v5,v6,v7,v8,some (.ref i9),none,none],hp++[.list (List.replicate l.length (.bool true))]++[.list [.bool true]]++[.list (List.replicate l.length (.bool true))]⟩) :
  wpE K N (.cmp .ne (.comp (.isi (.var 11) [.tuple]) [11] false .val [.var 9] []) (.bin .mul (.list [.cst (.bool true)]) (.blt .len [.var 9]))) P X ⟨[v0,v1,v2,v3,v4,v5,v6,v7,v8,some (.ref i9),none,none],hp⟩:=by
 refine aJ (aG e9) ?_
 refine jS (fun z=>⟨[v0,v1,v2,v3,v4,v5,v6,v7,v8,some (.ref i9),none,z],hp⟩) (fun j=>List.replicate j (.bool true)) none rfl rfl (fun _=>e9) (fun j x z P hx n1 n2=>?_) (fun z=>?_)
 ·obtain ⟨n,_,rfl⟩:=Option.map_eq_some_iff.mp (List.getElem?_map ..▸hx)
  exact n1 _ _ List.replicate_succ'
 ·rw [List.length_map]
  refine ax (aj (aa (aa (ak _))) e9) ?_
  refine ai (af _ _) ?_
  refine ⟨rfl,⟨Int.natCast_nonneg _,by rw [List.length_map];lia⟩,?_⟩
  rw [List.length_map]
  exact hq
theorem Ab {hp:List MO}{r:Nat}{xs:List MV}(e:hp[r]?=some (.list xs)):jz hp (.ref r) .list=some true:=by
 show kdT (kdO hp[r]?) .list=_;rw [e];rfl
variable {K:KT}(hK:aV PP K)
include hK
section
variable {is:List Int}{h:List MO}{ip:Nat}{A B:List Txt}{rows:List Rw}{v1 v2 v3 v4 v5 v7:Option MV}(pr:bW h ip A B rows) (F:LF A B rows)
include pr F
theorem Fg {i8 i9:Nat}(l9:i8<i9)(e8:h[i8]?=some (.list ((aS (aD A B rows)).map (prM (kd (Rch A B (bJ (nums 1 [] rows))))))))
  (e9:h[i9]?=some (.list ((aS (aD A B rows)).map (prM (kd (Rch A B (bJ (nums 1 [] rows)))))))) (pz:∀o,bW (h.set i9 o) ip A B rows):aP K 600 (cD.body.drop 11) (fin fun v _=>v=.bool true) (fun _ _=>False) ⟨[some (.scr is),v1,v2,v3,v4,v5,some (.inst 0 ip),v7,some (.ref i8),some (.ref i9),none,none],h⟩:=by
 have few:=F.few
 have P0:=Pl.pairs (xJ (Rch A B (bJ (nums 1 [] rows)))) .nil F.ok
 have P1:=Pl.pairs (xJ (Rch A B (bJ (nums 1 [] rows)))) (Pl.cons (x:=.str [122,122]) (d:=.str [122,122]) (fun _=>.str _) (Nat.zero_le _) rfl .nil) F.ok
 rw [List.append_nil] at P0
 refine aC (aH e9) (bg (bf e9) ?_)
 refine ⟨by rw [List.length_map];exact Nat.lt_of_lt_of_le few (aL (nb rfl)),?_⟩
 have e8':=ap (o':=.list ((aS (aD A B rows)).map (prM (kd (Rch A B (bJ (nums 1 [] rows)))))++[.str [122,122]])) (Nat.ne_of_gt l9) e8
 have e9':=get_set (o':=.list ((aS (aD A B rows)).map (prM (kd (Rch A B (bJ (nums 1 [] rows)))))++[.str [122,122]])) e9
 refine rN hK (pz _) F (by decide) fun h2 r p2 _ e2=>?_
 have p2:h.set i9 _<+:h2:=p2
 refine rR P0 e2 (aj p2 e8') ?_
 refine ai (ah (aj p2 e8')) (ai (af _ _) ?_)
 refine ⟨aL (by rw [List.length_map];exact Nat.le_trans (Nat.succ_le_succ (Nat.le_of_lt few)) (nb rfl)),?_⟩
 exact rR P1 (ah (ah (aj p2 e9'))) (af _ _) rfl
theorem Fh {i7:Nat}{sec:List Txt}(e7:h[i7]?=some (.list (sec.map .str)))(hsec:∀x,x∈sec↔Rch A B (bJ (nums 1 [] rows)) x)(hsT:∀x∈sec,x∈aS (aD A B rows)) :
  aP K 600 (cD.body.drop 8) (fin fun v _=>v=.bool true) (fun _ _=>False) ⟨[some (.scr is),v1,v2,v3,v4,v5,some (.inst 0 ip),some (.ref i7),none,none,none,none],h⟩:=by
 have few:=F.few
 refine e23 pr fun a b b1 _ _=>?_
 refine aC (ph b1 rfl) ?_
 refine jy hK pr F.g F.sz (Nat.le_trans F.len (nb rfl)) (Nat.lt_of_lt_of_le few (nb rfl)) F.ne (by decide) fun h1 g p1 l1 e1=>?_
 have p1:h<+:h1:=p1
 refine aJ (aG e1) ?_
 refine zC (fun w:Option MV × List MO=>⟨[some (.scr is),v1,v2,v3,v4,v5,some (.inst 0 ip),some (.ref i7),none,none,w.1,none],w.2⟩) (fun j acc w=>A3 (h1<+:w.2) (acc=((aS (aD A B rows)).take j).map (prM (kd (Rch A B (bJ (nums 1 [] rows)))))) True) (none,h1) rfl ⟨ak _,rfl,trivial⟩ (fun _ _ _ hI=>aj hI.h1 e1) (fun j x acc w P hx hI n1 _=>?_) (fun acc w hI=>?_)
 ·obtain ⟨z,hp⟩:=w
  obtain ⟨q1,rfl,_⟩:=hI
  obtain ⟨n,hn,rfl⟩:=Option.map_eq_some_iff.mp (List.getElem?_map ..▸hx)
  have q1:h1<+:hp:=q1
  refine ax (aj (aa (p1.trans q1)) e7) ?_
  refine bL (F.ok n (List.mem_of_getElem? hn)) (fun x hx=>F.ok x (hsT x hx)) ?_
  refine ai (af _ _) (bu iA jR ?_)
  refine n1 _ (some (.str n),hp++[_]) ⟨aa q1,?_,trivial⟩
  rw [aw hn,List.map_append]
  exact congrArg (_++[·]) (congrArg (fun y=>MV.tup [.str n,y]) (DA hsec n))
 ·obtain ⟨z,hp⟩:=w
  obtain ⟨q1,rfl,_⟩:=hI
  have q1:h1<+:hp:=q1
  rw [List.length_map,List.take_length]
  have pp:h<+:hp++[MO.list ((aS (aD A B rows)).map (prM (kd (Rch A B (bJ (nums 1 [] rows))))))]:=aa (p1.trans q1)
  refine rN hK (pr.up pp) F (by decide) fun h2 r p2 l2 e2=>?_
  have p2:hp++[MO.list ((aS (aD A B rows)).map (prM (kd (Rch A B (bJ (nums 1 [] rows))))))]<+:h2:=p2
  have l2:(hp++[MO.list ((aS (aD A B rows)).map (prM (kd (Rch A B (bJ (nums 1 [] rows))))))]).length≤r:=l2
  have P0:=Pl.pairs (xJ (Rch A B (bJ (nums 1 [] rows)))) .nil F.ok
  rw [List.append_nil] at P0
  have e8:=aj p2 (af hp (MO.list ((aS (aD A B rows)).map (prM (kd (Rch A B (bJ (nums 1 [] rows))))))))
  have l8:hp.length<r:=by rw [List.length_append] at l2;exact l2
  have lh:h.length≤r:=Nat.le_trans (p1.trans q1).length_le (Nat.le_of_lt l8)
  refine fb (Ab e2) ?_
  refine rR P0 e2 e8 ?_
  refine Aa e2 few ?_
  refine rR (Pl.trues _) (ah (ah (af _ _))) (af _ _) ?_
  have p3:∀o o' o'',h2<+:h2++[o]++[o']++[o'']:=fun _ _ _=>aa (aa (aa (ak _)))
  exact Fg hK (pr.up (pp.trans (p2.trans (p3 _ _ _)))) F l8 (aj (p3 _ _ _) e8) (aj (p3 _ _ _) e2) fun o=>pr.up (aR (pp.trans (p2.trans (p3 _ _ _))) lh)
end
section
variable {is:List Int}{rp ra rb b ip:Nat}{A B:List Txt}{rows:List Rw}{v1 v2 v5:Option MV}{h:List MO}(hp:h[rp]?=some (.list [.ref ra,.ref rb])) (hA:h[ra]?=some (.list (A.map .str))) (hB:h[rb]?=some (.list (B.map .str))) (hb:h[b]?=some (.list (mvs rows))) (F:LF A B rows)
include hp hA hB hb F
theorem Fi (pr:bW h ip A B rows):aP K 600 (cD.body.drop 7) (fin fun v _=>v=.bool true) (fun _ _=>False) ⟨[some (.scr is),v1,v2,some (.ref rp),some (.ref b),v5,some (.inst 0 ip),none,none,none,none,none],h⟩:=by
 have p0:h<+:h++[MO.list []]++[MO.list []]:=aa (aa (ak _))
 have lb:b<h.length:=(List.getElem?_eq_some_iff.mp hb).1
 have l1:(h++[MO.list []]).length=h.length+1:=by rw [List.length_append];rfl
 refine xu hK rows (k:=1) (ab:=[]) (ar:=h.length) (i:=(h++[MO.list []]).length) (vs:=[]) (u:=.ref b) (g:=some (b,.list (mvs rows))) (aG (aj p0 hb)) (fun hp' k'=>k' _ _ (Nat.ne_of_lt (n2 (Nat.le_of_eq l1.symm) lb (by simp +arith only))) (aj p0 hb)) F.g (fun _ q=>aN q) (by show 0+_≤_;rw [Nat.zero_add];exact F.ne) (by show 0+_≤_;exact n1 F.sz (by simp +arith only)) (by have:=F.ne;exact n1 this (by simp +arith only)) (ah (af _ _)) (by rw [l1];exact Nat.ne_of_lt (Nat.lt_succ_self _)) (af _ _) fun h1 us k1 e2 a1=>?_
 have p1:h<+:h1:=by
  refine List.prefix_iff_eq_take.mpr (List.ext_getElem? fun j=>?_)
  rw [List.getElem?_take]
  refine Or.elim (Nat.lt_or_ge j h.length) (fun lt=>?_) fun ge=>?_
  ·rw [if_pos lt,bD lt]
   exact (k1 j _ (Nat.ne_of_lt (n2 lt (Nat.le_of_eq l1.symm) (by simp +arith only))) (aj p0 (bD lt))).symm
  ·rw [if_neg (Nat.not_lt.mpr ge),List.getElem?_eq_none ge]
 have L1:mM h1 rp ra rb (h++[MO.list []]).length A B (nums 1 [] rows) us:=⟨aj p1 hp,aj p1 hA,aj p1 hB,e2,a1⟩
 refine xG hK L1 F (by decide) fun h3 s sec p3 e3 hsec hsT _=>?_
 exact Fh hK (pr.up (p1.trans p3)) F e3 hsec hsT
theorem Fj (hz:(lns rows).length≤1000) :
  aP K 600 (cD.body.drop 6) (fin fun v _=>v=.bool true) (fun _ _=>False) ⟨[some (.scr is),v1,v2,some (.ref rp),some (.ref b),v5,none,none,none,none,none,none],h⟩:=by
 refine ai hp ?_
 refine ai hp ?_
 refine ai hb ?_
 refine Dj hK (h0:=h) (l:=true) (l':=true) (l'':=false) (A:=A) (B:=B) (rows:=rows) ⟨_,Nat.zero_le _,rfl,hA⟩ ⟨_,Nat.zero_le _,rfl,hB⟩ ⟨_,rfl,gc rows⟩ (fun s hs=>F.gn s (List.mem_append_left _ hs)) (fun s hs=>F.gn s (List.mem_append_right _ hs)) F.nd (Nat.le_trans F.len (nb rfl)) F.g F.ne (Nat.le_trans hz (nb rfl)) (by decide) fun h2 p2 pr=>?_
 have p2:h<+:h2:=p2
 exact Fi hK (aj p2 hp) (aj p2 hA) (aj p2 hB) (aj p2 hb) F pr
end
theorem DB (is:List Int):aP K 600 cD.body (fin fun v _=>v=.bool true) (fun _ _=>False) (dm cD [.scr is] []):=by
 refine iZ hK (by decide) ?_
 refine iZ hK (by decide) ?_
 refine zB hK fun h1 r ss hpre hlen hr ten hs hnd hkw=>?_
 have gn:∀s∈ss,Gn s:=fun s h=>⟨hs s h,hkw s h⟩
 refine iZ hK (by decide) ?_
 refine db hK ?_
 refine Dx hK (h:=h1) (N:=600) hr (fun s h=>(hs s h).ok) (by decide) fun h2 i a b U V p2 e1 e2 e3 sU sV hno=>?_
 have p2:h1<+:h2:=p2
 refine iZ hK (by decide) ?_
 refine db hK ?_
 have lU:=sU.length_le
 have lV:=sV.length_le
 rw [xB] at lU lV
 refine z4 hK (h:=h2) (N:=600) (aj p2 hr) ten e1 e2 e3 lU lV (by decide) fun h3 rp ra rb A B A' B' p3 f1 f2 f3 pA pB sA sB=>?_
 have p3:h2<+:h3:=p3
 have r3:=aj (p2.trans p3) hr
 have ei:aF (is.map MV.int) (some 3) (some 63)=(aF is (some 3) (some 63)).map MV.int∧(aF is (some 3) (some 63)).length≤60:=by
  unfold aF
  dsimp only
  rw [List.length_map,iC (by decide),iC (by decide)]
  refine ⟨by rw [List.map_drop,List.map_take],?_⟩
  rw [List.length_drop,List.length_take]
  have e1:(3:Int).toNat=3:=rfl
  have e2:(63:Int).toNat=63:=rfl
  rw [e1,e2]
  refine Or.elim (Nat.le_total 3 is.length) (fun h=>?_) fun h=>?_
  ·rw [Nat.min_eq_left h];exact Nat.sub_le_sub_right (Nat.le_trans (Nat.min_le_left _ _) (Nat.min_le_left _ _)) 3
  ·exact Nat.le_trans (Nat.sub_le _ _) (Nat.le_trans (Nat.min_le_right _ _) (Nat.le_trans h (nb rfl)))
 refine e02 ei fun ei el=>?_
 conv=>whnf
 rw [ei]
 refine zP hK (cells:=aF is (some 3) (some 63)) (af _ _) (ah r3) ten gn (Nat.le_trans el (nb rfl)) (by decide) fun h4 i4 rows p4 e4 g4 n4 bl=>?_
 have p4:h3<+:h4:=(aa (ak _)).trans p4
 have bl:(lns rows).length≤304:=Nat.le_trans bl (Nat.add_le_add_left (Nat.mul_le_mul_left 5 el) 4)
 have go:∀{bs zs:List Rw} {h5 b},h4<+:h5→h5[b]?=some (.list (mvs (bs++zs)))→Bks ss zNs bs zs→(lns (bs++zs)).length≤1000→aP K 600 (cD.body.drop 6) (fin fun v _=>v=.bool true) (fun _ _=>False) ⟨[some (.scr is),some (.ref r),some (.ref i),some (.ref rp),some (.ref b),some (.int (cell is 2)),none,none,none,none,none,none],h5⟩:=fun {bs zs h5 b} p5 e5 B5 l5=>Fj hK (aj (p4.trans p5) f1) (aj (p4.trans p5) f2) (aj (p4.trans p5) f3) e5 (t0 ten gn hnd sU sV hno pA pB sA sB Fe (by decide) B5) l5
 refine iZ hK (by decide) ?_
 refine si (fun _=>?_) fun _=>?_
 ·have:=dh rows
  exact go (zs:=[]) (ak _) (by rw [List.append_nil];exact e4) ⟨g4,n4,by show au rows+0≤_;exact n2 this bl (by simp +arith only),fun _ h=>aN h⟩ (by rw [List.append_nil];exact Nat.le_trans bl (nb rfl))
 ·refine ai e4 ?_
  refine iZ hK (by decide) ?_
  have m0:0≤cell is 2 / 4 % 60∧cell is 2 / 4 % 60<60:=em rfl
  have s0:0≤cell is 1 % 60∧cell is 1 % 60<60:=em rfl
  refine z9 hK (many:=cell is 2 / 4 % 60) (step:=1+cell is 1 % 60) (ah (aj p4 r3)) ten ⟨m0.1,z1 m0.2 (by simp +arith only)⟩ ⟨z1 s0.1 (by simp +arith only),z1 s0.2 (by simp +arith only)⟩ (by decide) fun h5 i5 zs p5 _ e5 lz z5=>?_
  have p5:h4++[MO.list (aF (mvs rows) none (some 6))]<+:h5:=p5
  refine ai (aj p5 (af _ _)) (ai e5 ?_)
  rw [cj (by decide),show (6:Int).toNat=6 from rfl,pt]
  have l6:=List.length_take_le 6 rows
  refine ⟨aL (by rw [dM,dM];exact n2 l6 lz (by simp +arith only)),?_⟩
  rw [←f5]
  have zf:∀q∈zs,q.gp (·∈ss++zNs)∧q.subs=[]:=fun q hq=>by
   obtain ⟨k,s,k0,k1,hs,rfl⟩:=z5 q hq
   refine ⟨⟨List.mem_append_right _ (Ff k0 (Int.lt_trans k1 m0.2)),⟨.inl rfl,?_,by decide,by decide⟩,Nat.succ_le_succ (Nat.zero_le _)⟩,rfl⟩
   rcases hs with hs | ⟨k',hk',rfl⟩
   ·exact List.mem_append_left _ hs
   ·exact List.mem_append_right _ (Ff hk'.1 (Int.lt_trans hk'.2 m0.2))
  rw [←List.take_append_drop 6 rows] at g4 n4 bl
  rw [iE,List.length_append] at bl
  have s6:=dh (rows.take 6)
  have fz:=pu fun q hq=>(zf q hq).2
  exact go (aa ((aa (ak _)).trans p5)) (af _ _) ⟨(nW g4).1,(jc n4).1,n3 lz s6 bl (by simp +arith only),zf⟩ (by rw [iE,List.length_append];exact n3 (Nat.le_of_eq fz) lz bl (by simp +arith only))
end Internal
end
set_option tactic.hygienic true
set_option Elab.async false
set_option maxRecDepth 100000
set_option maxHeartbeats 8000000
open PySem PySem.W PyProof.Rows Internal
noncomputable def Internal.T09:gm:=⟨Internal.tab,Internal.mtab,[(0,"Program",["opens","secrets","rows"])],[],fun _=>false,Internal.gl⟩
theorem PySem.Challenge.cw_uf010009_09_holds : PySem.Challenge.rw_uf010009_09.Holds := by
 w_on
 refine holds_law Fz fun said=>?_
 refine holds_open (q:=Q09) (loose:=["MODULUS","THINGS"]) (Xt:=X09) (XP:=fun mg h=>XL Q09 DJ mg h∧eJ [] mg h) (Yf:=lM "THINGS") (Ya:=nZ t7) (YP:=iY "THINGS" t7 Challenge.pw_uf010009_09) (N:=10000) Ba (fun w s e=>EZ (by unfold line;decide) (by decide +kernel) e) (fun w h h' y k=>y.keeps k)
  (fun s e=>⟨xl_of s (Bool.and_eq_true_iff.mp e).1,rfl⟩) (fun mg h h' y k=>⟨XL.keeps mg h h' y.1 k,y.2.keeps k⟩) (by rfl) (by rfl) (by rfl) (fun s e=>recFacts_of (Bool.and_eq_true_iff.mp e).2) (by rfl) said (by decide +kernel) ⟨rfl,rfl,rfl,rfl,rfl,by decide +kernel⟩ ?hw ?hc
 case hw=>w_witness2
 intro w s₀ s₁ mg mb G Y fa o pm cd doc dV kV ho hd hcd hD hmg hg args vals as hpre hlay hrd hwl hlo
 have V:=(Ground.X G).1
 have XF:=(Ground.X G).2
 have T:=G.T
 have B:=G.B
 have TE:=G.TE
 clear hd hcd hD
 wrow_args hpre hlay hrd hwl hlo
 rename Well _ _ _ _=>hW
 rename IntsAre _ _=>hI
 rename Heap.IsList _ _ _=>hL
 rename (¬ _<_)=>hc
 have hct:oV (plainsOf Q09 (looseW Q09 ["MODULUS","THINGS"])) T09=true:=by decide +kernel
 obtain ⟨cm,hcm⟩:=E1 (t:=T09) TE hct
 refine wJ (t:=T09) (prog:=PySem.Challenge.pw_uf010009_09) T TE XF hcm (f:=110) (x:="law") (d:=cD) ?zzimp ?zzchk ?zzmt hct ?zzblt ?zzhgl rfl hg rfl hmg rfl (C6 hW hL hI ?zzhz) (fun K hK=>DB hK _) ?zzhQ
 case zzimp=>decide +kernel
 case zzchk=>decide +kernel
 case zzmt=>decide +kernel
 case zzblt=>decide +kernel
 case zzhz=>unfold line;lia
 case zzhgl=>
  intro g x v e
  replace e:Internal.gl g=some (x,v):=e
  unfold Internal.gl at e
  split at e
  ·cases e
   obtain ⟨u,h1,h2⟩:=V.2.val _ (List.mem_cons_self ..)
   refine ⟨u,h1,fun ρ h' _=>?_⟩
   cases h2
   exact .int _ _
  ·cases e;exact wM B (by decide +kernel) (by unfold line;decide)
  ·cases e;exact wM B (by decide +kernel) (by unfold line;decide)
  ·cases e;exact wL T (by decide +kernel) (by unfold line;decide)
  ·cases e;exact wL T (by decide +kernel) (by unfold line;decide)
  ·cases e;exact qy T (by decide +kernel)
  ·cases e;exact qy T (by decide +kernel)
  ·cases e;exact qy T (by decide +kernel)
  ·cases e;exact zm T Y
  ·cases e
 case zzhQ=>
  intro s' h1 h2 h3
  refine GoodW.toG ⟨.inl ⟨_,.bool true,[],rfl,?_,?_,?_,?_⟩,h1,h2,h3⟩
  ·exact fun _=>rfl
  ·exact .bool _
  ·exact tG _ _ _
  ·exact fun _=>⟨List.nodup_nil,fun _ h=>by cases h⟩
