import PyProof.Rows.All
import PyProof.Rules
import PyProof.Raises
import PyProof.Rules2
import PyProof.AssignAttr
import PyProof.FactsSeq
import PyProof.FactsAll.list_3
import PyProof.FactsAll.dict_3
import PyProof.AttrMissHeap
import PyProof.TupleIter
import PyProof.AutoSeq1
import PyProof.Rules3
import PyProof.SliceSyntax
import PyProof.ForAny
import PyProof.CallRoads
import PyProof.CallType
import PyProof.CallStr
import PyProof.Cells
import PyProof.ConsumeWalk
import PyProof.StrLoop
import PyProof.StrWalks
import PyProof.CollectIter
import PyProof.CompFree
import PyProof.Conv_int
import PyProof.Conv_int_bool
import PyProof.MeetsSeq
import PyProof.DictKinds
import PyProof.MeetsDict
import PyProof.MeetsDictList
import PyProof.DictRoads
import PyProof.DictTruth
import PyProof.DictStraight
import PyProof.DictCopy
import PyProof.DictIter
import PyProof.DictWalks
import PyProof.EnumStmt
import PyProof.EqAt
import PyProof.P3Eq
import PyProof.NeData
import PyProof.ExcClass3
import PyProof.RaisesMany
import PyProof.FactsAll.set_1
import PyProof.StrLawsIn
import PyProof.SliceStr2
import PyProof.StrOps
import PyProof.StrBlock
import PyProof.StrLawsChain
import PyProof.WalksMore
import PyProof.RangeFor
import PyProof.InstStore
import PyProof.InstLoad
import PyProof.InstStoreFacts
import PyProof.IsiHeapPairs
import PyProof.IsiNone
import PyProof.IsiPairs
import PyProof.IsiSeqPairs
import PyProof.IsiTupleAll
import PyProof.ListCopy
import PyProof.ListIndexNeg
import PyProof.WalkInts
import PyProof.RulesAs
import PyProof.NsDelKeeps
import PyProof.ObjNew
import PyProof.Rows.TupAssign
import PyProof.Rows.TupSub
import PyProof.Rows.TupIn
import PyProof.Rows.StrMeet
import PyProof.WalksPairs
import PyProof.StrCalls2
import PyProof.Rows.StrSplitAre
import PyProof.Rows.Many
import PyProof.Rows.Exc
import PyProof.Rows.StrBin
import PyProof.Rows.AttrNode
import PyProof.Rows.RuleU_int
import PyProof.Rows.RuleB_mul
import PyProof.Rows.RuleB_sub
import PyProof.Rows.RuleB_pow
import PyProof.Rows.FactsT1
import PyProof.WalksEnum
import PyProof.Rows.RuleB_floordiv
import PyProof.Rows.RuleB_mod
import PyProof.StrCalls3
import PyProof.Rows.Method
import PyProof.Rows.StrTemp
import PyProof.Rows.RuleB_small
import PyProof.Rows.RuleC_int
import PyProof.TupleOps
import PyProof.SeqI3
import PyProof.Rows.TupMore
import PyProof.SliceMore
import PyProof.StrLawsTight
import PyProof.RulesDelMore
import PyProof.Rows.SeqMore
import PyProof.Rows.TupAdd
import PyProof.TupleOfSeq
import PyProof.Rows.ReprOcc
import PyProof.Rows.SortWalk
import PyProof.Rows.TmSorted
import PyProof.Rows.PlainObj
import PyProof.Rows.SortStr
import PyProof.SetRoads
import PyProof.Rows.SetFrom
import Wide.Well
import Wide.Loose
import Open.Row
import Open.Line
import Open.Boot
import Open.Tree
import KE.IntTextText
import KE.KDictOf
import PySem.Challenge.RW_uf010009_10
set_option Elab.async false
set_option genSizeOf false
set_option genInjectivity false
set_option bootstrap.genMatcherCode false
set_option autoImplicit false
set_option linter.unusedVariables false
set_option tactic.hygienic false
set_option backward.match.sparseCases false
section
namespace Internal
noncomputable def DX:Bool:=false
noncomputable def pR:Bool:=false
noncomputable def AI:Bool:=true
noncomputable def AJ:Bool:=false
noncomputable def AK:Bool:=false
noncomputable def DY:Bool:=true
noncomputable def Bq:Bool:=true
noncomputable def AL:Bool:=true
noncomputable def Br:Bool:=false
noncomputable def Bs:Bool:=false
noncomputable def Bt:Bool:=false
noncomputable def Bu:Bool:=true
noncomputable def hY:Bool:=false
noncomputable def DZ:Bool:=true
noncomputable def yp:Bool:=false
noncomputable def jc:Bool:=false
noncomputable def AM:Bool:=false
noncomputable def D0:Bool:=true
noncomputable def yq:Bool:=true
noncomputable def un:Bool:=false
end Internal
end
section
namespace Internal
open PySem
noncomputable abbrev str (s:List Nat):Str:=⟨s.toArray⟩
noncomputable def jd (e:DictEntry):Option (Int × Str × Int):=match e.key with
 | .str k _=>match e.val with
  | .int i _=>some (e.hash,k,i)
  | _=>none
 | _=>none
noncomputable def dq:List DictEntry→Option (List (Int × Str × Int))
 | []=>some []
 | e::es=>match jd e with
  | some x=>match dq es with
   | some xs=>some (x::xs)
   | none=>none
  | none=>none
noncomputable def mC (x:Str)(s:Shared):Option (List (Int × Str × Int)):=match s.heap.nsMap mainGlobals x with
 | some (.ref a)=>match s.heap.get? a with
  | some o=>match o.data with
   | .dict es _=>match (a != sysModules&&o.cls==.type "dict"&&o.dict.isNone&&o.slots.size==0&&s.heap.isNs mainGlobals) with
    | true=>dq es.toList
    | false=>none
   | _=>none
  | none=>none
 | _=>none
noncomputable def oq (es:List (List Nat × Int))(w:World):Option (List (Int × Str × Int)):=some (es.map fun p=>(hashStr w (str p.1),str p.1,p.2))
end Internal
end
section
set_option maxRecDepth 100000
namespace Internal
open PySem PySem.W
noncomputable def j0 (tb:String→Option Builtin)(p:Program)(w:World)(n₀:Nat)(ann:Option Value):Nat→SharedT→Thread→Option SharedT
 | 0,_,_=>none
 | n+1,s,t=>match through t with
  | true=>some s
  | false=>match stepOk n₀ ann t with
   | false=>none
   | true=>match stepT (denote tb) p w s t with
    | some (s',t')=>j0 tb p w n₀ ann n s' t'
    | none=>none
theorem sH {tb:String→Option Builtin}{p:Program}{w:World}{n₀:Nat}{ann:Option Value}{n:Nat}{s s':SharedT}{t:Thread}(h:j0 tb p w n₀ ann n s t=some s'):topRun tb p w n₀ ann n s.abs t=some s'.abs:=by
 induction n generalizing s t with
 | zero=>cases h
 | succ n ih=>
  unfold j0 at h
  unfold topRun
  cases he:through t with
  | true=>rw [he] at h;cases h;rfl
  | false=>
   rw [he] at h
   cases hk:stepOk n₀ ann t with
   | false=>rw [hk] at h;cases h
   | true=>
    rw [hk] at h
    cases hs:stepT (denote tb) p w s t with
    | none=>rw [hs] at h;cases h
    | some r=>obtain ⟨s₂,t₂⟩:=r;rw [hs] at h;rw [stepT_spec hs];exact ih h
noncomputable def uo:List Obj→Nat→BT→BT
 | [],_,t=>t
 | o::l,n,t=>uo l (n+1) (t.ins n o)
noncomputable def D1 (P:Params):BT:=uo (boot_heap P).objs.toList 0 .nil
noncomputable def sT (P:Params)(os:OsState):SharedT:=⟨D1 P,(boot_heap P).objs.size,(boot_heap P).life,Array.mk [],boot_drawn,boot_toks,os⟩
theorem Bv (P:Params)(os:OsState):(sT P os).abs=⟨boot_heap P,Array.mk [],boot_drawn,boot_toks,os⟩:=by kernel_rfl
theorem yr (P:Params):(boot_heap P).isNs mainGlobals=true:=by kernel_rfl
noncomputable def pS (p:Program)(N:Nat)(w:World)(os:OsState):Option SharedT:=
 (j0 treeTable p w (boot_heap w.params).objs.size ((boot_heap w.params).nsMap mainGlobals "__annotations__") N (sT w.params os) (topStub p)).bind fun s₁=>
  match staticsOk (importedModules p.main.body) (boot_heap w.params) s₁.abs.heap&&namesBound p s₁.abs.heap&&gensDone s₁.abs&&laidKept (boot_heap w.params) s₁.abs.heap with
   | true=>some s₁
   | false=>none
theorem yt {p:Program}{N:Nat}{w:World}{os:OsState}{s₁:SharedT}(h:pS p N w os=some s₁):topFrom treeTable p w N ⟨boot_heap w.params,Array.mk [],boot_drawn,boot_toks,os⟩=some s₁.abs:=by
 obtain ⟨s,h1,h2⟩:=Option.bind_eq_some_iff.mp h
 have h1:=sH h1
 rw [Bv] at h1
 unfold topFrom
 show (match (boot_heap w.params).isNs mainGlobals&&true with
  | true=>(topRun treeTable p w (boot_heap w.params).objs.size ((boot_heap w.params).nsMap mainGlobals "__annotations__") N ⟨boot_heap w.params,Array.mk [],boot_drawn,boot_toks,os⟩ (topStub p)).bind _
  | false=>none)=_
 rw [yr,h1]
 show (match staticsOk (importedModules p.main.body) (boot_heap w.params) s.abs.heap&&namesBound p s.abs.heap&&gensDone s.abs&&laidKept (boot_heap w.params) s.abs.heap with
   | true=>some s.abs
   | false=>none)=_
 cases hb:(staticsOk (importedModules p.main.body) (boot_heap w.params) s.abs.heap&&namesBound p s.abs.heap&&gensDone s.abs&&laidKept (boot_heap w.params) s.abs.heap) with
 | true=>rw [hb] at h2;cases h2;rfl
 | false=>rw [hb] at h2;cases h2
theorem sI {p q:Program}{loose:List Str}{Xt:Shared→Bool}{N:Nat}{α:Type}{Yf:Shared→α}{Ya:World→α}(e:opening p=plainProg p.main.scope.names)(hN:Nat.ble 600 N=true)(f:∀s,fenceModules? p s=some s)
  (h:∀(w:World) (os:OsState),(pS p N w os).map (fun s=>(openSeen q loose (importedModules p.main.body) Xt true s.abs,Yf s.abs))=some (openGood q loose,Ya w)):LeftO p q loose Xt Yf Ya N:=fun w=>by
 obtain ⟨s₀,h0,hv⟩:=Option.map_eq_some_iff.mp (boot_open e hN f w)
 obtain ⟨hp,gens,drawn,toks,os⟩:=s₀
 obtain ⟨e1,hv⟩:=Prod.mk.inj hv
 obtain ⟨e2,hv⟩:=Prod.mk.inj hv
 obtain ⟨e3,e4⟩:=Prod.mk.inj hv
 dsimp only at e1 e2 e3 e4
 subst e1 e2 e3 e4
 obtain ⟨s₁,h1,h2⟩:=Option.map_eq_some_iff.mp (h w os)
 unfold openEnds
 rw [h0]
 show (topFrom treeTable p w N _).map _=_
 rw [yt h1]
 show some (openSeen q loose (importedModules p.main.body) Xt true s₁.abs,Yf s₁.abs)=some _
 rw [h2]
end Internal
end
section
set_option maxHeartbeats 0
set_option maxRecDepth 100000
set_option Elab.async false
namespace Internal
open PySem PySem.W PyProof.Rows
theorem E9:Challenge.rw_uf010009_10.wellSaid=true:=by decide +kernel
noncomputable def Q10:Program:=PySem.W.view Challenge.pw_uf010009_10 [1,2,3,4,5,7,8,9,10,11,12,13,14,15,16,17,18,19,20,21,22,24,25,26,27,28,29,30,31,32,33,34,35,37,38,39,40,41,42,43,45,46,47,48,49,50,51,52,53,54,55,56,57,58,59,60,61,62,63,64,65,66,67,68,69,70,71,72,73,74,75,76,77]
noncomputable def D2:List (Str × WData):=[("MODULUS",WData.int 1000000)]
noncomputable def uq:List (List Nat × Int):=[([115,101,116],3),([116,101,108,108],2),([115,107,105,112],1),([105,102],4),([119,104,105,108,101],3)]
noncomputable def X10:Shared→Bool:=fun s=>xlAt Q10 D2 s&&recOk (RowW.records Challenge.rw_uf010009_10.row.toRowW) s
noncomputable abbrev hsa (s:SharedT):=(seen ((recsOf Q10).map (·.name)) (ownsOf Q10) [] { s.abs with gens:=#[] },s.abs.heap.bltView,(s.abs.heap.keysOk (looseW Q10 ["MODULUS","THINGS"]) ((recsOf Q10).map (·.name)) ((litsOf Q10).map (·.1)) ((clssOf Q10 (looseW Q10 ["MODULUS","THINGS"])).map (·.name))&&s.abs.heap.accountedOkI (importedModules Challenge.pw_uf010009_10.main.body)&&s.abs.heap.isNs mainGlobals&&s.abs.heap.isNs builtinsNs&&tablesOk Q10 s.abs.heap&&X10 s.abs&&(if true then s.abs.gens.size==0 else !leftWithCleanup s.abs.gens)),mC "THINGS" s.abs)
noncomputable abbrev hsb (s:SharedT):=(tabsOk Q10 s.abs,pinSeenD Q10 (drecsOf Q10) s.abs,plainSeenE Q10 (looseW Q10 ["MODULUS","THINGS"]) s.abs,plainSeenD Q10 ["MODULUS","THINGS"] s.abs,wideSeen Q10 s.abs,clsSeenW Q10 ["MODULUS","THINGS"] s.abs)
noncomputable abbrev hga (w:World):=(expectedOf Q10,bltViewBooted,true,oq uq w)
noncomputable abbrev hgb:=(true,pinGoodD (drecsOf Q10),plainGoodE Q10 (looseW Q10 ["MODULUS","THINGS"]),plainGoodD Q10 ["MODULUS","THINGS"],wideGood Q10,clsGoodW Q10 ["MODULUS","THINGS"])
theorem Bw:∀(w:World) (os:OsState),(pS Challenge.pw_uf010009_10 10000 (w.withFollow "special-get-raises" false) os).map hsa=some (hga (w.withFollow "special-get-raises" false)):=by
 intro w os;kernel_rfl
theorem Bx:∀(w:World) (os:OsState),(pS Challenge.pw_uf010009_10 10000 (w.withFollow "special-get-raises" false) os).map hsb=some hgb:=by
 intro w os;kernel_rfl
theorem Bz:∀(w:World) (os:OsState),(pS Challenge.pw_uf010009_10 10000 (w.withFollow "special-get-raises" true) os).map hsa=some (hga (w.withFollow "special-get-raises" true)):=by
 intro w os;kernel_rfl
theorem BA:∀(w:World) (os:OsState),(pS Challenge.pw_uf010009_10 10000 (w.withFollow "special-get-raises" true) os).map hsb=some hgb:=by
 intro w os;kernel_rfl
theorem AN {α β γ δ:Type _}{o:Option α}{f:α→β}{g:α→γ}{b:β}{c:γ}(h:o.map f=some b)(k:o.map g=some c)(F:β→γ→δ):o.map (fun s=>F (f s) (g s))=some (F b c):=by
 obtain ⟨s,rfl,rfl⟩:=Option.map_eq_some_iff.mp h
 cases k;rfl
theorem BB:opening Challenge.pw_uf010009_10=plainProg Challenge.pw_uf010009_10.main.scope.names:=by kernel_rfl
theorem yu (s:Shared):fenceModules? Challenge.pw_uf010009_10 s=some s:=by kernel_rfl
theorem BC:LeftO Challenge.pw_uf010009_10 Q10 ["MODULUS","THINGS"] X10 (mC "THINGS") (oq uq) 10000:=
 sI BB rfl yu (byRow2 "special-get-raises" (P:=fun w=>∀os:OsState,(pS Challenge.pw_uf010009_10 10000 w os).map (fun s=>(openSeen Q10 ["MODULUS","THINGS"] (importedModules Challenge.pw_uf010009_10.main.body) X10 true s.abs,mC "THINGS" s.abs))=some (openGood Q10 ["MODULUS","THINGS"],oq uq w))
  (fun w os=>AN (Bw w os) (Bx w os) fun x y=>((x.1,x.2.1,x.2.2.1,y),x.2.2.2)) fun w os=>AN (Bz w os) (BA w os) fun x y=>((x.1,x.2.1,x.2.2.1,y),x.2.2.2))
end Internal
end
section
namespace Internal
theorem same {α:Type _}{x:Option α}{a b:α}(h:x=some a)(k:x=some b):a=b:=Option.some.inj (h.symm.trans k)
theorem aX {α:Type _}{x:Option α}{a:α}{P:Prop}(h:x=none)(k:x=some a):P:=by cases h.symm.trans k
theorem aw {α:Type _}{a:α}{P:Prop}(h:none=some a):P:=by cases h
theorem pT {α:Type _}{a:α}{P:Prop}(h:some a=none):P:=by cases h
theorem ff {P:Prop}(h:false=true):P:=Bool.noConfusion h
theorem tf {P:Prop}(h:true=false):P:=Bool.noConfusion h
theorem aC {α:Type _}{a:α}{P:Prop}(h:a∈([]:List α)):P:=(List.not_mem_nil h).elim
theorem n1 {a b c d:Nat}(h:a≤b)(e:c+b≤d+a):c≤d:=Nat.le_of_add_le_add_right (Nat.le_trans e (Nat.add_le_add_left h d))
theorem n2 {a b a' b' c d:Nat}(h:a≤b)(h':a'≤b')(e:c+(b+b')≤d+(a+a')):c≤d:=n1 (Nat.add_le_add h h') e
theorem n3 {a b a' b' a2 b2 c d:Nat}(h:a≤b)(h':a'≤b')(h2:a2≤b2)(e:c+(b+(b'+b2))≤d+(a+(a'+a2))):c≤d:=n2 h (Nat.add_le_add h' h2) e
theorem z1 {a b c d:Int}(h:a≤b)(e:c+b≤d+a):c≤d:=Int.le_of_add_le_add_right (Int.le_trans e (Int.add_le_add_left h d))
theorem z2 {a b a' b' c d:Int}(h:a≤b)(h':a'≤b')(e:c+(b+b')≤d+(a+a')):c≤d:=z1 (Int.add_le_add h h') e
theorem mx {a b c:Nat}(h:a≤c)(k:b≤c):max a b≤c:=Nat.max_le.mpr ⟨h,k⟩
theorem mx0 {a c:Nat}(h:a≤c):max a 0≤c:=mx h (Nat.zero_le _)
theorem m0x {a c:Nat}(h:a≤c):max 0 a≤c:=mx (Nat.zero_le _) h
theorem lk {a b c:Nat}(h:a≤b)(k:Nat.ble b c=true):a≤c:=Nat.le_trans h (Nat.le_of_ble_eq_true k)
theorem dn {d k:Int}{n:Nat}(h:d+n≤k):¬ k<d:=Int.not_lt.mpr (Int.le_trans (Int.le_add_of_nonneg_right (Int.natCast_nonneg _)) h)
theorem dl {d k:Int}{a b:Nat}(h:d+((max a b+1:Nat):Int)≤k):d+1+a≤k∧d+1+b≤k:=by lia
theorem nb {a b:Nat}(h:Nat.ble a b=true):a≤b:=Nat.le_of_ble_eq_true h
theorem nf {P:Prop}(h:1≤0):P:=absurd h (Nat.not_succ_le_self 0)
theorem em0 {x k:Int}(h:decide (0<k)=true):0≤x % k:=Int.emod_nonneg _ (Int.ne_of_gt (of_decide_eq_true h))
theorem em2 {x k K:Int}(h:(decide (0<k)&&decide (k≤K))=true):x % k<K:=by
 obtain ⟨h1,h2⟩:=Bool.and_eq_true_iff.mp h
 exact Int.lt_of_lt_of_le (Int.emod_lt_of_pos _ (of_decide_eq_true h1)) (of_decide_eq_true h2)
theorem em {x k K:Int}(h:(decide (0<k)&&decide (k≤K))=true):0≤x % k∧x % k<K:=⟨em0 (Bool.and_eq_true_iff.mp h).1,em2 h⟩
theorem emN {x k:Int}{n:Nat}(h:(decide (0<k)&&decide (k≤(n:Int)))=true):(x % k).toNat<n:=(Int.toNat_lt (em0 (Bool.and_eq_true_iff.mp h).1)).mpr (em2 h)
theorem sb {n k:Nat}(h:k≤n):n=n-k+k:=(Nat.sub_add_cancel h).symm
theorem jT {n:Nat}(h:0<n):(0:Int)<n:=Int.natCast_pos.mpr h
theorem cne {n:Nat}(h:0<n):(n:Int)≠0:=Int.ne_of_gt (jT h)
theorem tn {k:Int}{n:Nat}(h0:0≤k)(h:k<n):k.toNat<n:=(Int.toNat_lt h0).mpr h
set_option genCtorIdx false in
inductive MV where
 | none | bool (b:Bool) | int (i:Int) | str (s:List Nat) | tup (xs:List MV) | ref (i:Nat) | inst (c i:Nat) | scr (is:List Int) | gt (ss:List (List Nat)) | cdict (es:List (List Nat × Int))
gen_injective_theorems% MV
set_option genCtorIdx false in
inductive MO where
 | list (xs:List MV) | dict (es:List (List Nat × MV)) | attrs (es:List (List Nat × MV)) | exc (c:Nat)
gen_injective_theorems% MO
set_option genCtorIdx false in
structure MS where
 vars:List (Option MV)
 heap:List MO
set_option genCtorIdx false in
inductive Fl where
 | next | brk | cont | ret (v:MV)
gen_injective_theorems% Fl
noncomputable abbrev XT:=Nat→List MO→Prop
noncomputable abbrev XM:=Nat→MS→Prop
noncomputable abbrev KT:=Nat→Nat→List MV→(MV→List MO→Prop)→XT→List MO→Prop
set_option genCtorIdx false in
inductive Op where
 | add | sub | mul | fdiv | mod | pow (u:Unit:=())
gen_injective_theorems% Op
set_option genCtorIdx false in
inductive Cmp where
 | eq | ne | lt | le | gt | ge | inn | nin (u:Unit:=())
gen_injective_theorems% Cmp
set_option genCtorIdx false in
inductive Bi where
 | len | int | str | list | tuple | dict | sortedSet | sorted | sum | min | max | all | listRev (u:Unit:=())
gen_injective_theorems% Bi
set_option genCtorIdx false in
inductive Me where
 | append | extend | insert | pop | popAt | dpop | clear | dclear | count | index | find | split | join | get (u:Unit:=())
gen_injective_theorems% Me
set_option genCtorIdx false in
inductive TS where
 | int | bool | str | list | tuple | dict | cls (c:Nat) | valueError
gen_injective_theorems% TS
set_option genCtorIdx false in
inductive IK where
 | val | range1 | range2 | enum | keys (u:Unit:=())
gen_injective_theorems% IK
set_option genCtorIdx false in
inductive ME where
 | cst (v:MV)
 | var (i:Nat)
 | glob (g:Nat) (v:MV)
 | bin (op:Op) (a b:ME)
 | neg (a:ME)
 | not (a:ME)
 | and (es:List ME)
 | or (es:List ME)
 | cmp (op:Cmp) (a b:ME)
 | cmp2 (op op':Cmp) (a b c:ME)
 | isN (pos:Bool) (a:ME)
 | call (f:Nat) (args:List ME)
 | blt (b:Bi) (args:List ME)
 | mth (k:Me) (o:ME) (args:List ME)
 | umth (c f:Nat) (x:List Nat) (o:ME) (args:List ME)
 | new (c f:Nat) (args:List ME)
 | attr (c:Nat) (o:ME) (x:List Nat)
 | idx (o i:ME)
 | sl (o:ME) (lo hi:Option ME)
 | list (es:List ME)
 | tup (es:List ME)
 | dict0
 | comp (elt:ME) (t:List Nat) (many:Bool) (k:IK) (src:List ME) (ifs:List ME)
 | isi (a:ME) (ts:List TS)
gen_injective_theorems% ME
set_option genCtorIdx false in
inductive MSt where
 | asg (t:List Nat) (many:Bool) (e:ME)
 | setAttr (c:Nat) (o:ME) (x:List Nat) (e:ME)
 | setIdx (o i e:ME)
 | expr (e:ME)
 | ite (c:ME) (a b:List MSt)
 | for_ (t:List Nat) (many:Bool) (k:IK) (src:List ME) (body:List MSt)
 | while_ (c:ME) (body:List MSt)
 | ret (e:ME)
 | cont
 | raise (c:Nat)
 | try_ (body:List MSt) (c:Nat) (v:Nat) (h:List MSt)
gen_injective_theorems% MSt
noncomputable def MS.set (m:MS)(i:Nat)(v:MV):MS:=⟨m.vars.set i (some v),m.heap⟩
noncomputable def MS.get (m:MS)(i:Nat):Option MV:=match m.vars[i]? with
 | some (some v)=>some v
 | _=>none
noncomputable def MS.unset (m:MS)(i:Nat):MS:=⟨m.vars.set i none,m.heap⟩
noncomputable def MS.push (m:MS)(o:MO):MS:=⟨m.vars,m.heap++[o]⟩
noncomputable def MS.put (m:MS)(i:Nat)(o:MO):MS:=⟨m.vars,m.heap.set i o⟩
noncomputable def dt (x:Int):Prop:=x.natAbs<2 ^ 63
noncomputable def line:Nat:=2 ^ 24
noncomputable abbrev PQ:=MV→MS→Prop
set_option genCtorIdx false in
inductive D where
 | none | bool (b:Bool) | int (i:Int) | str (s:List Nat) | list (xs:List D) | tup (xs:List D)
gen_injective_theorems% D
mutual
noncomputable def D.deq:D→D→Bool
 | .none,.none=>true
 | .bool a,.bool b=>a==b
 | .bool a,.int j=>(if a then 1 else 0)==j
 | .int i,.bool b=>i==(if b then 1 else 0)
 | .int i,.int j=>i==j
 | .str x,.str y=>x==y
 | .list xs,.list ys=>D.deqs xs ys
 | .tup xs,.tup ys=>D.deqs xs ys
 | _,_=>false
noncomputable def D.deqs:List D→List D→Bool
 | [],[]=>true
 | x::xs,y::ys=>D.deq x y&&D.deqs xs ys
 | _,_=>false
end
mutual
noncomputable def D.deep:D→Nat
 | .list xs | .tup xs=>D.deeps xs+1
 | _=>0
noncomputable def D.deeps:List D→Nat
 | []=>0
 | x::xs=>max (D.deep x) (D.deeps xs)
end
mutual
noncomputable def D.ok:D→Bool
 | .list xs | .tup xs=>D.oks xs
 | .str s=>s.all (fun c=>decide (c<55296))
 | _=>true
noncomputable def D.oks:List D→Bool
 | []=>true
 | x::xs=>D.ok x&&D.oks xs
end
mutual
inductive Rd (hp:List MO):MV→D→Prop
 | none:Rd hp .none .none
 | bool (b):Rd hp (.bool b) (.bool b)
 | int (i):Rd hp (.int i) (.int i)
 | str (s):Rd hp (.str s) (.str s)
 | tup {xs ds}:Rds hp xs ds→Rd hp (.tup xs) (.tup ds)
 | list {i xs ds}:hp[i]?=some (.list xs)→Rds hp xs ds→Rd hp (.ref i) (.list ds)
inductive Rds (hp:List MO):List MV→List D→Prop
 | nil:Rds hp [] []
 | cons {x xs d ds}:Rd hp x d→Rds hp xs ds→Rds hp (x::xs) (d::ds)
end
noncomputable def aeq:MV→MV→Option Bool
 | .none,.none=>some true
 | .bool a,.bool b=>some (a==b)
 | .int i,.int j=>some (i==j)
 | .str x,.str y=>some (x==y)
 | .none,.int _ | .none,.str _ | .none,.bool _ | .int _,.none | .int _,.str _ | .str _,.none | .str _,.int _ | .bool _,.none | .str _,.bool _ | .bool _,.str _=>some false
 | _,_=>none
inductive EqP (hp:List MO)(x y:MV)(Q:Bool→Prop):Prop
 | mk (d e:D) (hd:Rd hp x d) (he:Rd hp y e) (hk:d.deep≤1000) (h1:d.ok=true) (h2:e.ok=true) (hq:Q (d.deq e))
 | dicts (hu:DX=true) (i j:Nat) (es:List (List Nat × MV)) (hx:x=.ref i) (hy:y=.ref j) (hi:hp[i]?=some (.dict es)) (hj:hp[j]?=some (.dict es)) (hl:∀e∈es,∃k,e.2=.int k) (hn:(es.map (·.1)).Nodup) (hq:Q true)
 | nil (i j:Nat) (xs:List MV) (hx:x=.ref i) (hy:y=.ref j) (hi:hp[i]?=some (.list xs)) (hj:hp[j]?=some (.list [])) (hq:Q xs.isEmpty)
inductive InP (hp:List MO)(x:MV)(ys:List MV)(Q:Bool→Prop):Prop
 | mk (d:D) (es:List D) (hd:Rd hp x d) (he:Rds hp ys es) (hk:d.deep≤1000) (h1:d.ok=true) (h2:D.oks es=true) (hq:Q (es.any (fun e=>e.deq d)))
noncomputable def bf:List (List Nat × MV)→List Nat→Option MV
 | [],_=>none
 | (k,v)::r,x=>match k==x with
  | true=>some v
  | false=>bf r x
noncomputable def ch:List (List Nat × MV)→List Nat→MV→List (List Nat × MV)
 | [],x,v=>[(x,v)]
 | (k,w)::r,x,v=>match k==x with
  | true=>(k,v)::r
  | false=>(k,w)::ch r x v
noncomputable def D3:List (List Nat × MV)→List Nat→List (List Nat × MV)
 | [],_=>[]
 | (k,w)::r,x=>match k==x with
  | true=>r
  | false=>(k,w)::D3 r x
noncomputable def onS (x:MV)(f:List Nat→Prop):Prop:=match x with
 | .str s=>f s
 | _=>False
theorem nt {x:MV}{f:List Nat→Prop}(h:onS x f):∃s,x=.str s∧f s:=by
 cases x with
 | str s=>exact ⟨s,rfl,h⟩
 | _=>exact h.elim
noncomputable def onL (o:Option (Nat × List MV))(f:Nat→List MV→Prop):Prop:=match o with
 | some (a,b)=>f a b
 | none=>False
noncomputable def on1 (vs:List MV)(f:MV→Prop):Prop:=match vs with
 | [v]=>f v
 | _=>False
noncomputable def onO {α:Type}(o:Option α)(f:α→Prop):Prop:=match o with
 | some a=>f a
 | none=>False
theorem j3 {o:Option (Nat × List MV)}{f:Nat→List MV→Prop}(h:onL o f):∃r xs,o=some (r,xs)∧f r xs:=by
 cases o with
 | none=>exact h.elim
 | some q=>cases q;exact ⟨_,_,rfl,h⟩
theorem j4 {vs:List MV}{f:MV→Prop}(h:on1 vs f):∃v,vs=[v]∧f v:=by
 cases vs with
 | nil=>exact h.elim
 | cons v r=>
  cases r with
  | nil=>exact ⟨v,rfl,h⟩
  | cons=>exact h.elim
theorem b8 {α:Type}{o:Option α}{f:α→Prop}(h:onO o f):∃a,o=some a∧f a:=by
 cases o with
 | none=>exact h.elim
 | some a=>exact ⟨a,rfl,h⟩
noncomputable def onI (x:MV)(f:Int→Prop):Prop:=match x with
 | .int s=>f s
 | _=>False
noncomputable def on2 (vs:List MV)(f:MV→MV→Prop):Prop:=match vs with
 | [v,w]=>f v w
 | _=>False
noncomputable def onD (o:Option (Nat × List (List Nat × MV)))(f:Nat→List (List Nat × MV)→Prop):Prop:=match o with
 | some (a,b)=>f a b
 | none=>False
theorem nu {x:MV}{f:Int→Prop}(h:onI x f):∃s,x=.int s∧f s:=by
 cases x with
 | int s=>exact ⟨s,rfl,h⟩
 | _=>exact h.elim
noncomputable def onN (y:List Nat)(f:Nat→Prop):Prop:=match y with
 | [a]=>f a
 | _=>False
theorem yw {y:List Nat}{f:Nat→Prop}(h:onN y f):∃a,y=[a]∧f a:=by
 cases y with
 | nil=>exact h.elim
 | cons a r=>
  cases r with
  | nil=>exact ⟨a,rfl,h⟩
  | cons=>exact h.elim
noncomputable def onT (b:Bool)(P:Prop):Prop:=match b with
 | true=>P
 | false=>False
theorem hZ {b:Bool}{P:Prop}(h:onT b P):b=true∧P:=by
 cases b with
 | true=>exact ⟨rfl,h⟩
 | false=>exact h.elim
noncomputable def onR (x:MV)(f:Nat→Prop):Prop:=match x with
 | .ref r=>f r
 | _=>False
theorem dI {x:MV}{f:Nat→Prop}(h:onR x f):∃r,x=.ref r∧f r:=by
 cases x with
 | ref r=>exact ⟨r,rfl,h⟩
 | _=>exact h.elim
noncomputable def ie (o:Option MO)(f:List MV→Prop):Prop:=match o with
 | some (.list xs)=>f xs
 | _=>False
theorem bX {o:Option MO}{f:List MV→Prop}(h:ie o f):∃xs,o=some (.list xs)∧f xs:=by
 cases o with
 | none=>exact h.elim
 | some o=>
  cases o with
  | list xs=>exact ⟨xs,rfl,h⟩
  | _=>exact h.elim
noncomputable def ur (o:Option MO)(f:List (List Nat × MV)→Prop):Prop:=match o with
 | some (.dict xs)=>f xs
 | _=>False
theorem ot {o:Option MO}{f:List (List Nat × MV)→Prop}(h:ur o f):∃xs,o=some (.dict xs)∧f xs:=by
 cases o with
 | none=>exact h.elim
 | some o=>
  cases o with
  | dict xs=>exact ⟨xs,rfl,h⟩
  | _=>exact h.elim
noncomputable def pU (o:Option MO)(f:List MV→Prop)(g:List (List Nat × MV)→Prop):Prop:=match o with
 | some (.list xs)=>f xs
 | some (.dict xs)=>g xs
 | _=>False
theorem ig {o:Option MO}{f:List MV→Prop}{g:List (List Nat × MV)→Prop}(h:pU o f g):(∃xs,o=some (.list xs)∧f xs)∨∃xs,o=some (.dict xs)∧g xs:=by
 cases o with
 | none=>exact h.elim
 | some o=>
  cases o with
  | list xs=>exact .inl ⟨xs,rfl,h⟩
  | dict xs=>exact .inr ⟨xs,rfl,h⟩
  | _=>exact h.elim
theorem al {o:Option MO}{f:List MV→Prop}{g:List (List Nat × MV)→Prop}{xs:List MV}(e:o=some (.list xs))(h:f xs):pU o f g:=by rw [e];exact h
theorem je {o:Option MO}{f:List MV→Prop}{g:List (List Nat × MV)→Prop}{xs:List (List Nat × MV)}(e:o=some (.dict xs))(h:g xs):pU o f g:=by rw [e];exact h
noncomputable def D4 (vs:List MV)(f:MV→Prop)(g:MV→MV→Prop):Prop:=match vs with
 | [x]=>f x
 | [x,y]=>g x y
 | _=>False
theorem ut {vs:List MV}{f:MV→Prop}{g:MV→MV→Prop}(h:D4 vs f g):(∃x,vs=[x]∧f x)∨∃x y,vs=[x,y]∧g x y:=by
 rcases vs with _ | ⟨v,_ | ⟨w,_ | ⟨u,r⟩⟩⟩
 ·exact h.elim
 ·exact .inl ⟨v,rfl,h⟩
 ·exact .inr ⟨v,w,rfl,h⟩
 ·exact h.elim
noncomputable def AO (o:Option MO)(x:MV)(Q:Bool→Prop)(hp:List MO):Prop:=pU o (fun ys=>InP hp x ys Q) fun es=>onS x fun s=>Q (bf es s).isSome
noncomputable def cds (es:List (List Nat × Int)):List (List Nat × MV):=es.map fun p=>(p.1,.int p.2)
noncomputable def BD (x c:MV)(Q:Bool→Prop)(hp:List MO):Prop:=
 match c with
 | .tup ys=>InP hp x ys Q
 | .gt ss=>InP hp x (ss.map .str) Q
 | .ref i=>AO hp[i]? x Q hp
 | .cdict es=>onS x fun s=>Q (bf (cds es) s).isSome
 | .str s=>onS x fun y=>onN y fun a=>Q (s.contains a)
 | _=>False
noncomputable def eqB (o:Option Bool)(hp:List MO)(x y:MV)(Q:Bool→Prop):Prop:=match o with
 | some b=>Q b
 | none=>EqP hp x y Q
theorem rg {o:Option Bool}{hp:List MO}{x y:MV}{Q:Bool→Prop}(h:eqB o hp x y Q):(∃b,o=some b∧Q b)∨EqP hp x y Q:=by
 cases o with
 | some b=>exact .inl ⟨b,rfl,h⟩
 | none=>exact .inr h
noncomputable def ij (op:Cmp)(x y:MV)(Q:Bool→MS→Prop)(m:MS):Prop:=
 match op with
 | .eq=>eqB (aeq x y) m.heap x y (fun b=>Q b m)
 | .ne=>eqB (aeq x y) m.heap x y (fun b=>Q (!b) m)
 | .lt=>onI x fun i=>onI y fun j=>Q (decide (i<j)) m
 | .le=>onI x fun i=>onI y fun j=>Q (decide (i≤j)) m
 | .gt=>onI x fun i=>onI y fun j=>Q (decide (j<i)) m
 | .ge=>onI x fun i=>onI y fun j=>Q (decide (j≤i)) m
 | .inn=>BD x y (fun b=>Q b m) m.heap
 | .nin=>BD x y (fun b=>Q (!b) m) m.heap
noncomputable def uu (a b:MV)(Q:PQ)(m:MS):Prop:=match a with
 | .int x=>match b with
  | .int y=>Q (.int (x+y)) m
  | _=>False
 | .str x=>match b with
  | .str y=>x.length+y.length≤line∧Q (.str (x++y)) m
  | _=>False
 | .tup x=>match b with
  | .tup y=>x.length+y.length≤line∧Q (.tup (x++y)) m
  | _=>False
 | .ref i=>match b with
  | .ref j=>ie m.heap[i]? fun x=>ie m.heap[j]? fun y=>x.length+y.length≤line∧Q (.ref m.heap.length) (m.push (.list (x++y)))
  | _=>False
 | _=>False
noncomputable def nv (op:Op)(x y:Int)(Q:PQ)(m:MS):Prop:=match op with
 | .add=>Q (.int (x+y)) m
 | .sub=>Q (.int (x-y)) m
 | .mul=>(dt x∨dt y)∧Q (.int (x * y)) m
 | .fdiv=>onT (decide (0<y∧y<2 ^ 30)) (Q (.int (x / y)) m)
 | .mod=>onT (decide (0<y)) (Q (.int (x % y)) m)
 | .pow=>onT (decide (x=10∧(y=6∨y=9))) (Q (.int (x ^ y.toNat)) m)
noncomputable def kq (op:Op)(a b:MV)(Q:PQ)(m:MS):Prop:=onI a fun x=>onI b fun y=>nv op x y Q m
noncomputable def D5 (a:MV)(k:Int)(Q:PQ)(m:MS):Prop:=match a with
 | .str s=>pR=true∧((0≤k∧k≤1000)∧s.length≤1000)∧Q (.str (List.replicate k.toNat s).flatten) m
 | .ref i=>ie m.heap[i]? fun xs=>on1 xs fun v=>pR=true∧(0≤k∧k≤1000000)∧Q (.ref m.heap.length) (m.push (.list (List.replicate k.toNat v)))
 | _=>False
noncomputable def AP (a b:MV)(Q:PQ)(m:MS):Prop:=match b with
 | .int y=>match a with
  | .int x=>nv .mul x y Q m
  | a=>D5 a y Q m
 | _=>False
noncomputable def uw (op:Op)(a b:MV)(Q:PQ)(m:MS):Prop:=match op with
 | .add=>uu a b Q m
 | .sub=>kq .sub a b Q m
 | .mul=>AP a b Q m
 | .fdiv=>kq .fdiv a b Q m
 | .mod=>kq .mod a b Q m
 | .pow=>kq .pow a b Q m
noncomputable def dG (k:Int)(n:Nat):Option Nat:=
 match decide (0≤k),decide (k<(n:Int)),decide (-(n:Int)≤k) with
 | true,true,_=>some k.toNat
 | false,_,true=>some (k+n).toNat
 | _,_,_=>none
noncomputable def sJ (k:Int)(n:Nat):Nat:=
 match decide (0≤k) with
 | true=>min k.toNat n
 | false=>(k+n).toNat
noncomputable def aJ {α:Type}(xs:List α)(lo hi:Option Int):List α:=
 let a:=match lo with
  | none=>0
  | some k=>sJ k xs.length
 let b:=match hi with
  | none=>xs.length
  | some k=>sJ k xs.length
 (xs.take b).drop a
noncomputable def ci {α:Type}(xs:List α)(k:Int)(f:α→Prop):Prop:=onO (dG k xs.length) fun j=>onO xs[j]? f
theorem az {α:Type}{xs:List α}{k:Int}{f:α→Prop}{j:Nat}{v:α}(h1:dG k xs.length=some j)(h2:xs[j]?=some v)(h:f v):ci xs k f:=by
 unfold ci;rw [h1]
 show onO xs[j]? f
 rw [h2];exact h
noncomputable def AQ (x i:MV)(Q:PQ)(m:MS):Prop:=
 match i with
 | .int k=>match x with
  | .tup xs=>ci xs k fun v=>Q v m
  | .str s=>ci s k fun c=>Q (.str [c]) m
  | .ref r=>ie m.heap[r]? fun xs=>ci xs k fun v=>Q v m
  | .scr xs=>ci xs k fun v=>Q (.int v) m
  | _=>False
 | .str s=>match x with
  | .ref r=>ur m.heap[r]? fun es=>onO (bf es s) fun v=>Q v m
  | .cdict es=>onO (bf (cds es) s) fun v=>Q v m
  | _=>False
 | _=>False
noncomputable def pV:Option MV→Option (Option Int)
 | none=>some none
 | some (.int k)=>some (some k)
 | some _=>none
noncomputable def AR (x:MV)(lo hi:Option Int)(Q:PQ)(m:MS):Prop:=match x with
 | .str s=>Q (.str (aJ s lo hi)) m
 | .tup xs=>onO lo fun k=>(AI=true∧hi=none∧1≤k∧1≤xs.length)∧Q (.tup (xs.drop k.toNat)) m
 | .scr xs=>Q (.ref m.heap.length) (m.push (.list (aJ (xs.map .int) lo hi)))
 | .ref r=>ie m.heap[r]? fun xs=>Q (.ref m.heap.length) (m.push (.list (aJ xs lo hi)))
 | _=>False
noncomputable def D6 (x:MV)(lo hi:Option MV)(Q:PQ)(m:MS):Prop:=onO (pV lo) fun lo=>onO (pV hi) fun hi=>AR x lo hi Q m
noncomputable def slt:List Nat→List Nat→Bool
 | [],[]=>false
 | [],_::_=>true
 | _::_,[]=>false
 | a::x,b::y=>match decide (a<b),a==b with
  | true,_=>true
  | false,true=>slt x y
  | false,false=>false
noncomputable def pW (s:List Nat):List (List Nat)→List (List Nat)
 | []=>[s]
 | t::r=>match slt s t,s==t with
  | true,_=>s::t::r
  | false,true=>t::r
  | false,false=>t::pW s r
noncomputable def aS:List (List Nat)→List (List Nat)
 | []=>[]
 | s::r=>pW s (aS r)
noncomputable def b2i:Bool→Int
 | true=>1
 | false=>0
inductive D7 (xs:List MV)(Q:List (List Nat)→Prop):Prop
 | mk (ss:List (List Nat)) (he:xs=ss.map .str) (hl:(aS ss).length<64) (hz:ss.length<4000) (hq:Q (aS ss))
inductive Fa (xs:List MV)(Q:Int→Prop):Prop
 | mk (is:List Int) (he:xs=is.map .int) (hb:∀i∈is,0≤i∧i≤1000000) (hl:is.length≤1000000) (hq:Q is.sum)
noncomputable def dec (k:Int):List Nat:=(toString k).toList.map Char.toNat
noncomputable def AS (x:MV)(Q:PQ)(m:MS):Prop:=match x with
 | .tup xs=>Q (.int xs.length) m
 | .str xs=>Q (.int xs.length) m
 | .scr xs=>Q (.int xs.length) m
 | .ref r=>pU m.heap[r]? (fun xs=>Q (.int xs.length) m) fun xs=>Q (.int xs.length) m
 | _=>False
noncomputable def ou (x:MV)(Q:PQ)(m:MS):Prop:=match x with
 | .ref r=>pU m.heap[r]? (fun xs=>Q (.ref m.heap.length) (m.push (.list xs))) fun es=>AK=true∧Q (.ref m.heap.length) (m.push (.list (es.map fun p=>.str p.1)))
 | .tup xs=>Q (.ref m.heap.length) (m.push (.list xs))
 | _=>False
inductive ux (xs:List MV)(Q:List (List Nat × MV)→Prop):Prop
 | mk (hu:DY=true) (es:List (List Nat × MV)) (he:xs=es.map fun p=>.tup [.str p.1,p.2]) (hn:(es.map (·.1)).Nodup) (hl:es.length<1000000) (hq:Q es)
inductive pX (xs:List MV)(Q:List Bool→Prop):Prop
 | mk (bs:List Bool) (he:xs=bs.map .bool) (hl:bs.length<1000000) (hq:Q bs)
inductive Fb (xs:List MV)(Q:Int→Prop):Prop
 | mk (hu:yq=true) (is:List Int) (he:xs=is.map .int) (hz:is≠[]) (hl:is.length<1000000) (k:Int) (h1:k∈is) (h2:∀i∈is,k≤i) (hq:Q k)
noncomputable def eI (b:Bi)(x:MV)(Q:PQ)(m:MS):Prop:=match b with
 | .len=>AS x Q m
 | .int=>match x with
  | .bool b=>Q (.int (b2i b)) m
  | .str s=>AM=true∧∃k:Int,s=dec k∧(0≤k∧k<1000000)∧Q (.int k) m
  | _=>False
 | .str=>match x with
  | .str s=>Q (.str s) m
  | .int k=>(-1≤k∧k<1000000)∧Q (.str (dec k)) m
  | _=>False
 | .list=>ou x Q m
 | .tuple=>onR x fun r=>ie m.heap[r]? fun xs=>Q (.tup xs) m
 | .dict=>onR x fun r=>pU m.heap[r]? (fun xs=>ux xs fun es=>Q (.ref m.heap.length) (m.push (.dict es))) fun es=>Q (.ref m.heap.length) (m.push (.dict es))
 | .sum=>onR x fun r=>ie m.heap[r]? fun xs=>Fa xs fun k=>Q (.int k) m
 | .all=>onR x fun r=>ie m.heap[r]? fun xs=>pX xs fun bs=>Q (.bool (bs.all id)) m
 | .listRev=>onR x fun r=>ie m.heap[r]? fun xs=>Q (.ref m.heap.length) (m.push (.list xs.reverse))
 | .sorted=>onR x fun r=>ur m.heap[r]? fun es=>(es.map (·.1)).Nodup∧es.length<64∧Q (.ref m.heap.length) (m.push (.list ((aS (es.map (·.1))).map .str)))
 | .min=>onR x fun r=>ie m.heap[r]? fun xs=>Fb xs fun k=>Q (.int k) m
 | .sortedSet=>onR x fun r=>ie m.heap[r]? fun xs=>D7 xs (fun ss=>Q (.ref m.heap.length) (m.push (.list (ss.map .str))))
 | _=>False
noncomputable def pY (b:Bi)(x y:Int)(Q:PQ)(m:MS):Prop:=match b with
 | .min=>Q (.int (min x y)) m
 | .max=>Q (.int (max x y)) m
 | _=>False
noncomputable def BE (b:Bi)(x y:MV)(Q:PQ)(m:MS):Prop:=onI x fun i=>onI y fun j=>pY b i j Q m
noncomputable def mD (b:Bi)(vs:List MV)(Q:PQ)(m:MS):Prop:=D4 vs (fun x=>eI b x Q m) fun x y=>BE b x y Q m
noncomputable def sK (r:Nat)(o:Option MO):Option (Nat × List MV):=match o with
 | some (.list xs)=>some (r,xs)
 | _=>none
noncomputable def lst (o:MV)(hp:List MO):Option (Nat × List MV):=match o with
 | .ref r=>sK r hp[r]?
 | _=>none
theorem yx {x:MV}{hp:List MO}{r:Nat}{xs:List MV}(h:lst x hp=some (r,xs)):x=.ref r∧hp[r]?=some (.list xs):=by
 cases x with
 | ref i=>
  replace h:sK i hp[i]?=some (r,xs):=h
  cases e:hp[i]? with
  | none=>rw [e] at h;exact aw h
  | some o=>
   rw [e] at h
   cases o with
   | list ys=>cases h;exact ⟨rfl,e⟩
   | _=>exact aw h
 | _=>exact aw h
noncomputable def yy (c:Nat):List (List Nat)→List Nat
 | []=>[]
 | [w]=>w
 | w::r=>w++c::yy c r
noncomputable def D8 (r:Nat)(o:Option MO):Option (Nat × List (List Nat × MV)):=match o with
 | some (.dict xs)=>some (r,xs)
 | _=>none
noncomputable def dct (o:MV)(hp:List MO):Option (Nat × List (List Nat × MV)):=match o with
 | .ref r=>D8 r hp[r]?
 | _=>none
theorem yz {x:MV}{hp:List MO}{r:Nat}{xs:List (List Nat × MV)}(h:dct x hp=some (r,xs)):x=.ref r∧hp[r]?=some (.dict xs):=by
 cases x with
 | ref i=>
  replace h:D8 i hp[i]?=some (r,xs):=h
  cases e:hp[i]? with
  | none=>rw [e] at h;exact aw h
  | some o=>
   rw [e] at h
   cases o with
   | dict ys=>cases h;exact ⟨rfl,e⟩
   | _=>exact aw h
 | _=>exact aw h
noncomputable def rh:MV→Prop
 | .bool true=>True
 | _=>False
noncomputable def cY (k:Me)(o:MV)(vs:List MV)(Q:PQ)(m:MS):Prop:=match k with
 | .append=>onL (lst o m.heap) fun r xs=>on1 vs fun v=>xs.length<line∧Q .none (m.put r (.list (xs++[v])))
 | .extend=>onL (lst o m.heap) fun r xs=>on1 vs fun v=>onL (lst v m.heap) fun _ ys=>xs.length+ys.length≤line∧Q .none (m.put r (.list (xs++ys)))
 | .pop=>Bu=true∧onL (lst o m.heap) fun r xs=>vs=[]∧onO xs[xs.length-1]? fun v=>Q v (m.put r (.list xs.dropLast))
 | .popAt=>onL (lst o m.heap) fun r xs=>on1 vs fun v=>onI v fun k=>(0≤k∧k<xs.length)∧onO xs[k.toNat]? fun v=>Q v (m.put r (.list (xs.eraseIdx k.toNat)))
 | .insert=>onL (lst o m.heap) fun r xs=>on2 vs fun v w=>onI v fun k=>((0≤k∧k≤xs.length)∧xs.length<line)∧Q .none (m.put r (.list (xs.take k.toNat++w::xs.drop k.toNat)))
 | .clear=>onL (lst o m.heap) fun r _=>vs=[]∧Q .none (m.put r (.list []))
 | .count=>jc=true∧onL (lst o m.heap) fun _ xs=>on1 vs fun v=>rh v∧pX xs fun bs=>Q (.int (bs.count true)) m
 | .index=>onL (lst o m.heap) fun _ xs=>on1 vs fun v=>rh v∧pX xs fun bs=>true∈bs∧Q (.int (bs.idxOf true)) m
 | .dpop=>jc=true∧onD (dct o m.heap) fun r es=>on1 vs fun v=>onS v fun s=>onO (bf es s) fun w=>Q w (m.put r (.dict (D3 es s)))
 | .dclear=>jc=true∧onD (dct o m.heap) fun r _=>vs=[]∧Q .none (m.put r (.dict []))
 | .get=>un=true∧onD (dct o m.heap) fun _ es=>on2 vs fun v d=>onS v fun s=>Q ((bf es s).getD d) m
 | .join=>hY=true∧onS o fun s=>on1 vs fun v=>onL (lst v m.heap) fun _ xs=>∃c ws,(s=[c]∧xs=ws.map .str)∧(yy c ws).length≤1000000∧Q (.str (yy c ws)) m
 | .find=>on1 vs fun v=>onS v fun _=>∀k:Int,-1≤k→Q (.int k) m
 | .split=>hY=true∧onS o fun s=>on1 vs fun v=>onS v fun y=>∃c,y=[c]∧s.length<1000000∧∀ws:List (List Nat),ws≠[]→(∀w∈ws,c∉w)→yy c ws=s→Q (.ref m.heap.length) (m.push (.list (ws.map .str)))
set_option genCtorIdx false in
inductive MK where
 | list | dict | str (u:Unit:=())
gen_injective_theorems% MK
noncomputable def meK:Me→MK
 | .dpop=>.dict
 | .dclear=>.dict
 | .get=>.dict
 | .join=>.str
 | .find=>.str
 | .split=>.str
 | _=>.list
noncomputable def uy:MV→Bool
 | .str _=>true
 | _=>false
theorem pZ {x:MV}(h:uy x=true):∃y,x=.str y:=by
 cases x with
 | str y=>exact ⟨y,rfl⟩
 | _=>exact ff h
noncomputable def mE (k:Me)(x:MV)(hp:List MO):Bool:=match meK k with
 | .list=>(lst x hp).isSome
 | .dict=>(dct x hp).isSome
 | .str=>uy x
set_option genCtorIdx false in
inductive Kd where
 | none | bool | int | str | tuple | list | dict | exc (c:Nat)
gen_injective_theorems% Kd
noncomputable def nob:TS→Option Bool
 | .cls _=>Option.none
 | .valueError=>Option.none
 | _=>some false
noncomputable def sL (k:Kd)(t:TS):Option Bool:=match k with
 | .none=>nob t
 | .bool=>match t with
  | .bool=>some true
  | .int=>some true
  | t=>nob t
 | .int=>match t with
  | .int=>some true
  | t=>nob t
 | .str=>match t with
  | .str=>some true
  | t=>nob t
 | .tuple=>match t with
  | .tuple=>some true
  | t=>nob t
 | .list=>match t with
  | .list=>some true
  | t=>nob t
 | .dict=>match t with
  | .dict=>some true
  | t=>nob t
 | .exc c=>match t with
  | .cls d=>some (c==d||d==0)
  | .valueError=>some true
  | _=>Option.none
noncomputable def kdO:Option MO→Option Kd
 | some (.list _)=>some .list
 | some (.dict _)=>some .dict
 | some (.exc c)=>some (.exc c)
 | _=>none
noncomputable def uz (hp:List MO):MV→Option Kd
 | .none=>some .none
 | .bool _=>some .bool
 | .int _=>some .int
 | .str _=>some .str
 | .tup _=>some .tuple
 | .ref r=>kdO hp[r]?
 | _=>none
noncomputable def kdT (o:Option Kd)(t:TS):Option Bool:=match o with
 | some k=>sL k t
 | none=>none
theorem j5 {o:Option Kd}{t:TS}{b:Bool}(h:kdT o t=some b):∃k,o=some k∧sL k t=some b:=by
 cases o with
 | none=>exact aw h
 | some k=>exact ⟨k,rfl,h⟩
noncomputable def tyO (o:Option MO)(t:TS):Option Bool:=kdT (kdO o) t
noncomputable def jU (hp:List MO)(x:MV)(t:TS):Option Bool:=kdT (uz hp x) t
noncomputable abbrev Gd:=Option (Nat × MO)
noncomputable abbrev Its:=Option (List MV × Gd)
noncomputable def AU (hp:List MO)(x:MV):Its:=match x with
 | .ref r=>match hp[r]? with
  | some (.list xs)=>some (xs,some (r,.list xs))
  | _=>none
 | .tup xs=>some (xs,none)
 | .str s=>match s.all (fun c=>decide (c<128)) with
  | true=>some (s.map (fun c=>.str [c]),none)
  | false=>none
 | _=>none
noncomputable def BF (x:MV):Its:=match x with
 | .int n=>match decide (-16777216≤n∧n≤16777216) with
  | true=>some ((List.range n.toNat).map (fun (i:Nat)=>.int i),none)
  | false=>none
 | _=>none
noncomputable def Fc (x y:MV):Its:=match x with
 | .int a=>match y with
  | .int b=>match decide ((0≤a∧a≤16777216)∧0≤b∧b≤16777216) with
   | true=>some ((List.range (b-a).toNat).map (fun (i:Nat)=>.int (a+i)),none)
   | false=>none
  | _=>none
 | _=>none
noncomputable def p8 (hp:List MO)(x:MV):Its:=match x with
 | .ref r=>match hp[r]? with
  | some (.list xs)=>some (xs.zipIdx.map (fun p=>.tup [.int p.2,p.1]),some (r,.list xs))
  | _=>none
 | _=>none
noncomputable def BG (hp:List MO)(x:MV):Its:=match x with
 | .ref r=>match hp[r]? with
  | some (.dict es)=>match D0 with
   | true=>some (es.map (fun p=>.str p.1),some (r,.dict es))
   | false=>none
  | _=>none
 | _=>none
noncomputable def BH (x y:MV):Its:=match DZ with
 | true=>Fc x y
 | false=>none
noncomputable def cj (k:IK)(vs:List MV)(hp:List MO):Its:=
 match vs with
 | [x]=>match k with
  | .val=>AU hp x
  | .range1=>BF x
  | .enum=>p8 hp x
  | .keys=>BG hp x
  | .range2=>none
 | [x,y]=>match k with
  | .range2=>BH x y
  | _=>none
 | _=>none
noncomputable def uN (o:Its)(f:List MV→Gd→Prop):Prop:=match o with
 | some (a,b)=>f a b
 | none=>False
theorem ow {o:Its}{f:List MV→Gd→Prop}(h:uN o f):∃items g,o=some (items,g)∧f items g:=by
 cases o with
 | none=>exact h.elim
 | some q=>cases q;exact ⟨_,_,rfl,h⟩
theorem aG {o:Its}{f:List MV→Gd→Prop}{items:List MV}{g:Gd}(e:o=some (items,g))(h:f items g):uN o f:=by rw [e];exact h
theorem ay {b:Bool}{P:Prop}(e:b=true)(h:P):onT b P:=by rw [e];exact h
theorem aY {o:Option (Nat × List MV)}{f:Nat→List MV→Prop}{r:Nat}{xs:List MV}(e:o=some (r,xs))(h:f r xs):onL o f:=by rw [e];exact h
theorem af {o:Option MO}{f:List MV→Prop}{xs:List MV}(e:o=some (.list xs))(h:f xs):ie o f:=by rw [e];exact h
theorem dc {o:Option MO}{f:List (List Nat × MV)→Prop}{xs:List (List Nat × MV)}(e:o=some (.dict xs))(h:f xs):ur o f:=by rw [e];exact h
theorem cJ {α:Type}{o:Option α}{f:α→Prop}{a:α}(e:o=some a)(h:f a):onO o f:=by rw [e];exact h
noncomputable def aQ (g:Gd)(hp:List MO):Prop:=match g with
 | none=>True
 | some (r,o)=>hp[r]?=some o
noncomputable def nw (t:List Nat)(xs:List MV)(m:MS):MS:=match t,xs with
 | i::t,x::xs=>nw t xs (m.set i x)
 | _,_=>m
noncomputable def asg (t:List Nat)(many:Bool)(v:MV)(Q:MS→Prop)(m:MS):Prop:=
 match many,t,v with
 | false,[i],v=>Q (m.set i v)
 | true,t,.tup xs=>t.length=xs.length∧Q (nw t xs m)
 | _,_,_=>False
noncomputable def uO (g:Gd)(step:MV→(Fl→MS→Prop)→MS→Prop)(Q:Fl→MS→Prop):List MV→MS→Prop
 | [],m=>aQ g m.heap∧Q .next m
 | v::vs,m=>aQ g m.heap∧step v (fun f m=>match f with
  | .next=>uO g step Q vs m
  | .cont=>uO g step Q vs m
  | .brk=>Q .next m
  | .ret r=>Q (.ret r) m) m
@[irreducible] noncomputable def dY (g:Gd) (step:MV→(Fl→MS→Prop)→MS→Prop) (Q:Fl→MS→Prop):List MV→MS→Prop:=uO g step Q
noncomputable def p9 (g:Gd)(step:MV→(Option MV→MS→Prop)→MS→Prop)(Q:List MV→MS→Prop):List MV→List MV→MS→Prop
 | [],acc,m=>aQ g m.heap∧Q acc m
 | v::vs,acc,m=>aQ g m.heap∧step v (fun r m=>match r with
  | some x=>p9 g step Q vs (acc++[x]) m
  | none=>p9 g step Q vs acc m) m
@[irreducible] noncomputable def co (g:Gd) (step:MV→(Option MV→MS→Prop)→MS→Prop) (Q:List MV→MS→Prop):List MV→List MV→MS→Prop:=p9 g step Q
noncomputable def nz (c:(Bool→MS→Prop)→MS→Prop)(b:(Fl→MS→Prop)→MS→Prop)(Q:Fl→MS→Prop):Nat→MS→Prop
 | 0,_=>False
 | k+1,m=>c (fun t m=>match t with
  | true=>b (fun f m=>match f with
   | .next=>nz c b Q k m
   | .cont=>nz c b Q k m
   | .brk=>Q .next m
   | .ret r=>Q (.ret r) m) m
  | false=>Q .next m) m
@[irreducible] noncomputable def du (c:(Bool→MS→Prop)→MS→Prop) (b:(Fl→MS→Prop)→MS→Prop) (Q:Fl→MS→Prop):Nat→MS→Prop:=nz c b Q
theorem oy {g:Gd}{step:MV→(Fl→MS→Prop)→MS→Prop}{Q:Fl→MS→Prop}{m:MS}:dY g step Q [] m=(aQ g m.heap∧Q .next m):=by unfold dY;rfl
theorem mF {g:Gd}{step:MV→(Fl→MS→Prop)→MS→Prop}{Q:Fl→MS→Prop}{v:MV}{vs:List MV}{m:MS}:dY g step Q (v::vs) m=(aQ g m.heap∧step v (fun f m=>match f with
  | .next=>dY g step Q vs m
  | .cont=>dY g step Q vs m
  | .brk=>Q .next m
  | .ret r=>Q (.ret r) m) m):=by unfold dY;rfl
theorem jf {g:Gd}{step:MV→(Option MV→MS→Prop)→MS→Prop}{Q:List MV→MS→Prop}{acc:List MV}{m:MS}:co g step Q [] acc m=(aQ g m.heap∧Q acc m):=by unfold co;rfl
theorem eJ {g:Gd}{step:MV→(Option MV→MS→Prop)→MS→Prop}{Q:List MV→MS→Prop}{v:MV}{vs acc:List MV}{m:MS}:co g step Q (v::vs) acc m=(aQ g m.heap∧step v (fun r m=>match r with
  | some x=>co g step Q vs (acc++[x]) m
  | none=>co g step Q vs acc m) m):=by unfold co;rfl
theorem oB {c:(Bool→MS→Prop)→MS→Prop}{b:(Fl→MS→Prop)→MS→Prop}{Q:Fl→MS→Prop}{m:MS}:du c b Q 0 m=False:=by unfold du;rfl
theorem jy {c:(Bool→MS→Prop)→MS→Prop}{b:(Fl→MS→Prop)→MS→Prop}{Q:Fl→MS→Prop}{k:Nat}{m:MS}:du c b Q (k+1) m=c (fun t m=>match t with
  | true=>b (fun f m=>match f with
   | .next=>du c b Q k m
   | .cont=>du c b Q k m
   | .brk=>Q .next m
   | .ret r=>Q (.ret r) m) m
  | false=>Q .next m) m:=by unfold du;rfl
noncomputable def noX:XM:=fun _ _=>False
noncomputable def yA (o:Option MO)(f:List (List Nat × MV)→Prop):Prop:=match o with
 | some (.attrs es)=>f es
 | _=>False
theorem oC {o:Option MO}{f:List (List Nat × MV)→Prop}(h:yA o f):∃es,o=some (.attrs es)∧f es:=by
 cases o with
 | none=>exact h.elim
 | some o=>
  cases o with
  | attrs es=>exact ⟨es,rfl,h⟩
  | _=>exact h.elim
noncomputable def BI (c:Nat)(v:MV)(f:Nat→Prop):Prop:=match v with
 | .inst d i=>onT (d==c) (f i)
 | _=>False
theorem oD {c:Nat}{v:MV}{f:Nat→Prop}(h:BI c v f):∃i,v=.inst c i∧f i:=by
 cases v with
 | inst d i=>
  replace h:onT (d==c) (f i):=h
  cases e:d==c with
  | true=>rw [e] at h;exact ⟨i,by rw [eq_of_beq e],h⟩
  | false=>rw [e] at h;exact h.elim
 | _=>exact h.elim
theorem dJ {o:Option MO}{f:List (List Nat × MV)→Prop}{es:List (List Nat × MV)}(e:o=some (.attrs es))(h:f es):yA o f:=by rw [e];exact h
noncomputable def uP (c:Nat)(x:List Nat)(v:MV)(Q:PQ)(m:MS):Prop:=BI c v fun i=>yA m.heap[i]? fun es=>onO (bf es x) fun v=>Q v m
noncomputable def sM (c:Nat)(x:List Nat)(y v:MV)(Q:MS→Prop)(m:MS):Prop:=BI c y fun i=>yA m.heap[i]? fun es=>es.length<1000∧Q (m.put i (.attrs (ch es x v)))
noncomputable def oE (x y v:MV)(Q:MS→Prop)(m:MS):Prop:=match y with
 | .str s=>onR x fun r=>ur m.heap[r]? fun es=>es.length<line∧Q (m.put r (.dict (ch es s v)))
 | .int k=>onR x fun r=>ie m.heap[r]? fun xs=>onO (dG k xs.length) fun j=>(AJ=true∧0≤k)∧Q (m.put r (.list (xs.set j v)))
 | _=>False
noncomputable def yB (c:Nat)(x:List Nat)(v:MV)(hp:List MO):Bool:=match v with
 | .inst d i=>match hp[i]? with
  | some (.attrs es)=>c==d&&(bf es x).isNone
  | _=>false
 | _=>false
noncomputable def qa (v:MV)(P:Prop):Prop:=match v with
 | .none=>P
 | _=>False
noncomputable def uQ (p:Bool)(x:MV):Bool:=match x with
 | .none=>p
 | _=>!p
noncomputable def cp (Q:Bool→MS→Prop):PQ:=fun v m=>match v with
 | .bool b=>Q b m
 | _=>False
noncomputable def D9 (ts:List TS)(hp:List MO)(x:MV)(f:Bool→Prop):Prop:=match ts with
 | [t]=>onO (jU hp x t) f
 | [t,u]=>onO (jU hp x t) fun b=>onO (jU hp x u) fun c=>f (b||c)
 | _=>False
mutual
noncomputable def wpE (K:KT)(n:Nat):ME→PQ→XM→MS→Prop
 | .cst v,Q,_,m=>Q v m
 | .glob _ v,Q,_,m=>Q v m
 | .var i,Q,_,m=>match m.get i with
  | some v=>Q v m
  | none=>False
 | .bin op a b,Q,X,m=>wpE K n a (fun x m=>wpE K n b (fun y m=>uw op x y Q m) X m) X m
 | .neg a,Q,X,m=>wpE K n a (fun x m=>onI x fun i=>Q (.int (-i)) m) X m
 | .not a,Q,X,m=>wpE K n a (cp fun b m=>Q (.bool (!b)) m) X m
 | .and es,Q,X,m=>oG K n es Q X m
 | .or es,Q,X,m=>yC K n es Q X m
 | .cmp op a b,Q,X,m=>wpE K n a (fun x m=>wpE K n b (fun y m=>ij op x y (fun b m=>Q (.bool b) m) m) X m) X m
 | .cmp2 op op' a b c,Q,X,m=>wpE K n a (fun x m=>wpE K n b (fun y m=>ij op x y (fun t m=>match t with
  | true=>wpE K n c (fun z m=>ij op' y z (fun b m=>Q (.bool b) m) m) X m
  | false=>Q (.bool false) m) m) X m) X m
 | .isN p a,Q,X,m=>wpE K n a (fun x m=>Q (.bool (uQ p x)) m) X m
 | .call f args,Q,X,m=>gJ K n args (fun vs m=>K n f vs (fun v h=>Q v ⟨m.vars,h⟩) (fun c h=>X c ⟨m.vars,h⟩) m.heap) X m
 | .blt b args,Q,X,m=>gJ K n args (fun vs m=>mD b vs Q m) X m
 | .mth k o args,Q,X,m=>wpE K n o (fun x m=>onT (mE k x m.heap) (gJ K n args (fun vs m=>cY k x vs Q m) X m)) X m
 | .umth c f x o args,Q,X,m=>wpE K n o (fun v m=>onT (yB c x v m.heap) (gJ K n args (fun vs m=>K n f (v::vs) (fun v h=>Q v ⟨m.vars,h⟩) (fun c h=>X c ⟨m.vars,h⟩) m.heap) X m)) X m
 | .new c f args,Q,X,m=>gJ K n args (fun vs m=>match n with
  | 0=>False
  | k+1=>K k f (.inst c m.heap.length::vs) (fun v h=>qa v (Q (.inst c m.heap.length) ⟨m.vars,h⟩)) (fun c h=>X c ⟨m.vars,h⟩) (m.heap++[.attrs []])) X m
 | .attr c o x,Q,X,m=>wpE K n o (fun v m=>uP c x v Q m) X m
 | .idx o i,Q,X,m=>wpE K n o (fun x m=>wpE K n i (fun y m=>AQ x y Q m) X m) X m
 | .sl o lo hi,Q,X,m=>wpE K n o (fun x m=>wpO K n lo (fun l m=>wpO K n hi (fun h m=>D6 x l h Q m) X m) X m) X m
 | .list es,Q,X,m=>gJ K n es (fun vs m=>Q (.ref m.heap.length) (m.push (.list vs))) X m
 | .tup es,Q,X,m=>gJ K n es (fun vs m=>Q (.tup vs) m) X m
 | .dict0,Q,_,m=>Q (.ref m.heap.length) (m.push (.dict []))
 | .comp elt t many k src ifs,Q,X,m=>gJ K n src (fun vs m=>uN (cj k vs m.heap) fun items g=>co g (fun v P m=>asg t many v (fun m=>kr K n ifs (fun b m=>match b with
    | true=>wpE K n elt (fun x m=>P (some x) m) noX m
    | false=>P none m) noX m) m) (fun acc m'=>Q (.ref m'.heap.length) ⟨m.vars,m'.heap++[.list acc]⟩) items [] m) X m
 | .isi a ts,Q,X,m=>wpE K n a (fun x m=>D9 ts m.heap x fun b=>Q (.bool b) m) X m
noncomputable def gJ (K:KT)(n:Nat):List ME→(List MV→MS→Prop)→XM→MS→Prop
 | [],Q,_,m=>Q [] m
 | e::r,Q,X,m=>wpE K n e (fun v m=>gJ K n r (fun vs m=>Q (v::vs) m) X m) X m
noncomputable def wpO (K:KT)(n:Nat):Option ME→(Option MV→MS→Prop)→XM→MS→Prop
 | none,Q,_,m=>Q none m
 | some e,Q,X,m=>wpE K n e (fun v m=>Q (some v) m) X m
noncomputable def oG (K:KT)(n:Nat):List ME→PQ→XM→MS→Prop
 | [],_,_,_=>False
 | [e],Q,X,m=>wpE K n e Q X m
 | e::r,Q,X,m=>wpE K n e (cp fun b m=>match b with
  | true=>oG K n r Q X m
  | false=>Q (.bool false) m) X m
noncomputable def yC (K:KT)(n:Nat):List ME→PQ→XM→MS→Prop
 | [],_,_,_=>False
 | [e],Q,X,m=>wpE K n e Q X m
 | e::r,Q,X,m=>wpE K n e (cp fun b m=>match b with
  | true=>Q (.bool true) m
  | false=>yC K n r Q X m) X m
noncomputable def kr (K:KT)(n:Nat):List ME→(Bool→MS→Prop)→XM→MS→Prop
 | [],Q,_,m=>Q true m
 | e::r,Q,X,m=>wpE K n e (cp fun b m=>match b with
  | true=>kr K n r Q X m
  | false=>Q false m) X m
end
mutual
noncomputable def wpS (K:KT)(n:Nat):MSt→(Fl→MS→Prop)→XM→MS→Prop
 | .asg t many e,Q,X,m=>wpE K n e (fun v m=>asg t many v (fun m=>Q .next m) m) X m
 | .setAttr c o x e,Q,X,m=>wpE K n e (fun v m=>wpE K n o (fun y m=>sM c x y v (Q .next) m) X m) X m
 | .setIdx o i e,Q,X,m=>wpE K n e (fun v m=>wpE K n o (fun x m=>wpE K n i (fun y m=>oE x y v (Q .next) m) X m) X m) X m
 | .expr e,Q,X,m=>wpE K n e (fun _ m=>Q .next m) X m
 | .ite c a b,Q,X,m=>wpE K n c (cp fun t m=>match t with
  | true=>ax K n a Q X m
  | false=>ax K n b Q X m) X m
 | .for_ t many k src body,Q,X,m=>gJ K n src (fun vs m=>uN (cj k vs m.heap) fun items g=>dY g (fun v P m=>asg t many v (fun m=>ax K n body P X m) m) Q items m) X m
 | .while_ c body,Q,X,m=>∃k,du (fun P m=>wpE K n c (cp P) X m) (fun P m=>ax K n body P X m) Q k m
 | .ret e,Q,X,m=>wpE K n e (fun v m=>Q (.ret v) m) X m
 | .cont,Q,_,m=>Q .cont m
 | .raise c,_,X,m=>yp=true∧X c m
 | .try_ body _ v h,Q,X,m=>yp=true∧ax K n body Q (fun c m=>ax K n h (fun f m=>Q f (m.unset v)) noX ((m.push (.exc c)).set v (.ref m.heap.length))) m
noncomputable def ax (K:KT)(n:Nat):List MSt→(Fl→MS→Prop)→XM→MS→Prop
 | [],Q,_,m=>Q .next m
 | s::r,Q,X,m=>wpS K n s (fun f m=>match f with
  | .next=>ax K n r Q X m
  | f=>Q f m) X m
end
noncomputable def fin (Q:MV→List MO→Prop):Fl→MS→Prop:=fun f m=>match f with
 | .ret v=>Q v m.heap
 | .next=>Q .none m.heap
 | _=>False
set_option genCtorIdx false in
structure Fn where
 args:Nat
 slots:Nat
 body:List MSt
noncomputable def cZ (d:Fn)(vs:List MV)(h:List MO):MS:=⟨vs.map some++List.replicate (d.slots-d.args) none,h⟩
noncomputable def aK (P:Nat→Option Fn)(K:KT):Prop:=
 ∀n f vs Q X h d,P f=some d→vs.length=d.args→ax K n d.body (fin Q) (fun c m=>X c m.heap) (cZ d vs h)→K (n+1) f vs Q X h
end Internal
end
section
namespace Internal
noncomputable def Ea:Bool:=true
end Internal
end
section
namespace Internal
open PySem PyProof.Rows
noncomputable abbrev mj (items:List Value) (n:Nat):Obj:={ cls:=.type "tuple",dict:=none,data:=.seq items.toArray n,slots:=#[] }
noncomputable abbrev cF (items:List Value) (n:Nat):Obj:={ cls:=.type "list",dict:=none,data:=.seq items.toArray n,slots:=#[] }
noncomputable abbrev FF (es:List DictEntry) (n:Nat):Obj:={ cls:=.type "dict",dict:=none,data:=.dict es.toArray n,slots:=#[] }
noncomputable abbrev jz (C:Addr) (d:Addr):Obj:={ cls:=.ref C,dict:=some d,data:=.plain,slots:=#[] }
set_option genCtorIdx false in
structure Glo where
 prog:Program
 w:World
 base:Heap
 fa:Nat→Option Addr
 ca:Nat→Option Addr
 xa:Nat→Option Addr
 cm:Nat→Str→Option Value
 hf:Nat→Bool
noncomputable def BJ:Value→Bool
 | .type T=>T=="tuple"
 | _=>false
noncomputable def BK:Value→Bool
 | .ref _=>true
 | _=>false
noncomputable def gZ (c:Value):Data→Bool
 | .seq _ _=>BJ c
 | .plain=>BK c
 | _=>false
noncomputable def gM (o:Obj):Prop:=gZ o.cls o.data=true
noncomputable def aZ (h h':Heap):Prop:=∀a o,h.get? a=some o→gM o→h'.get? a=some o
inductive CK:List (List Nat × Int)→List (Str × Value)→Prop
 | nil:CK [] []
 | cons {k i t es ds}:k.length≤line→CK es ds→CK ((k,i)::es) ((str k,.int i t)::ds)
noncomputable def IsD (o:Obj):Prop:=∃es n,o.data=.dict es n
mutual
inductive Rep (C:Glo)(ρ:List Addr)(h:Heap):MV→Value→Prop
 | none:Rep C ρ h .none .none
 | bool (b):Rep C ρ h (.bool b) (.bool b)
 | int (i t):Rep C ρ h (.int i) (.int i t)
 | str (s t):s.length≤line→Rep C ρ h (.str s) (.str (str s) t)
 | tup {a n xs items}:h.get? a=some (mj items n)→aD C ρ h xs items→xs.length≤line→Rep C ρ h (.tup xs) (.ref a)
 | ref {i a}:ρ[i]?=some a→Rep C ρ h (.ref i) (.ref a)
 | scr {is a items n}:C.base.get? a=some (cF items n)→IntsAre items is→is.length≤line→Rep C ρ h (.scr is) (.ref a)
 | gt {ss a o items n}:C.base.get? a=some o→o.cls=.type "tuple"→o.data=.seq items.toArray n→aD C ρ h (ss.map .str) items→Rep C ρ h (.gt ss) (.ref a)
 | inst {c i a k d}:C.ca c=some k→ρ[i]?=some d→h.get? a=some (jz k d)→Rep C ρ h (.inst c i) (.ref a)
 | cdict {es a kvs}:(a==sysModules)=false→C.base.DictOf (strKind C.prog C.w) a kvs→CK es kvs→Rep C ρ h (.cdict es) (.ref a)
inductive aD (C:Glo)(ρ:List Addr)(h:Heap):List MV→List Value→Prop
 | nil:aD C ρ h [] []
 | cons {x v xs vs}:Rep C ρ h x v→aD C ρ h xs vs→aD C ρ h (x::xs) (v::vs)
end
inductive Fd (C:Glo)(ρ:List Addr)(h:Heap)(xs:List MV)(v:Value):Prop
 | mk (a:Addr) (n:Nat) (items:List Value) (e:v=.ref a) (g:h.get? a=some (mj items n)) (l:aD C ρ h xs items) (z:xs.length≤line)
inductive Fe (C:Glo)(is:List Int)(v:Value):Prop
 | mk (a:Addr) (items:List Value) (n:Nat) (e:v=.ref a) (g:C.base.get? a=some (cF items n)) (l:IntsAre items is) (z:is.length≤line)
inductive RGt (C:Glo)(ρ:List Addr)(h:Heap)(ss:List (List Nat))(v:Value):Prop
 | mk (a:Addr) (o:Obj) (items:List Value) (n:Nat) (e:v=.ref a) (g:C.base.get? a=some o) (g1:o.cls=.type "tuple") (g2:o.data=.seq items.toArray n) (l:aD C ρ h (ss.map .str) items)
inductive Eb (C:Glo)(ρ:List Addr)(h:Heap)(c i:Nat)(v:Value):Prop
 | mk (a k d:Addr) (e:v=.ref a) (h1:C.ca c=some k) (h2:ρ[i]?=some d) (h3:h.get? a=some (jz k d))
inductive RCd (C:Glo)(es:List (List Nat × Int))(v:Value):Prop
 | mk (a:Addr) (kvs:List (Str × Value)) (e:v=.ref a) (hs:(a==sysModules)=false) (dk:C.base.DictOf (strKind C.prog C.w) a kvs) (ck:CK es kvs)
inductive Ff (s:List Nat)(v:Value):Prop
 | mk (t:Tok) (e:v=.str (str s) t) (z:s.length≤line)
inductive Fg (ρ:List Addr)(i:Nat)(v:Value):Prop
 | mk (a:Addr) (e:v=.ref a) (g:ρ[i]?=some a)
inductive Ec (C:Glo)(ρ:List Addr)(h:Heap)(x:MV)(r:List MV)(vs:List Value):Prop
 | mk (v:Value) (ws:List Value) (e:vs=v::ws) (a:Rep C ρ h x v) (b:aD C ρ h r ws)
noncomputable def Ed (C:Glo)(ρ:List Addr)(h:Heap)(x:MV)(v:Value):Prop:=match x with
 | .none=>v=.none
 | .bool b=>v=.bool b
 | .int i=>∃t,v=.int i t
 | .str s=>Ff s v
 | .tup xs=>Fd C ρ h xs v
 | .ref i=>Fg ρ i v
 | .scr is=>Fe C is v
 | .gt ss=>RGt C ρ h ss v
 | .inst c i=>Eb C ρ h c i v
 | .cdict es=>RCd C es v
noncomputable def AV (C:Glo)(ρ:List Addr)(h:Heap)(xs:List MV)(vs:List Value):Prop:=match xs with
 | []=>vs=[]
 | x::r=>Ec C ρ h x r vs
theorem Rep.inv {C:Glo}{ρ:List Addr}{h:Heap}{x:MV}{v:Value}(r:Rep C ρ h x v):Ed C ρ h x v:=
 Rep.casesOn (motive_1:=fun x v _=>Ed C ρ h x v) r rfl (fun _=>rfl) (fun _ t=>⟨t,rfl⟩) (fun _ t z=>⟨t,rfl,z⟩) (fun g l z=>⟨_,_,_,rfl,g,l,z⟩) (fun e=>⟨_,rfl,e⟩) (fun g l z=>⟨_,_,_,rfl,g,l,z⟩) (fun g g1 g2 l=>⟨_,_,_,_,rfl,g,g1,g2,l⟩) (fun h1 h2 h3=>⟨_,_,_,rfl,h1,h2,h3⟩) (fun s d c=>⟨_,_,rfl,s,d,c⟩)
theorem aD.inv {C:Glo}{ρ:List Addr}{h:Heap}{xs:List MV}{vs:List Value}(r:aD C ρ h xs vs):AV C ρ h xs vs:=
 aD.casesOn (motive_2:=fun xs vs _=>AV C ρ h xs vs) r rfl (fun a b=>⟨_,_,rfl,a,b⟩)
theorem aD.one {C:Glo}{ρ:List Addr}{h:Heap}{x:MV}{vs:List Value}(r:aD C ρ h [x] vs):∃v,vs=[v]∧Rep C ρ h x v:=by
 obtain ⟨v,ws,rfl,a,b⟩:=r.inv
 obtain rfl:=b.inv
 exact ⟨v,rfl,a⟩
theorem aD.two {C:Glo}{ρ:List Addr}{h:Heap}{x y:MV}{vs:List Value}(r:aD C ρ h [x,y] vs):∃v w,vs=[v,w]∧Rep C ρ h x v∧Rep C ρ h y w:=by
 obtain ⟨v,ws,rfl,a,b⟩:=r.inv
 obtain ⟨w,rfl,c⟩:=b.one
 exact ⟨v,w,rfl,a,c⟩
theorem f7 {items:List Value}{n:Nat}:gM (mj items n):=rfl
theorem kt {C d:Addr}:gM (jz C d):=rfl
theorem f9 {ρ ρ':List Addr}(hp:ρ<+:ρ'){i:Nat}{a:Addr}(h:ρ[i]?=some a):ρ'[i]?=some a:=by
 obtain ⟨t,rfl⟩:=hp
 rw [List.getElem?_append_left (List.getElem?_eq_some_iff.mp h).1];exact h
section
variable {C:Glo}{ρ ρ':List Addr}{h h':Heap}
theorem Rep.up (hs:aZ h h')(hp:ρ<+:ρ'){x:MV}{v:Value}(r:Rep C ρ h x v):Rep C ρ' h' x v:=
 Rep.rec (motive_1:=fun x v _=>Rep C ρ' h' x v) (motive_2:=fun x v _=>aD C ρ' h' x v) .none (fun b=>.bool b) (fun i t=>.int i t) (fun s t z=>.str s t z) (fun e _ z l=>.tup (hs _ _ e f7) l z) (fun e=>.ref (f9 hp e)) (fun e l z=>.scr e l z) (fun e1 e2 e3 _ l=>.gt e1 e2 e3 l) (fun e1 e2 e3=>.inst e1 (f9 hp e2) (hs _ _ e3 kt)) (fun q e l=>.cdict q e l) .nil (fun _ _ a b=>.cons a b) r
theorem aD.up (hs:aZ h h')(hp:ρ<+:ρ'){x:List MV}{v:List Value}(r:aD C ρ h x v):aD C ρ' h' x v:=
 aD.rec (motive_1:=fun x v _=>Rep C ρ' h' x v) (motive_2:=fun x v _=>aD C ρ' h' x v) .none (fun b=>.bool b) (fun i t=>.int i t) (fun s t z=>.str s t z) (fun e _ z l=>.tup (hs _ _ e f7) l z) (fun e=>.ref (f9 hp e)) (fun e l z=>.scr e l z) (fun e1 e2 e3 _ l=>.gt e1 e2 e3 l) (fun e1 e2 e3=>.inst e1 (f9 hp e2) (hs _ _ e3 kt)) (fun q e l=>.cdict q e l) .nil (fun _ _ a b=>.cons a b) r
theorem ku {is:List Int}{items:List Value}(r:IntsAre items is):aD C ρ h (is.map .int) items:=by
 induction r with
 | nil=>exact .nil
 | cons n t r ih=>exact .cons (.int n t) ih
theorem aD.length {xs:List MV}{vs:List Value}(r:aD C ρ h xs vs):vs.length=xs.length:=by
 induction xs generalizing vs with
 | nil=>rw [r.inv];rfl
 | cons x xs ih=>
  obtain ⟨v,ws,rfl,a,b⟩:=r.inv
  exact congrArg (·+1) (ih b)
theorem aD.get {xs:List MV}{vs:List Value}(r:aD C ρ h xs vs){i:Nat}{x:MV}(e:xs[i]?=some x):∃v,vs[i]?=some v∧Rep C ρ h x v:=by
 induction xs generalizing vs i with
 | nil=>exact aw e
 | cons y xs ih=>
  obtain ⟨v,ws,rfl,a,b⟩:=r.inv
  cases i with
  | zero=>obtain rfl:=Option.some.inj e;exact ⟨v,rfl,a⟩
  | succ i=>exact ih b e
theorem aD.append {xs:List MV}{vs:List Value}{ys:List MV}{ws:List Value}(r:aD C ρ h xs vs)(l:aD C ρ h ys ws):aD C ρ h (xs++ys) (vs++ws):=by
 induction xs generalizing vs with
 | nil=>rw [r.inv];exact l
 | cons x xs ih=>
  obtain ⟨v,us,rfl,a,b⟩:=r.inv
  exact .cons a (ih b)
theorem aD.take {xs:List MV}{vs:List Value}(k:Nat)(r:aD C ρ h xs vs):aD C ρ h (xs.take k) (vs.take k):=by
 induction xs generalizing vs k with
 | nil=>rw [r.inv,List.take_nil,List.take_nil];exact .nil
 | cons x xs ih=>
  obtain ⟨v,us,rfl,a,b⟩:=r.inv
  cases k with
  | zero=>exact .nil
  | succ k=>exact .cons a (ih k b)
theorem aD.drop {xs:List MV}{vs:List Value}(k:Nat)(r:aD C ρ h xs vs):aD C ρ h (xs.drop k) (vs.drop k):=by
 induction xs generalizing vs k with
 | nil=>rw [r.inv,List.drop_nil,List.drop_nil];exact .nil
 | cons x xs ih=>
  obtain ⟨v,us,rfl,a,b⟩:=r.inv
  cases k with
  | zero=>exact .cons a b
  | succ k=>exact ih k b
end
inductive dH (C:Glo)(ρ:List Addr)(h:Heap):List (List Nat × MV)→List (Str × Value)→Prop
 | nil:dH C ρ h [] []
 | cons {k x v es ds}:k.length≤line→Rep C ρ h x v→dH C ρ h es ds→dH C ρ h ((k,x)::es) ((str k,v)::ds)
theorem dH.up {C:Glo}{ρ ρ':List Addr}{h h':Heap}(hs:aZ h h')(hp:ρ<+:ρ'){x v}(r:dH C ρ h x v):dH C ρ' h' x v:=by
 induction r with
 | nil=>exact .nil
 | cons z a _ ih=>exact .cons z (a.up hs hp) ih
theorem CK.rep {C:Glo}{ρ:List Addr}{h:Heap}{es kvs}(r:CK es kvs):dH C ρ h (cds es) kvs:=by
 induction r with
 | nil=>exact .nil
 | cons z _ ih=>exact .cons z (.int _ _) ih
inductive Ee (C:Glo)(ρ:List Addr)(h:Heap)(xs:List MV)(a:Addr):Prop
 | mk (items:List Value) (n:Nat) (e:h.get? a=some (cF items n)) (rl:aD C ρ h xs items) (z:xs.length≤line)
inductive Ef (C:Glo)(ρ:List Addr)(h:Heap)(es:List (List Nat × MV))(a:Addr):Prop
 | mk (kvs:List (Str × Value)) (d:h.DictOf (strKind C.prog C.w) a kvs) (rk:dH C ρ h es kvs) (z:es.length≤line)
inductive uR (C:Glo)(ρ:List Addr)(h:Heap)(es:List (List Nat × MV))(a:Addr):Prop
 | mk (mA:Str→Option Value) (n:h.Ns1 a mA) (l:∀k v,bf es k=some v→∃w,mA (str k)=some w∧Rep C ρ h v w) (r:∀k,bf es k=none→mA (str k)=none) (z:es.length≤1000)
inductive Eg (C:Glo)(h:Heap)(c:Nat)(a:Addr):Prop
 | mk (K:Addr) (o:Obj) (vs:Array Value) (h1:C.xa c=some K) (h2:h.get? a=some o) (h3:o.cls=.ref K) (h4:o.data=.fields vs)
noncomputable def ky (C:Glo)(ρ:List Addr)(h:Heap):MO→Addr→Prop
 | .list xs,a=>Ee C ρ h xs a
 | .dict es,a=>Ef C ρ h es a
 | .attrs es,a=>uR C ρ h es a
 | .exc c,a=>Eg C h c a
structure Hp (C:Glo)(ρ:List Addr)(hp:List MO)(h:Heap):Prop where
 base:C.base.StaysIn h
 len:ρ.length=hp.length
 nodup:ρ.Nodup
 fresh:∀a∈ρ,C.base.get? a=none
 objs:∀(i:Nat) (o:MO) (a:Addr),hp[i]?=some o→ρ[i]?=some a→ky C ρ h o a
set_option genCtorIdx false in
inductive Loc where
 | nm (L:Addr) (x:Str)
 | cl (c:Addr)
gen_injective_theorems% Loc
set_option genCtorIdx false in
structure Fm where
 env:Env
 A:Around
 W:List Addr
 V:List Addr
 lay:Nat→Option Loc
 frs:List Addr
inductive Eh (C:Glo)(ρ:List Addr)(h:Heap)(L:Addr)(x:Str)(v:MV):Prop
 | mk (f:Str→Option Value) (w:Value) (n:h.Ns L f) (e:f x=some w) (r:Rep C ρ h v w)
inductive Ei (C:Glo)(ρ:List Addr)(h:Heap)(c:Addr)(v:MV):Prop
 | mk (w:Value) (n:h.IsCell c (some w)) (r:Rep C ρ h v w)
noncomputable def Holds (C:Glo)(ρ:List Addr)(h:Heap):Loc→MV→Prop
 | .nm L x,v=>Eh C ρ h L x v
 | .cl c,v=>Ei C ρ h c v
noncomputable def WOk (h:Heap)(a:Addr):Prop:=∃o,h.get? a=some o∧((∃es n,o.data=.dict es n)∨∃v,o.data=.cell v)
noncomputable def Ej (C:Glo)(ρ:List Addr)(h:Heap)(L:Addr):Prop:=L∉ρ∧C.base.get? L=none∧∃o,h.get? L=some o∧IsD o
structure Rel (C:Glo)(F:Fm)(ρ:List Addr)(m:MS)(s:Shared):Prop where
 hp:Hp C ρ m.heap s.heap
 ns:∃f,s.heap.Ns F.env.locals f
 w:∀a∈F.W++F.V,a∉ρ∧C.base.get? a=none∧WOk s.heap a
 vars:∀i v,m.get i=some v→∃l,F.lay i=some l∧Holds C ρ s.heap l v
 cells:∀i c,F.lay i=some (.cl c)→∃v,s.heap.IsCell c v
 out:∀L∈F.frs,Ej C ρ s.heap L
 gens:s.gens=#[]
structure aq (W:List Addr)(ρ:List Addr)(s:Shared)(ρ':List Addr)(s':Shared):Prop where
 pre:ρ<+:ρ'
 new:∀a∈ρ',a∈ρ∨s.heap.get? a=none
 keep:∀a o,s.heap.get? a=some o→a∉ρ→a∉W→s'.heap.get? a=some o∨(IsD o∧∃sl,s'.heap.get? a=some { o with slots:=sl })
 solid:aZ s.heap s'.heap
 alive:∀a o,s.heap.get? a=some o→∃o',s'.heap.get? a=some o'
 gens:s'.gens=s.gens
 os:s'.os=s.os
theorem aq.refl (W ρ:List Addr)(s:Shared):aq W ρ s ρ s:=⟨List.prefix_refl _,fun _ h=>.inl h,fun _ _ e _ _=>.inl e,fun _ _ e _=>e,fun _ o e=>⟨o,e⟩,rfl,rfl⟩
theorem aq.trans {W ρ ρ₁ ρ₂:List Addr}{s s₁ s₂:Shared}(x:aq W ρ s ρ₁ s₁)(y:aq W ρ₁ s₁ ρ₂ s₂):aq W ρ s ρ₂ s₂ where
 pre:=x.pre.trans y.pre
 new:=fun a h=>(y.new a h).elim (fun h=>x.new a h) fun h=>.inr (by
  cases e:s.heap.get? a with
  | none=>rfl
  | some o=>obtain ⟨o',e'⟩:=x.alive a o e;exact aX h e')
 keep:=fun a o e h1 h2=>by
  have h1':a∉ρ₁:=fun h=>(x.new a h).elim h1 fun h=>aX h e
  rcases x.keep a o e h1 h2 with e1 | ⟨hc,sl,e1⟩
  ·exact y.keep a o e1 h1' h2
  ·rcases y.keep a _ e1 h1' h2 with e2 | ⟨_,sl2,e2⟩
   ·exact .inr ⟨hc,sl,e2⟩
   ·exact .inr ⟨hc,sl2,e2⟩
 solid:=fun a o e h=>y.solid a o (x.solid a o e h) h
 alive:=fun a o e=>let ⟨o',e'⟩:=x.alive a o e;y.alive a o' e'
 gens:=y.gens.trans x.gens
 os:=y.os.trans x.os
theorem Rep.step {C:Glo}{W ρ ρ':List Addr}{s s':Shared}{x:MV}{v:Value}(r:Rep C ρ s.heap x v)(st:aq W ρ s ρ' s'):Rep C ρ' s'.heap x v:=r.up st.solid st.pre
theorem aD.step {C:Glo}{W ρ ρ':List Addr}{s s':Shared}{x:List MV}{v:List Value}(r:aD C ρ s.heap x v)(st:aq W ρ s ρ' s'):aD C ρ' s'.heap x v:=r.up st.solid st.pre
end Internal
end
section
namespace Internal
open PySem PyProof.Rows
noncomputable def Er (C:Glo)(F:Fm)(X:XM)(ρ:List Addr)(s:Shared)(e:Value)(s':Shared):Prop:=False
theorem Er.back {C:Glo}{F:Fm}{X:XM}{ρ ρ₁:List Addr}{s s₁:Shared}(st:aq F.W ρ s ρ₁ s₁):∀e s',Er C F X ρ₁ s₁ e s'→Er C F X ρ s e s':=fun _ _ h=>h
theorem Er.mono {C:Glo}{F:Fm}{X X':XM}{ρ:List Addr}{s:Shared}(h:∀k m,X k m→X' k m):∀e s',Er C F X ρ s e s'→Er C F X' ρ s e s':=fun _ _ h=>h
theorem Er.no {C:Glo}{F:Fm}{ρ:List Addr}{s s':Shared}{e:Value}{P:Prop}(h:Er C F noX ρ s e s'):P:=False.elim h
end Internal
end
section
namespace Internal
open PySem PyProof.Rows
noncomputable abbrev mod (C:Glo):Model:=model C.prog C.w
inductive Out (C:Glo)(F:Fm)(ρ:List Addr)(s:Shared)(Q:PQ)(v:Value)(s':Shared):Prop
 | mk (ρ':List Addr) (m':MS) (x:MV) (st:aq F.W ρ s ρ' s') (R:Rel C F ρ' m' s') (rx:Rep C ρ' s'.heap x v) (hq:Q x m'):Out C F ρ s Q v s'
theorem Out.back {C:Glo}{F:Fm}{Q:PQ}{ρ ρ₁:List Addr}{s s₁:Shared}(st:aq F.W ρ s ρ₁ s₁):∀v s',Out C F ρ₁ s₁ Q v s'→Out C F ρ s Q v s':=
 fun _ _ ⟨ρ',m',x,a,b,c,d⟩=>⟨ρ',m',x,st.trans a,b,c,d⟩
noncomputable def WPv (C:Glo)(F:Fm)(X:XM)(t:Sem Value)(Q:PQ)(m:MS):Prop:=
 ∀s ρ,Rel C F ρ m s→wpAny (mod C) F.A t (Out C F ρ s Q) (Er C F X ρ s) s
theorem Ek {C:Glo}{F:Fm}{X:XM}{A:Around}{t:Sem Value}{Q:PQ}{ρ ρ₁:List Addr}{s s₁ s₂:Shared}(st:aq F.W ρ s ρ₁ s₁)(h:wpAny (mod C) A t (Out C F ρ₁ s₁ Q) (Er C F X ρ₁ s₁) s₂) :
  wpAny (mod C) A t (Out C F ρ s Q) (Er C F X ρ s) s₂:=wpAny_mono h (Out.back st) (Er.back st)
end Internal
end
section
namespace Internal
open PySem
noncomputable def Loc.addr:Loc→Addr
 | .nm L _=>L
 | .cl c=>c
theorem jg {h:Heap}{a:Addr}{f g:Str→Option Value}(x:h.Ns a f)(y:h.Ns a g):f=g:=by
 obtain ⟨o,es,ep,ho,hd,_,hf⟩:=x
 obtain ⟨o',es',ep',ho',hd',_,hg⟩:=y
 obtain rfl:=same ho ho'
 obtain ⟨rfl,rfl⟩:=Data.dict.inj (hd.symm.trans hd')
 funext n;exact (hf n).symm.trans (hg n)
inductive NsO (h:Heap)(a:Addr):Prop
 | mk (o:Obj) (es:Array DictEntry) (ep:Nat) (ho:h.get? a=some o) (hd:o.data=.dict es ep)
theorem qb {h:Heap}{a:Addr}{f:Str→Option Value}(x:h.Ns a f):NsO h a:=by
 obtain ⟨o,es,ep,ho,hd,_⟩:=x
 exact ⟨o,es,ep,ho,hd⟩
theorem eM {h:Heap}{a:Addr}{f:Str→Option Value}{v:Option Value}{P:Prop}(x:h.Ns a f)(y:h.IsCell a v):P:=by
 obtain ⟨o,es,ep,ho,hd⟩:=qb x
 obtain ⟨o',g1,g2⟩:=y
 obtain rfl:=same ho g1
 exact nomatch hd.symm.trans g2
theorem j6 {h h':Heap}{a:Addr}{f:Str→Option Value}(x:h.Ns a f)(k:∀o,h.get? a=some o→∃o',h'.get? a=some o'∧o'.data=o.data):h'.Ns a f:=by
 obtain ⟨o,es,ep,ho,hd,r⟩:=x
 obtain ⟨o',ho',hd'⟩:=k o ho
 exact ⟨o',es,ep,ho',hd'.trans hd,r⟩
theorem mG {h h':Heap}{a:Addr}{v:Option Value}(x:h.IsCell a v)(k:∀o,h.get? a=some o→∃o',h'.get? a=some o'∧o'.data=o.data):h'.IsCell a v:=by
 obtain ⟨o,ho,hd⟩:=x
 obtain ⟨o',ho',hd'⟩:=k o ho
 exact ⟨o',ho',hd'.trans hd⟩
section
variable {C:Glo}{F:Fm}{ρ ρ':List Addr}{h h':Heap}{m:MS}{s s':Shared}
noncomputable def kz (h h':Heap)(a:Addr):Prop:=∀o,h.get? a=some o→∃o',h'.get? a=some o'∧o'.data=o.data∧o'.cls=o.cls
noncomputable def rj (h h':Heap)(a:Addr):Prop:=∀o,h.get? a=some o→h'.get? a=some o
theorem kz.e {h h':Heap}{a:Addr}(k:kz h h' a):∀o,h.get? a=some o→∃o',h'.get? a=some o'∧o'.data=o.data:=fun o e=>let ⟨o',x,y,_⟩:=k o e;⟨o',x,y⟩
theorem Holds.up {l:Loc}{v:MV}(x:Holds C ρ h l v)(hs:aZ h h')(hp:ρ<+:ρ')(k:kz h h' l.addr):Holds C ρ' h' l v:=by
 cases l with
 | nm L x'=>obtain ⟨f,w,hn,e,r⟩:=x;exact ⟨f,w,j6 hn k.e,e,r.up hs hp⟩
 | cl c=>obtain ⟨w,hc,r⟩:=x;exact ⟨w,mG hc k.e,r.up hs hp⟩
theorem ky.up {o:MO}{a:Addr}(x:ky C ρ h o a)(hs:aZ h h')(hp:ρ<+:ρ')(k:rj h h' a):ky C ρ' h' o a:=by
 cases o with
 | list xs=>obtain ⟨items,n,e,l,z⟩:=x;exact ⟨items,n,k _ e,l.up hs hp,z⟩
 | dict es=>
  obtain ⟨kvs,⟨o,ds,ep,e,r⟩,l,z⟩:=x
  exact ⟨kvs,⟨o,ds,ep,k _ e,r⟩,l.up hs hp,z⟩
 | attrs es=>
  obtain ⟨mA,n,l,r,z⟩:=x
  exact ⟨mA,n.at fun o e=>k o e,fun key v e=>let ⟨w,h1,h2⟩:=l key v e;⟨w,h1,h2.up hs hp⟩,r,z⟩
 | exc c=>obtain ⟨K,o,vs,h1,h2,h3,h4⟩:=x;exact ⟨K,o,vs,h1,k _ h2,h3,h4⟩
theorem Hp.up {hp:List MO}(x:Hp C ρ hp h)(hs:aZ h h')(k:∀a∈ρ,rj h h' a)(hb:C.base.StaysIn h'):Hp C ρ hp h':=
 ⟨hb,x.len,x.nodup,x.fresh,fun i o a e1 e2=>(x.objs i o a e1 e2).up hs (List.prefix_refl _) (k a (List.mem_of_getElem? e2))⟩
theorem Hp.alloc {hp:List MO}(x:Hp C ρ hp h)(hs:aZ h h')(k:∀a∈ρ,rj h h' a)(hb:C.base.StaysIn h'){o:MO}{a:Addr}(ha:a∉ρ)(hf:C.base.get? a=none)
  (hr:ky C (ρ++[a]) h' o a):Hp C (ρ++[a]) (hp++[o]) h':=by
 refine ⟨hb,by simp [x.len],?_,?_,?_⟩
 ·exact List.nodup_append.mpr ⟨x.nodup,by simp,fun b hb c hc=>by simp at hc;subst hc;exact fun e=>ha (e▸hb)⟩
 ·intro b hb
  rcases List.mem_append.mp hb with hb | hb
  ·exact x.fresh b hb
  ·simp at hb;subst hb;exact hf
 ·intro i o' b e1 e2
  rcases Nat.lt_trichotomy i hp.length with hi | hi | hi
  ·rw [List.getElem?_append_left hi] at e1
   rw [List.getElem?_append_left (by rw [x.len];exact hi)] at e2
   exact (x.objs i o' b e1 e2).up hs (List.prefix_append _ _) (k b (List.mem_of_getElem? e2))
  ·subst hi
   rw [List.getElem?_append_right (Nat.le_refl _)] at e1
   rw [←x.len,List.getElem?_append_right (Nat.le_refl _)] at e2
   simp at e1 e2;subst e1;subst e2;exact hr
  ·rw [List.getElem?_eq_none (by simp;exact hi)] at e1;exact aw e1
theorem Hp.put {hp:List MO}(x:Hp C ρ hp h)(hs:aZ h h'){i:Nat}{a:Addr}(hi:ρ[i]?=some a)(k:∀b∈ρ,b≠a→rj h h' b)(hb:C.base.StaysIn h'){o:MO}
  (hr:ky C ρ h' o a):Hp C ρ (hp.set i o) h':=by
 refine ⟨hb,by simp [x.len],x.nodup,x.fresh,fun j o' b e1 e2=>?_⟩
 by_cases e:i=j
 ·subst e
  obtain rfl:=same hi e2
  have hlt:i<hp.length:=by rw [←x.len];exact (List.getElem?_eq_some_iff.mp hi).1
  obtain rfl:=Option.some.inj ((List.getElem?_set_self hlt).symm.trans e1)
  exact hr
 ·rw [List.getElem?_set_ne e] at e1
  refine (x.objs j o' b e1 e2).up hs (List.prefix_refl _) (k b (List.mem_of_getElem? e2) fun q=>?_)
  subst q
  have h1:=(List.getElem?_eq_some_iff.mp hi)
  have h2:=(List.getElem?_eq_some_iff.mp e2)
  exact e ((List.getElem_inj x.nodup).mp (h1.2.trans h2.2.symm))
structure aU (F:Fm):Prop where
 loc:F.env.locals∈F.W
 lay:∀i l,F.lay i=some l→l.addr∈F.W++F.V
 inj:∀i j l,F.lay i=some l→F.lay j=some l→i=j
 kind:F.env.scope.kind=.function
 frs:∃es,F.A.frames=some es∧∀e∈es,e.scope.kind≠.module∧∃L∈F.frs,e.frame=some L
theorem Rel.up {hpN:List MO}(x:Rel C F ρ m s)(ok:aU F)(hs:aZ s.heap s'.heap)(hpre:ρ<+:ρ')(hH:Hp C ρ' hpN s'.heap)(hnew:∀a∈ρ',a∈ρ∨s.heap.get? a=none)
  (hW:∀a∈F.W++F.V,kz s.heap s'.heap a) (ho:∀L∈F.frs,kz s.heap s'.heap L) (hg:s'.gens=s.gens):Rel C F ρ' ⟨m.vars,hpN⟩ s' where
 hp:=hH
 ns:=let ⟨f,hf⟩:=x.ns;⟨f,j6 hf (hW _ (List.mem_append_left _ ok.loc)).e⟩
 w:=fun a ha=>by
  obtain ⟨h1,h2,o,h3,h4⟩:=x.w a ha
  obtain ⟨o',e',d',_⟩:=hW a ha o h3
  refine ⟨fun hm=>(hnew a hm).elim h1 fun q=>aX q h3,h2,o',e',by rw [d'];exact h4⟩
 vars:=fun i v e=>let ⟨l,h1,h2⟩:=x.vars i v e;⟨l,h1,h2.up hs hpre (hW _ (ok.lay i l h1))⟩
 cells:=fun i c e=>let ⟨v,h1⟩:=x.cells i c e;⟨v,mG h1 (hW c (ok.lay i _ e)).e⟩
 out:=fun L hL=>by
  obtain ⟨h1,h2,o,h3,es,n,h4⟩:=x.out L hL
  obtain ⟨o',e',d',_⟩:=ho L hL o h3
  exact ⟨fun hm=>(hnew L hm).elim h1 fun q=>aX q h3,h2,o',e',es,n,d'.trans h4⟩
 gens:=hg.trans x.gens
theorem Rel.grow (x:Rel C F ρ m s)(ok:aU F)(hk:∀a o,s.heap.get? a=some o→s'.heap.get? a=some o)(hg:s'.gens=s.gens)(hos:s'.os=s.os) :
  Rel C F ρ m s'∧aq F.W ρ s ρ s':=
 ⟨x.up ok (fun a o e _=>hk a o e) (List.prefix_refl _) (x.hp.up (fun a o e _=>hk a o e) (fun a _ o e=>hk a o e) fun b o e=>hk b o (x.hp.base b o e)) (fun a h=>.inl h) (fun a _ o e=>⟨o,hk a o e,rfl,rfl⟩)
  (fun L _ o e=>⟨o,hk L o e,rfl,rfl⟩) hg,
  ⟨List.prefix_refl _,fun _ h=>.inl h,fun a o e _ _=>.inl (hk a o e),fun a o e _=>hk a o e,fun a o e=>⟨o,hk a o e⟩,hg,hos⟩⟩
theorem Rel.tok (x:Rel C F ρ m s)(ok:aU F)(t:Nat):Rel C F ρ m { s with toks:=t }∧aq F.W ρ s ρ { s with toks:=t }:=x.grow ok (fun _ _ e=>e) rfl rfl
theorem bk {h:Heap}{a:Addr}(ha:h.objs.size≤a):h.get? a=none:=by
 cases e:h.get? a with
 | none=>rfl
 | some o=>exact absurd (Heap.lt_size e) (Nat.not_lt.mpr ha)
theorem bM (x:Hp C ρ m.heap s.heap){a:Addr}(ha:s.heap.get? a=none):C.base.get? a=none:=by
 cases e:C.base.get? a with
 | none=>rfl
 | some o=>exact aX ha (x.base a o e)
theorem Hp.there (x:Hp C ρ m.heap s.heap){a:Addr}(ha:a∈ρ):∃o,s.heap.get? a=some o:=by
 obtain ⟨i,hi,rfl⟩:=List.getElem_of_mem ha
 have hi':i<m.heap.length:=by rw [←x.len];exact hi
 have:=x.objs i m.heap[i] ρ[i] (List.getElem?_eq_getElem hi') (List.getElem?_eq_getElem hi)
 cases hm:m.heap[i] with
 | list xs=>rw [hm] at this;obtain ⟨_,_,e,_⟩:=this;exact ⟨_,e⟩
 | dict es=>rw [hm] at this;obtain ⟨_,⟨_,_,_,e,_⟩,_⟩:=this;exact ⟨_,e⟩
 | attrs es=>rw [hm] at this;obtain ⟨_,⟨_,_,_,e,_⟩,_⟩:=this;exact ⟨_,e⟩
 | exc c=>rw [hm] at this;obtain ⟨_,_,_,_,e,_⟩:=this;exact ⟨_,e⟩
theorem Rel.alloc (x:Rel C F ρ m s)(ok:aU F)(hk:∀a o,s.heap.get? a=some o→s'.heap.get? a=some o)(hg:s'.gens=s.gens)(hos:s'.os=s.os)
  {o:MO}{a:Addr}(ha:s.heap.get? a=none) (hr:ky C (ρ++[a]) s'.heap o a):Rel C F (ρ++[a]) (m.push o) s'∧aq F.W ρ s (ρ++[a]) s':=by
 have hn:∀b∈ρ++[a],b∈ρ∨s.heap.get? b=none:=fun b hb=>by
  rcases List.mem_append.mp hb with hb | hb
  ·exact .inl hb
  ·simp at hb;subst hb;exact .inr ha
 refine ⟨x.up ok (fun a o e _=>hk a o e) (List.prefix_append _ _) (x.hp.alloc (fun a o e _=>hk a o e) (fun a _ o e=>hk a o e) (fun b o e=>hk b o (x.hp.base b o e)) (fun hm=>?_) (bM x.hp ha) hr) hn
  (fun a _ o e=>⟨o,hk a o e,rfl,rfl⟩) (fun L _ o e=>⟨o,hk L o e,rfl,rfl⟩) hg,⟨List.prefix_append _ _,hn,fun a o e _ _=>.inl (hk a o e),fun a o e _=>hk a o e,fun a o e=>⟨o,hk a o e⟩,hg,hos⟩⟩
 obtain ⟨o',e⟩:=x.hp.there hm
 exact aX ha e
theorem cK {a:Addr}(hk:∀b o,b≠a→h.get? b=some o→h'.get? b=some o)(ha:∀o,h.get? a=some o→¬ gM o):aZ h h':=fun b o e hs=>by
 by_cases q:b=a
 ·subst q;exact absurd hs (ha o e)
 ·exact hk b o q e
theorem cq {o:MO}{a:Addr}(x:ky C ρ h o a):∀ob,h.get? a=some ob→¬ gM ob:=fun ob e hs=>by
 cases o with
 | list xs=>
  obtain ⟨items,n,e',_⟩:=x
  obtain rfl:=same e' e
  exact ff hs
 | dict es=>
  obtain ⟨kvs,⟨o',ds,ep,e',_,hd,_⟩,_⟩:=x
  obtain rfl:=same e' e
  exact ff ((congrArg (gZ o'.cls) hd).symm.trans hs)
 | attrs es=>
  obtain ⟨_,⟨o',ds,ep,e',hd,_⟩,_⟩:=x
  obtain rfl:=same e' e
  exact ff ((congrArg (gZ o'.cls) hd).symm.trans hs)
 | exc c=>
  obtain ⟨_,o',vs,_,e',_,hd⟩:=x
  obtain rfl:=same e' e
  exact ff ((congrArg (gZ o'.cls) hd).symm.trans hs)
theorem gN {a:Addr}(x:WOk h a):∀ob,h.get? a=some ob→¬ gM ob:=fun ob e hs=>by
 obtain ⟨o,e',d⟩:=x
 obtain rfl:=same e' e
 rcases d with ⟨es,k,d⟩ | ⟨v,d⟩
 ·exact ff ((congrArg (gZ o.cls) d).symm.trans hs)
 ·exact ff ((congrArg (gZ o.cls) d).symm.trans hs)
theorem ky.there {o:MO}{a:Addr}(x:ky C ρ h o a):∃ob,h.get? a=some ob:=by
 cases o with
 | list xs=>obtain ⟨_,_,e,_⟩:=x;exact ⟨_,e⟩
 | dict es=>obtain ⟨_,⟨_,_,_,e,_⟩,_⟩:=x;exact ⟨_,e⟩
 | attrs es=>obtain ⟨_,⟨_,_,_,e,_⟩,_⟩:=x;exact ⟨_,e⟩
 | exc c=>obtain ⟨_,_,_,_,e,_⟩:=x;exact ⟨_,e⟩
theorem Rel.put (x:Rel C F ρ m s)(ok:aU F){i:Nat}{a:Addr}(hi:ρ[i]?=some a){o₀ o:MO}(h0:m.heap[i]?=some o₀)(hk:∀b ob,b≠a→s.heap.get? b=some ob→s'.heap.get? b=some ob)(hg:s'.gens=s.gens)(hos:s'.os=s.os)
  (hr:ky C ρ s'.heap o a):Rel C F ρ (m.put i o) s'∧aq F.W ρ s ρ s':=by
 have ham:a∈ρ:=List.mem_of_getElem? hi
 have hs:aZ s.heap s'.heap:=cK hk (cq (x.hp.objs i o₀ a h0 hi))
 have hb:C.base.StaysIn s'.heap:=fun b ob e=>hk b ob (fun q=>aX (x.hp.fresh a ham) (q▸e)) (x.hp.base b ob e)
 refine ⟨x.up ok hs (List.prefix_refl _) (x.hp.put hs hi (fun b hb hne ob e=>hk b ob hne e) hb hr) (fun b h=>.inl h) (fun b hb ob e=>⟨ob,hk b ob (fun q=>(x.w b hb).1 (q▸ham)) e,rfl,rfl⟩)
  (fun L hL ob eb=>⟨ob,hk L ob (fun q=>(x.out L hL).1 (q▸ham)) eb,rfl,rfl⟩) hg,⟨List.prefix_refl _,fun b h=>.inl h,fun b ob e h1 _=>.inl (hk b ob (fun q=>h1 (q▸ham)) e),hs,fun b ob e=>?_,hg,hos⟩⟩
 by_cases q:b=a
 ·subst q;exact hr.there
 ·exact ⟨ob,hk b ob q e⟩
theorem MS.get_at {m:MS}{i:Nat}{v:MV}(h:m.get i=some v):m.vars[i]?=some (some v):=by
 unfold MS.get at h
 cases e:m.vars[i]? with
 | none=>rw [e] at h;exact aw h
 | some o=>
  rw [e] at h
  cases o with
  | none=>exact aw h
  | some w=>exact congrArg (fun z=>some z) h
theorem MS.get_of {m:MS}{i:Nat}{v:MV}(h:m.vars[i]?=some (some v)):m.get i=some v:=by
 unfold MS.get;rw [h]
theorem MS.get_set (m:MS)(i j:Nat)(v w:MV)(h:(m.set i v).get j=some w):(j=i∧w=v)∨(j≠i∧m.get j=some w):=by
 have h:(m.vars.set i (some v))[j]?=some (some w):=MS.get_at h
 by_cases e:i=j
 ·subst e
  have hlt:i<m.vars.length:=by
   have:=(List.getElem?_eq_some_iff.mp h).1
   rw [List.length_set] at this;exact this
  rw [List.getElem?_set_self hlt] at h
  exact .inl ⟨rfl,(Option.some.inj (Option.some.inj h)).symm⟩
 ·rw [List.getElem?_set_ne e] at h
  exact .inr ⟨fun q=>e q.symm,MS.get_of h⟩
theorem Rel.own (x:Rel C F ρ m s)(ok:aU F){a:Addr}(ha:a∈F.W)(hsb:Heap.SameBut a s.heap s'.heap)(hg:s'.gens=s.gens)(hos:s'.os=s.os){m':MS}(hm:m'.heap=m.heap)
  (hw:WOk s'.heap a) (hfr:∀o,s.heap.get? a=some o→IsD o→∃o',s'.heap.get? a=some o'∧IsD o') (hns:∃f,s'.heap.Ns F.env.locals f) (hcell:∀v,s.heap.IsCell a v→∃w,s'.heap.IsCell a w)
  (hv:aZ s.heap s'.heap→∀i v,m'.get i=some v→∃l,F.lay i=some l∧Holds C ρ s'.heap l v):Rel C F ρ m' s'∧aq F.W ρ s ρ s':=by
 have hk:∀b ob,b≠a→s.heap.get? b=some ob→s'.heap.get? b=some ob:=fun b ob q e=>(hsb.2 b q).trans e
 have hL:=x.w _ (List.mem_append_left _ ha)
 have hs:aZ s.heap s'.heap:=cK hk (gN hL.2.2)
 refine ⟨⟨?_,hns,fun b hb=>?_,hv hs,fun i c e=>?_,fun e he=>?_,hg.trans x.gens⟩,⟨List.prefix_refl _,fun b h=>.inl h,fun b ob e h1 h2=>.inl (hk b ob (fun q=>h2 (q▸ha)) e),hs,fun b ob e=>?_,hg,hos⟩⟩
 ·rw [hm]
  exact x.hp.up hs (fun b hb ob e=>hk b ob (fun q=>hL.1 (q▸hb)) e) fun b ob e=>hk b ob (fun q=>aX hL.2.1 (q▸e)) (x.hp.base b ob e)
 ·obtain ⟨h1,h2,o,h3,h4⟩:=x.w b hb
  refine ⟨h1,h2,?_⟩
  by_cases q:b=a
  ·subst q;exact hw
  ·exact ⟨o,hk b o q h3,h4⟩
 ·obtain ⟨v,o,h1,h2⟩:=x.cells i c e
  by_cases q:c=a
  ·subst q;exact hcell v ⟨o,h1,h2⟩
  ·exact ⟨v,o,hk c o q h1,h2⟩
 ·obtain ⟨h1,h2,o,h3,h4⟩:=x.out e he
  refine ⟨h1,h2,?_⟩
  by_cases q:e=a
  ·subst q;exact hfr o h3 h4
  ·exact ⟨o,hk e o q h3,h4⟩
 ·by_cases q:b=a
  ·subst q;obtain ⟨o,e,_⟩:=hw;exact ⟨o,e⟩
  ·exact ⟨ob,hk b ob q e⟩
theorem Rel.setName (x:Rel C F ρ m s)(ok:aU F){i:Nat}{n:Str}(hi:F.lay i=some (.nm F.env.locals n)){f:Str→Option Value}{v:Value}{w:MV}(hf:s.heap.Ns F.env.locals f)
  (hn:s'.heap.Ns F.env.locals (fun y=>if y=n then some v else f y)) (hsb:Heap.SameBut F.env.locals s.heap s'.heap) (hg:s'.gens=s.gens) (hos:s'.os=s.os) (hr:Rep C ρ s.heap w v) :
  Rel C F ρ (m.set i w) s'∧aq F.W ρ s ρ s':=by
 refine x.own ok ok.loc hsb hg hos rfl ?_ (fun _ _ _=>?_) ⟨_,hn⟩ (fun v hc=>?_) fun hs j u e=>?_
 ·obtain ⟨o,es,ep,ho,hd⟩:=qb hn
  exact ⟨o,ho,.inl ⟨es,ep,hd⟩⟩
 ·obtain ⟨o,es,ep,ho,hd⟩:=qb hn
  exact ⟨o,ho,es,ep,hd⟩
 ·exact eM hf hc
 ·rcases MS.get_set m i j w u e with ⟨rfl,rfl⟩ | ⟨hne,e⟩
  ·exact ⟨_,hi,_,v,hn,if_pos rfl,hr.up hs (List.prefix_refl _)⟩
  ·obtain ⟨l,h1,h2⟩:=x.vars j u e
   refine ⟨l,h1,?_⟩
   by_cases q:l.addr=F.env.locals
   ·cases l with
    | nm L y=>
     obtain rfl:L=F.env.locals:=q
     obtain ⟨g,z,g1,g2,g3⟩:=h2
     obtain rfl:=jg g1 hf
     exact ⟨_,z,hn,(if_neg fun q:y=n=>hne (ok.inj j i _ h1 (by rw [q];exact hi))).trans g2,g3.up hs (List.prefix_refl _)⟩
    | cl c=>
     obtain rfl:c=F.env.locals:=q
     obtain ⟨z,hc,_⟩:=h2
     exact eM hf hc
   ·exact h2.up hs (List.prefix_refl _) fun o e=>⟨o,(hsb.2 _ q).trans e,rfl,rfl⟩
theorem Rel.setCell (x:Rel C F ρ m s)(ok:aU F){i:Nat}{c:Addr}(hi:F.lay i=some (.cl c))(hcm:c∈F.W){v₀:Option Value}{v:Value}{w:MV}(h0:s.heap.IsCell c v₀)
  (hn:s'.heap.IsCell c (some v)) (hsb:Heap.SameBut c s.heap s'.heap) (hg:s'.gens=s.gens) (hos:s'.os=s.os) (hr:Rep C ρ s.heap w v) :
  Rel C F ρ (m.set i w) s'∧aq F.W ρ s ρ s':=by
 refine x.own ok hcm hsb hg hos rfl ?_ (fun o e he=>?_) ?_ (fun _ _=>⟨_,hn⟩) fun hs j u e=>?_
 ·obtain ⟨o,ho,hd⟩:=hn
  exact ⟨o,ho,.inr ⟨_,hd⟩⟩
 ·obtain ⟨o',g1,g2⟩:=h0
  obtain ⟨_,_,he⟩:=he
  obtain rfl:=same e g1
  exact nomatch g2.symm.trans he
 ·obtain ⟨f,hf⟩:=x.ns
  exact ⟨f,hf.sameBut hsb fun q=>eM hf (q▸h0)⟩
 ·rcases MS.get_set m i j w u e with ⟨rfl,rfl⟩ | ⟨hne,e⟩
  ·exact ⟨_,hi,v,hn,hr.up hs (List.prefix_refl _)⟩
  ·obtain ⟨l,h1,h2⟩:=x.vars j u e
   refine ⟨l,h1,?_⟩
   by_cases q:l.addr=c
   ·cases l with
    | nm L y=>
     obtain rfl:L=c:=q
     obtain ⟨g,z,hg,_⟩:=h2
     exact eM hg h0
    | cl c'=>
     obtain rfl:c'=c:=q
     exact absurd (ok.inj j i _ h1 hi) hne
   ·exact h2.up hs (List.prefix_refl _) fun o e=>⟨o,(hsb.2 _ q).trans e,rfl,rfl⟩
end
end Internal
end
section
namespace Internal
open PySem
section
variable {C:Glo}{F:Fm}{X:XM}{ρ:List Addr}{m:MS}{s:Shared}{Q:PQ}{E:Value→Shared→Prop}{A:Around}
theorem kA {x:Int}(h:dt x):Builtin.Int.intBits x≤64:=by
 unfold dt at h
 refine intBits_le_64 ?_ ?_<;>lia
theorem sN {x y:Int}(h:0<y):x.fdiv y=x / y:=Int.fdiv_eq_ediv_of_nonneg x (Int.le_of_lt h)
theorem sP {x y:Int}(h:0<y):x.fmod y=x % y:=Int.fmod_eq_emod_of_nonneg x (Int.le_of_lt h)
theorem bD (R:Rel C F ρ m s)(ok:aU F){x:MV}{v:Value}{t:Nat}(hr:Rep C ρ s.heap x v)(h:Q x m):Out C F ρ s Q v { s with toks:=t }:=
 let ⟨R',st⟩:=R.tok ok t;⟨ρ,m,x,st,R',hr,h⟩
theorem bS (R:Rel C F ρ m s){x:MV}{v:Value}(hr:Rep C ρ s.heap x v)(h:Q x m):Out C F ρ s Q v s:=⟨ρ,m,x,.refl _ _ _,R,hr,h⟩
theorem nA (R:Rel C F ρ m s)(ok:aU F){xs:List MV}{vs:List Value}(hr:aD C ρ s.heap xs vs)(hz:xs.length≤line)(h:Q (.tup xs) m){t:Nat} :
  Out C F ρ s Q (.ref s.heap.objs.size) { s with heap:=s.heap.push (mj vs 0),toks:=t }:=by
 obtain ⟨R',st⟩:=R.grow (s':={ s with heap:=s.heap.push (mj vs 0),toks:=t }) ok (fun a o e=>Heap.get?_push_of_some _ e) rfl rfl
 exact ⟨ρ,m,_,st,R',.tup (Heap.get?_push_size _ rfl) (hr.step st) hz,h⟩
theorem nC (R:Rel C F ρ m s)(ok:aU F){xs:List MV}{vs:List Value}(hr:aD C ρ s.heap xs vs)(hz:xs.length≤line)(h:Q (.ref m.heap.length) (m.push (.list xs))){t:Nat} :
  Out C F ρ s Q (.ref s.heap.objs.size) { s with heap:=s.heap.push (cF vs 0),toks:=t }:=by
 have hk:∀a o,s.heap.get? a=some o→(s.heap.push (cF vs 0)).get? a=some o:=fun a o e=>Heap.get?_push_of_some _ e
 obtain ⟨R',st⟩:=R.alloc (s':={ s with heap:=s.heap.push (cF vs 0),toks:=t }) ok hk rfl rfl (o:=.list xs) (a:=s.heap.objs.size) (bk (Nat.le_refl _))
  ⟨vs,0,Heap.get?_push_size _ rfl,hr.up (fun a o e _=>hk a o e) (List.prefix_append _ _),hz⟩
 refine ⟨_,_,_,st,R',.ref (i:=m.heap.length) ?_,h⟩
 rw [←R.hp.len,List.getElem?_append_right (Nat.le_refl _)];simp
theorem qc (x y:List Nat):str x++str y=str (x++y):=by
 show (⟨x.toArray++y.toArray⟩:Str)=⟨(x++y).toArray⟩
 simp
theorem cf (x:List Nat):(str x).length=x.length:=by simp [Str.length]
noncomputable def sQ:Op→Operator
 | .add=>.Add | .sub=>.Sub | .mul=>.Mult | .fdiv=>.FloorDiv | .mod=>.Mod | .pow=>.Pow
theorem qd (R:Rel C F ρ m s)(ok:aU F){x y:List MV}{v w:Value}(hx:Rep C ρ s.heap (.tup x) v)(hy:Rep C ρ s.heap (.tup y) w)(h:x.length+y.length≤line∧Q (.tup (x++y)) m) :
  wpAny (mod C) A (binaryOp .Add v w) (Out C F ρ s Q) E s:=by
 obtain ⟨hl,hq⟩:=h
 obtain ⟨t,n,vs,rfl,gx,lx,zx⟩:=hx.inv
 obtain ⟨b,n2,ws,rfl,gy,ly,zy⟩:=hy.inv
 have e:vs.toArray++ws.toArray=(vs++ws).toArray:=by simp
 by_cases hv:vs=[]
 ·subst hv
  obtain rfl:=List.length_eq_zero_iff.mp lx.length.symm
  exact concat_meets ⟨_,gx,rfl⟩ ⟨_,gy,rfl⟩ noFill_tuple_add seq_tuple_add PySem.F.slot_tuple_add PySem.F.entry_tuple_add (PySem.F.args_tuple_add_2 _ _)
   (PyProof.Rows.tuple_addW0 t b ([]:List Value).toArray ws.toArray n n2 none none #[] #[] (by simp)) ⟨gx,gy,bS R hy hq⟩
 ·by_cases hw:ws=[]
  ·subst hw
   obtain rfl:=List.length_eq_zero_iff.mp ly.length.symm
   exact concat_meets ⟨_,gx,rfl⟩ ⟨_,gy,rfl⟩ noFill_tuple_add seq_tuple_add PySem.F.slot_tuple_add PySem.F.entry_tuple_add (PySem.F.args_tuple_add_2 _ _)
    (PyProof.Rows.tuple_addW1 t b vs.toArray ([]:List Value).toArray n n2 none none #[] #[] (by simpa using hv) (by simp)) ⟨gx,gy,bS R hx (by rw [List.append_nil] at hq;exact hq)⟩
  ·refine concat_meets ⟨_,gx,rfl⟩ ⟨_,gy,rfl⟩ noFill_tuple_add seq_tuple_add PySem.F.slot_tuple_add PySem.F.entry_tuple_add (PySem.F.args_tuple_add_2 _ _)
    (PyProof.Rows.tuple_addW2 t b vs.toArray ws.toArray n n2 none none #[] #[] (by simpa using hv) (by simpa using hw) (by rw [List.size_toArray,List.size_toArray,lx.length,ly.length];exact hl)) ⟨gx,gy,?_⟩
   rw [e]
   exact nA R ok (lx.append ly) (by simpa using hl) hq
theorem uS (R:Rel C F ρ m s)(ok:aU F){op:Op}(hop:op≠.add){x y:Int}{t u:Tok}(h:nv op x y Q m):wpAny (mod C) A (binaryOp (sQ op) (.int x t) (.int y u)) (Out C F ρ s Q) E s:=by
 cases op with
 | add=>exact absurd rfl hop
 | sub=>exact PyProof.Rows.sub_int' (bD R ok (.int _ _) h)
 | mul=>exact PyProof.Rows.mul_int (bD R ok (.int _ _) h.2) (h.1.elim (fun h=>.of_left (kA h)) fun h=>.of_right (kA h))
 | fdiv=>
  obtain ⟨h1,h⟩:=hZ h
  have h1:=of_decide_eq_true h1
  refine PyProof.Rows.floordiv_int (Int.ne_of_gt h1.1) ?_ (.inl (PyProof.noPylong_small (Int.ofNat_lt.mp (by rw [Int.natAbs_of_nonneg (Int.le_of_lt h1.1)];exact h1.2))))
  rw [sN h1.1];exact bD R ok (.int _ _) h
 | mod=>
  obtain ⟨h1,h⟩:=hZ h
  have h1:=of_decide_eq_true h1
  refine PyProof.Rows.mod_int' (Int.ne_of_gt h1) ?_
  rw [sP h1];exact bD R ok (.int _ _) h
 | pow=>
  obtain ⟨h1,hq⟩:=hZ h
  obtain ⟨rfl,hy⟩:=of_decide_eq_true h1
  exact PyProof.Rows.pow_int_small (by rcases hy with rfl | rfl<;>decide) (by rcases hy with rfl | rfl<;>decide) (by decide) (bD R ok (.int _ _) hq)
theorem gc {f:Int→Int→Prop}{x y:MV}{v w:Value}(hx:Rep C ρ s.heap x v)(hy:Rep C ρ s.heap y w)(h:onI x fun a=>onI y fun b=>f a b):∃a b t u,v=.int a t∧w=.int b u∧f a b:=by
 obtain ⟨a,rfl,h1⟩:=nu h
 obtain ⟨b,rfl,h2⟩:=nu h1
 obtain ⟨t,rfl⟩:=hx.inv
 obtain ⟨u,rfl⟩:=hy.inv
 exact ⟨a,b,t,u,rfl,rfl,h2⟩
theorem uT {op:Op}{x y:MV}{v w:Value}(hx:Rep C ρ s.heap x v)(hy:Rep C ρ s.heap y w)(h:kq op x y Q m):∃a b t u,v=.int a t∧w=.int b u∧nv op a b Q m:=gc hx hy h
theorem qe (R:Rel C F ρ m s)(ok:aU F){a b:List Nat}{t u:Tok}(zx:a.length≤line)(zy:b.length≤line)(h:a.length+b.length≤line∧Q (.str (a++b)) m):wpAny (mod C) A (binaryOp .Add (.str (str a) t) (.str (str b) u)) (Out C F ρ s Q) E s:=by
 refine P.add_str ?_
 rw [cf,cf]
 by_cases ea:a=[]
 ·subst ea;exact bS R (.str b u zy) h.2
 ·by_cases eb:b=[]
  ·subst eb;rw [if_neg (by simpa using ea)];exact bS R (.str a t zx) (by rw [List.append_nil] at h;exact h.2)
  ·rw [if_neg (by simpa using ea),if_neg (by simpa using eb),qc]
   refine ⟨by rw [cf,List.length_append];exact h.1,bD R ok (.str _ _ (by rw [List.length_append];exact h.1)) h.2⟩
theorem oH (R:Rel C F ρ m s)(ok:aU F){i j:Nat}{v w:Value}(hx:Rep C ρ s.heap (.ref i) v)(hy:Rep C ρ s.heap (.ref j) w)(h:uu (.ref i) (.ref j) Q m):wpAny (mod C) A (binaryOp .Add v w) (Out C F ρ s Q) E s:=by
 obtain ⟨a,rfl,ea⟩:=hx.inv
 obtain ⟨b,rfl,eb⟩:=hy.inv
 obtain ⟨x,e1,h⟩:=bX h
 obtain ⟨y,e2,h1,h2⟩:=bX h
 obtain ⟨ix,nx,gx,lx,zx⟩:=R.hp.objs _ _ _ e1 ea
 obtain ⟨iy,ny,gy,ly,zy⟩:=R.hp.objs _ _ _ e2 eb
 have e:ix.toArray++iy.toArray=(ix++iy).toArray:=List.append_toArray ..
 refine P.add_list gx gy ?_ (by rw [List.size_toArray,List.size_toArray,lx.length,ly.length];exact h1)
 rw [e]
 exact nC R ok (lx.append ly) (by rw [List.length_append];exact h1) h2
theorem BL (R:Rel C F ρ m s)(ok:aU F){x y:MV}{v w:Value}(hx:Rep C ρ s.heap x v)(hy:Rep C ρ s.heap y w)(h:uu x y Q m):wpAny (mod C) A (binaryOp (sQ .add) v w) (Out C F ρ s Q) E s:=by
 refine Classical.byContradiction fun hn=>?_
 cases x with
 | int a=>
  cases y with
  | int b=>
   obtain ⟨t,rfl⟩:=hx.inv
   obtain ⟨u,rfl⟩:=hy.inv
   exact hn (wpAny_add_int (bD R ok (.int _ _) h))
  | _=>exact h
 | str a=>
  cases y with
  | str b=>
   obtain ⟨t,rfl,zx⟩:=hx.inv
   obtain ⟨u,rfl,zy⟩:=hy.inv
   exact hn (qe R ok zx zy h)
  | _=>exact h
 | tup a=>
  cases y with
  | tup b=>exact hn (qd R ok hx hy h)
  | _=>exact h
 | ref i=>
  cases y with
  | ref j=>exact hn (oH R ok hx hy h)
  | _=>exact h
 | _=>exact h
end
end Internal
end
section
namespace Internal
open PySem PyProof.Rows
section
variable {C:Glo}{F:Fm}{ρ:List Addr}{m:MS}{s:Shared}{Q:PQ}{E:Value→Shared→Prop}{A:Around}
theorem BM (R:Rel C F ρ m s)(ok:aU F){x y:MV}{v w:Value}(hx:Rep C ρ s.heap x v)(hy:Rep C ρ s.heap y w)(h:AP x y Q m):wpAny (mod C) A (binaryOp (sQ .mul) v w) (Out C F ρ s Q) E s:=by
 have h:kq .mul x y Q m:=by
  cases y with
  | int j=>
   cases x with
   | int i=>exact h
   | str s=>exact absurd (show pR=true from h.1) (by decide)
   | ref i=>
    obtain ⟨xs,_,h⟩:=bX h
    obtain ⟨v,_,h,_⟩:=j4 h
    exact absurd h (by decide)
   | _=>exact h.elim
  | _=>exact h.elim
 obtain ⟨a,b,t,u,rfl,rfl,h⟩:=uT hx hy h
 exact uS R ok (by intro q;cases q) h
end
end Internal
end
section
namespace Internal
open PySem PyProof.Rows
section
variable {C:Glo}{F:Fm}{ρ:List Addr}{m:MS}{s:Shared}{Q:PQ}{E:Value→Shared→Prop}{A:Around}
theorem BN (R:Rel C F ρ m s)(ok:aU F){op:Op}{x y:MV}{v w:Value}(hx:Rep C ρ s.heap x v)(hy:Rep C ρ s.heap y w)(h:uw op x y Q m) :
  wpAny (mod C) A (binaryOp (sQ op) v w) (Out C F ρ s Q) E s:=by
 have key:op≠.add→kq op x y Q m→wpAny (mod C) A (binaryOp (sQ op) v w) (Out C F ρ s Q) E s:=fun hop h=>by
  obtain ⟨a,b,t,u,rfl,rfl,h⟩:=uT hx hy h
  exact uS R ok hop h
 cases op with
 | add=>exact BL R ok hx hy h
 | mul=>exact BM R ok hx hy h
 | sub=>exact key (by intro q;cases q) h
 | fdiv=>exact key (by intro q;cases q) h
 | mod=>exact key (by intro q;cases q) h
 | pow=>exact key (by intro q;cases q) h
end
end Internal
end
section
set_option maxRecDepth 100000
namespace Internal
open PySem PyProof.Rows
theorem yD (n:Nat):dec n=(Nat.toDigits 10 n).map Char.toNat:=by
 show (Nat.repr n).toList.map Char.toNat=_
 rw [Nat.toList_repr]
theorem nD {i:Int}(h:0≤i∧i<1000000):1≤(dec i).length∧(dec i).length≤6:=by
 obtain ⟨n,rfl⟩:=Int.eq_ofNat_of_zero_le h.1
 have e:(dec n).length=(Nat.repr n).length:=by
  show ((Nat.repr n).toList.map Char.toNat).length=_
  rw [List.length_map,String.length_toList]
 refine ⟨?_,?_⟩
 ·rw [yD,List.length_map]
  exact toDigits_len_ge 10 n
 ·rw [e]
  exact (Nat.length_repr_le_iff (by decide)).mpr (by lia)
theorem yE {i:Int}(h:-1≤i∧i<1000000):(dec i).length≤6:=by
 rcases Int.lt_or_le i 0 with q | q
 ·obtain rfl:i=-1:=by lia
  decide
 ·exact (nD ⟨q,h.2⟩).2
end Internal
end
section
namespace Internal
open PySem
mutual
noncomputable def D.py:D→PyData
 | .none=>.none
 | .bool b=>.bool b
 | .int i=>.int i
 | .str s=>.str (Internal.str s)
 | .list xs=>.list (D.pys xs)
 | .tup xs=>.tuple (D.pys xs)
noncomputable def D.pys:List D→List PyData
 | []=>[]
 | x::xs=>D.py x::D.pys xs
end
theorem kC {x y:List Nat}:(Internal.str x==Internal.str y)=(x==y):=by
 rw [Bool.eq_iff_iff];simp
mutual
theorem D.eqv_py:∀(d e:D),PyData.eqv d.py e.py=d.deq e
 | .none,e=>by cases e<;>rfl
 | .bool b,e=>by cases e<;>rfl
 | .int b,e=>by cases e<;>rfl
 | .str b,e=>by
  cases e with
  | str c=>exact kC
  | _=>rfl
 | .list xs,e=>by
  cases e with
  | list ys=>exact D.eqvs_py xs ys
  | _=>rfl
 | .tup xs,e=>by
  cases e with
  | tup ys=>exact D.eqvs_py xs ys
  | _=>rfl
theorem D.eqvs_py:∀(d e:List D),PyData.eqvAll (D.pys d) (D.pys e)=D.deqs d e
 | [],[]=>rfl
 | [],_::_=>rfl
 | _::_,[]=>rfl
 | x::xs,y::ys=>by show (PyData.eqv x.py y.py&&PyData.eqvAll (D.pys xs) (D.pys ys))=(x.deq y&&D.deqs xs ys);rw [D.eqv_py x y,D.eqvs_py xs ys]
end
mutual
theorem D.lay_py:∀(d:D),d.ok=true→d.py.canLay0=true
 | .none,_=>rfl
 | .bool b,_=>rfl
 | .int b,_=>rfl
 | .str b,h=>by
  show PyData.strOk (Internal.str b)=true
  simp only [PyData.strOk,List.all_toArray,List.all_eq_true,decide_eq_true_eq]
  intro c hc;have:=of_decide_eq_true (List.all_eq_true.mp h c hc);exact Nat.le_trans this (nb rfl)
 | .list xs,h=>D.lays_py xs h
 | .tup xs,h=>D.lays_py xs h
theorem D.lays_py:∀(d:List D),D.oks d=true→PyData.canLayAll0 (D.pys d)=true
 | [],_=>rfl
 | x::xs,h=>by
  have h:x.ok=true∧D.oks xs=true:=(Bool.and_eq_true_iff ..).mp h
  exact (Bool.and_eq_true_iff ..).mpr ⟨D.lay_py x h.1,D.lays_py xs h.2⟩
end
mutual
theorem D.depth_py:∀(d:D),d.py.depth=d.deep
 | .none=>rfl
 | .bool b=>rfl
 | .int b=>rfl
 | .str b=>rfl
 | .list xs=>by show PyData.depthAll (D.pys xs)+1=D.deeps xs+1;rw [D.depths_py xs]
 | .tup xs=>by show PyData.depthAll (D.pys xs)+1=D.deeps xs+1;rw [D.depths_py xs]
theorem D.depths_py:∀(d:List D),PyData.depthAll (D.pys d)=D.deeps d
 | []=>rfl
 | x::xs=>by show max x.py.depth (PyData.depthAll (D.pys xs))=max x.deep (D.deeps xs);rw [D.depth_py x,D.depths_py xs]
end
section
variable {C:Glo}{F:Fm}{X:XM}{ρ:List Addr}{m:MS}{s:Shared}{E:Value→Shared→Prop}{A:Around}{h:Heap}{hp:List MO}
theorem Rd.both (H:Hp C ρ hp h):(∀{x:MV}{d:D},Rd hp x d→∀v,Rep C ρ h x v→∃as,Reads h v d.py as)∧(∀{x:List MV}{d:List D},Rds hp x d→∀v,aD C ρ h x v→∃as,ReadsAll h v (D.pys d) as):=by
 have k1:∀v,Rep C ρ h .none v→∃as,Reads h v D.none.py as:=fun v r=>by obtain rfl:=r.inv;exact ⟨_,.none⟩
 have k2:∀b v,Rep C ρ h (.bool b) v→∃as,Reads h v (D.bool b).py as:=fun b v r=>by obtain rfl:=r.inv;exact ⟨_,.bool b⟩
 have k3:∀i v,Rep C ρ h (.int i) v→∃as,Reads h v (D.int i).py as:=fun i v r=>by obtain ⟨t,rfl⟩:=r.inv;exact ⟨_,.int i t⟩
 have k4:∀s v,Rep C ρ h (.str s) v→∃as,Reads h v (D.str s).py as:=fun s v r=>by obtain ⟨t,rfl,_⟩:=r.inv;exact ⟨_,.str _ t⟩
 have k5:∀{xs ds},Rds hp xs ds→(∀v,aD C ρ h xs v→∃as,ReadsAll h v (D.pys ds) as)→∀v,Rep C ρ h (.tup xs) v→∃as,Reads h v (D.tup ds).py as:=fun _ ih v r=>by
  obtain ⟨a,n,items,rfl,g,l,_⟩:=r.inv
  obtain ⟨as,q⟩:=ih _ l
  exact ⟨_,.tuple g rfl rfl q⟩
 have k6:∀{i xs ds},hp[i]?=some (.list xs)→Rds hp xs ds→(∀v,aD C ρ h xs v→∃as,ReadsAll h v (D.pys ds) as)→∀v,Rep C ρ h (.ref i) v→∃as,Reads h v (D.list ds).py as:=fun hi _ ih v r=>by
  obtain ⟨a,rfl,e⟩:=r.inv
  obtain ⟨items,n,g,r,_⟩:=H.objs _ _ _ hi e
  obtain ⟨as,q⟩:=ih _ r
  exact ⟨_,.list g rfl rfl q⟩
 have k7:∀v,aD C ρ h [] v→∃as,ReadsAll h v (D.pys []) as:=fun v r=>by obtain rfl:=r.inv;exact ⟨_,.nil⟩
 have k8:∀{x xs d ds},Rd hp x d→Rds hp xs ds→(∀v,Rep C ρ h x v→∃as,Reads h v d.py as)→(∀v,aD C ρ h xs v→∃as,ReadsAll h v (D.pys ds) as)→∀v,aD C ρ h (x::xs) v→∃as,ReadsAll h v (D.pys (d::ds)) as:=fun _ _ i1 i2 v r=>by
  obtain ⟨w,ws,rfl,a,b⟩:=r.inv
  obtain ⟨as,q⟩:=i1 _ a
  obtain ⟨bs,q'⟩:=i2 _ b
  exact ⟨_,.cons q q'⟩
 exact ⟨fun r=>Rd.rec (motive_1:=fun x d _=>∀v,Rep C ρ h x v→∃as,Reads h v d.py as) (motive_2:=fun x d _=>∀v,aD C ρ h x v→∃as,ReadsAll h v (D.pys d) as) k1 k2 k3 k4 k5 k6 k7 k8 r,
  fun r=>Rds.rec (motive_1:=fun x d _=>∀v,Rep C ρ h x v→∃as,Reads h v d.py as) (motive_2:=fun x d _=>∀v,aD C ρ h x v→∃as,ReadsAll h v (D.pys d) as) k1 k2 k3 k4 k5 k6 k7 k8 r⟩
theorem Rd.reads (H:Hp C ρ hp h){x:MV}{d:D}{v:Value}(r:Rd hp x d)(q:Rep C ρ h x v):∃as,Reads h v d.py as:=(Rd.both H).1 r v q
inductive fB (s:Shared)(P:Bool→Prop)(r:Value)(s':Shared):Prop
 | mk (b:Bool) (t:Nat) (hr:r=.bool b) (hs:s'={ s with toks:=t }) (hp:P b):fB s P r s'
theorem BO (R:Hp C ρ hp s.heap){x y:MV}{v w:Value}(hx:Rep C ρ s.heap x v)(hy:Rep C ρ s.heap y w){d e:D}(hd:Rd hp x d)(he:Rd hp y e)(hk:d.deep≤1000)(h1:d.ok=true)(h2:e.ok=true)
  (hu:A.units+1000<cLine) {P:Bool→Prop}(h:P (d.deq e)):wpAny (mod C) A (compareOp .Eq v w) (fB s P) E s:=by
 obtain ⟨as,ra⟩:=hd.reads R hx
 obtain ⟨bs,rb⟩:=he.reads R hy
 refine SeqAt.compareEq_reads ra rb (d.lay_py h1) (e.lay_py h2) ?_ ⟨_,s.toks,rfl,rfl,?_⟩
 ·rw [D.depth_py,D.depth_py];exact Nat.lt_of_le_of_lt (Nat.add_le_add_left (Nat.le_trans (Nat.min_le_left ..) hk) _) hu
 ·rw [D.eqv_py];exact h
theorem BP (R:Hp C ρ hp s.heap){x y:MV}{v w:Value}(hx:Rep C ρ s.heap x v)(hy:Rep C ρ s.heap y w){d e:D}(hd:Rd hp x d)(he:Rd hp y e)(hk:d.deep≤1000)(h1:d.ok=true)(h2:e.ok=true)
  (hu:A.units+1000<cLine) {P:Bool→Prop}(h:P (!d.deq e)):wpAny (mod C) A (compareOp .NotEq v w) (fB s P) E s:=by
 obtain ⟨as,ra⟩:=hd.reads R hx
 obtain ⟨bs,rb⟩:=he.reads R hy
 refine SeqAt.compareNe_reads ra rb (d.lay_py h1) (e.lay_py h2) ?_ ⟨_,s.toks,rfl,rfl,?_⟩
 ·rw [D.depth_py,D.depth_py];exact Nat.lt_of_le_of_lt (Nat.add_le_add_left (Nat.le_trans (Nat.min_le_left ..) hk) _) hu
 ·rw [D.eqv_py];exact h
open SeqAt in
theorem uU {x y:MV}{v w:Value}(hx:Rep C ρ s.heap x v)(hy:Rep C ρ s.heap y w){b:Bool}(h:aeq x y=some b):RcAt A s v w b∧RcNeAt A s v w (!b):=by
 refine Classical.byContradiction fun hn=>?_
 have key:∀{c:Bool},RcAt A s v w c∧RcNeAt A s v w (!c)→some c=some b→False:=fun {c} q e=>by obtain rfl:=Option.some.inj e;exact hn q
 clear hn
 cases x with
 | none=>
  cases hx.inv
  cases y with
  | none=>cases hy.inv;exact key ⟨RcAt.none_none,RcNeAt.none_none⟩ h
  | bool q=>cases hy.inv;exact key ⟨RcAt.none_bool q,RcNeAt.none_bool q⟩ h
  | int q=>obtain ⟨t,rfl⟩:=hy.inv;exact key ⟨RcAt.none_int q t,RcNeAt.none_int q t⟩ h
  | str q=>obtain ⟨t,rfl,_⟩:=hy.inv;exact key ⟨RcAt.none_str (Internal.str q) t,RcNeAt.none_str (Internal.str q) t⟩ h
  | _=>exact aw h
 | bool p=>
  cases hx.inv
  cases y with
  | none=>cases hy.inv;exact key ⟨RcAt.bool_none p,RcNeAt.bool_none p⟩ h
  | bool q=>cases hy.inv;exact key ⟨RcAt.bool_bool p q,RcNeAt.bool_bool p q⟩ h
  | str q=>obtain ⟨t,rfl,_⟩:=hy.inv;exact key ⟨RcAt.bool_str p (Internal.str q) t,RcNeAt.bool_str p (Internal.str q) t⟩ h
  | _=>exact aw h
 | int p=>
  obtain ⟨u,rfl⟩:=hx.inv
  cases y with
  | none=>cases hy.inv;exact key ⟨RcAt.int_none p u,RcNeAt.int_none p u⟩ h
  | int q=>obtain ⟨t,rfl⟩:=hy.inv;exact key ⟨RcAt.int_int p u q t,RcNeAt.int_int p u q t⟩ h
  | str q=>obtain ⟨t,rfl,_⟩:=hy.inv;exact key ⟨RcAt.int_str p u (Internal.str q) t,RcNeAt.int_str p u (Internal.str q) t⟩ h
  | _=>exact aw h
 | str p=>
  obtain ⟨u,rfl,_⟩:=hx.inv
  cases y with
  | none=>cases hy.inv;exact key ⟨RcAt.str_none (Internal.str p) u,RcNeAt.str_none (Internal.str p) u⟩ h
  | bool q=>cases hy.inv;exact key ⟨RcAt.str_bool (Internal.str p) u q,RcNeAt.str_bool (Internal.str p) u q⟩ h
  | int q=>obtain ⟨t,rfl⟩:=hy.inv;exact key ⟨RcAt.str_int (Internal.str p) u q t,RcNeAt.str_int (Internal.str p) u q t⟩ h
  | str q=>obtain ⟨t,rfl,_⟩:=hy.inv;exact key ⟨RcAt.str_str (Internal.str p) u (Internal.str q) t,RcNeAt.str_str (Internal.str p) u (Internal.str q) t⟩ ((congrArg some kC).trans h)
  | _=>exact aw h
 | _=>exact aw h
end
end Internal
end
section
namespace Internal
open PySem
structure GX (C:Glo):Prop where
 nox:∀k,C.xa k=none
end Internal
end
section
namespace Internal
open PySem
structure GOk (C:Glo):Prop where
 sys:(C.base.get? sysModules).isSome=true
 nolimit:C.base.NoLimit
 fns:∀f a,C.fa f=some a→∃o fd,C.base.get? a=some o∧o.data=.func fd
 cls:∀k K,C.ca k=some K→∃N,PyProof.Rows.ClsAt C.base K N (C.cm k)
 quiet:∀k K,C.ca k=some K→C.cm k "__setattr__"=none∧C.cm k "__getattribute__"=none∧C.cm k "__getattr__"=none
 x:GX C
section
variable {C:Glo}{F:Fm}{X:XM}{ρ:List Addr}{m:MS}{s:Shared}{E:Value→Shared→Prop}{A:Around}{h:Heap}{hp:List MO}
theorem j7 (G:GOk C)(H:Hp C ρ hp h){a:Addr}(ha:a∈ρ):(a==sysModules)=false:=by
 have:=H.fresh a ha
 cases e:a==sysModules with
 | false=>rfl
 | true=>
  have:a=sysModules:=by simpa using e
  subst this
  have g:=G.sys
  rw [H.fresh _ ha] at g
  exact ff g
theorem dH.length {es:List (List Nat × MV)}{kvs:List (Str × Value)}(r:dH C ρ h es kvs):kvs.length=es.length:=by
 induction r with
 | nil=>rfl
 | cons _ _ _ ih=>exact congrArg (·+1) ih
theorem ik {x y:List Nat}(e:str x=str y):x=y:=by
 have:(str x).cps.toList=(str y).cps.toList:=by rw [e]
 simpa using this
theorem dH.get {es:List (List Nat × MV)}{kvs:List (Str × Value)}(r:dH C ρ h es kvs)(k:List Nat):match bf es k with
  | some x=>∃v,valueAt kvs (str k)=some v∧Rep C ρ h x v
  | none=>valueAt kvs (str k)=none:=by
 induction r with
 | nil=>rfl
 | @cons k' x v es ds z a b ih=>
  show match (match k'==k with
   | true=>some x
   | false=>bf es k) with
  | some x=>∃v',valueAt ((str k',v)::ds) (str k)=some v'∧Rep C ρ h x v'
  | none=>valueAt ((str k',v)::ds) (str k)=none
  by_cases e:k'=k
  ·subst e
   rw [beq_self_eq_true]
   exact ⟨v,by simp [valueAt],a⟩
  ·have e2:¬ str k'=str k:=fun q=>e (ik q)
   have e1:(k'==k)=false:=by simpa using e
   have ev:valueAt ((str k',v)::ds) (str k)=valueAt ds (str k):=by simp [valueAt,e2]
   rw [e1,ev]
   exact ih
end
end Internal
end
section
namespace Internal
open PySem
section
variable {C:Glo}{F:Fm}{X:XM}{ρ:List Addr}{m:MS}{s:Shared}{E:Value→Shared→Prop}{A:Around}{h:Heap}{hp:List MO}
theorem mH (hud:DX=true)(G:GOk C)(R:Hp C ρ hp s.heap){i j:Nat}{v w:Value}(hx:Rep C ρ s.heap (.ref i) v)(hy:Rep C ρ s.heap (.ref j) w){es:List (List Nat × MV)}(hi:hp[i]?=some (.dict es))(hj:hp[j]?=some (.dict es))
  (hl:∀e∈es,∃k,e.2=.int k) (hn:(es.map (·.1)).Nodup) (hu:A.units<cLine) {Q:Value→Shared→Prop} :
  (Q (.bool true) s→wpAny (mod C) A (compareOp .Eq v w) Q E s)∧(Q (.bool false) s→wpAny (mod C) A (compareOp .NotEq v w) Q E s):=absurd hud (by decide)
end
end Internal
end
section
namespace Internal
open PySem
section
variable {C:Glo}{F:Fm}{X:XM}{ρ:List Addr}{m:MS}{s:Shared}{Q:PQ}{E:Value→Shared→Prop}{A:Around}{h:Heap}{hp:List MO}
noncomputable def El (hp:List MO)(xs:List MV)(ds:List D):Prop:=match xs with
 | []=>ds=[]
 | x::r=>∃d es,ds=d::es∧Rd hp x d∧Rds hp r es
theorem Rds.inv {xs:List MV}{ds:List D}(r:Rds hp xs ds):El hp xs ds:=Rds.casesOn (motive_2:=fun xs ds _=>El hp xs ds) r rfl (fun a b=>⟨_,_,rfl,a,b⟩)
theorem Rds.get {xs:List MV}{ds:List D}(r:Rds hp xs ds){j:Nat}{x:MV}(e:xs[j]?=some x):∃d,ds[j]?=some d∧Rd hp x d:=by
 induction xs generalizing ds j with
 | nil=>exact aw e
 | cons y xs ih=>
  obtain ⟨d,es,rfl,a,b⟩:=r.inv
  cases j with
  | zero=>obtain rfl:=Option.some.inj e;exact ⟨_,rfl,a⟩
  | succ j=>exact ih b e
theorem Rds.length {xs:List MV}{ds:List D}(r:Rds hp xs ds):ds.length=xs.length:=by
 induction xs generalizing ds with
 | nil=>rw [r.inv];rfl
 | cons y xs ih=>
  obtain ⟨d,es,rfl,a,b⟩:=r.inv
  exact congrArg (·+1) (ih b)
theorem rm:∀{ds:List D},D.oks ds=true→∀{j:Nat}{d:D},ds[j]?=some d→d.ok=true
 | [],_,_,_,e=>by exact aw e
 | d::ds,h,0,_,e=>by obtain rfl:=Option.some.inj e;exact ((Bool.and_eq_true_iff ..).mp h).1
 | d::ds,h,i+1,_,e=>rm ((Bool.and_eq_true_iff ..).mp h).2 e
theorem BQ (H:Hp C ρ hp s.heap){x y:MV}{v w:Value}(hx:Rep C ρ s.heap x v)(hy:Rep C ρ s.heap y w){d e:D}(hd:Rd hp x d)(he:Rd hp y e)(hk:e.deep≤1000)(h1:d.ok=true)(h2:e.ok=true)
  (hu:A.units+1000<cLine):SeqAt.EqAt A s v w (d.deq e):=by
 obtain ⟨as,ra⟩:=hd.reads H hx
 obtain ⟨bs,rb⟩:=he.reads H hy
 rw [←D.eqv_py]
 exact SeqAt.eqAt_reads _ _ A s v w _ _ ra rb (d.lay_py h1) (e.lay_py h2) (by rw [D.depth_py,D.depth_py];exact Nat.lt_of_le_of_lt (Nat.add_le_add_left (Nat.le_trans (Nat.min_le_right ..) hk) _) hu)
open Classical in
theorem sR (H:Hp C ρ hp s.heap){x:MV}{v:Value}{ys:List MV}{ws:List Value}(hx:Rep C ρ s.heap x v)(hy:aD C ρ s.heap ys ws){d:D}{es:List D}(hd:Rd hp x d)(he:Rds hp ys es)(hk:d.deep≤1000)
  (h1:d.ok=true) (h2:D.oks es=true) (hu:A.units+1000<cLine) :
  ∃e:Value→Bool,(∀y,y∈ws.toArray→SeqAt.EqAt A s y v (e y))∧ws.toArray.any e=es.any (fun e=>e.deq d):=by
 have item:∀j y,ws[j]?=some y→∃e:D,es[j]?=some e∧SeqAt.EqAt A s y v (e.deq d):=fun j y hj=>by
  have hlt:j<ys.length:=by rw [←hy.length];exact (List.getElem?_eq_some_iff.mp hj).1
  obtain ⟨e,e1,e2⟩:=he.get (List.getElem?_eq_getElem hlt)
  obtain ⟨w,w1,w2⟩:=hy.get (List.getElem?_eq_getElem hlt)
  obtain rfl:=same hj w1
  exact ⟨e,e1,BQ H w2 hx e2 hd hk (rm h2 e1) h1 hu⟩
 refine ⟨fun y=>decide (∃(j:Nat) (e:D),ws[j]?=some y∧es[j]?=some e∧e.deq d=true),fun y hy'=>?_,?_⟩
 ·obtain ⟨j,hj⟩:=List.mem_iff_getElem?.mp (by simpa using hy':y∈ws)
  obtain ⟨e,e1,e2⟩:=item j y hj
  show SeqAt.EqAt A s y v (decide (∃(j:Nat) (e:D),ws[j]?=some y∧es[j]?=some e∧e.deq d=true))
  by_cases q:∃(j:Nat) (e:D),ws[j]?=some y∧es[j]?=some e∧e.deq d=true
  ·rw [decide_eq_true q]
   obtain ⟨k,e',k1,k2,k3⟩:=q
   obtain ⟨e'',e3,e4⟩:=item k y k1
   obtain rfl:=same k2 e3
   rw [k3] at e4;exact e4
  ·rw [decide_eq_false q]
   cases b:e.deq d with
   | false=>rw [b] at e2;exact e2
   | true=>exact absurd ⟨j,e,hj,e1,b⟩ q
 ·rw [Bool.eq_iff_iff]
  simp only [List.any_toArray,List.any_eq_true,decide_eq_true_eq]
  constructor
  ·rintro ⟨y,_,j,e,_,h4,h5⟩
   exact ⟨e,List.mem_of_getElem? h4,h5⟩
  ·rintro ⟨e,he',h5⟩
   obtain ⟨j,hj⟩:=List.mem_iff_getElem?.mp he'
   have hlt:j<ws.length:=by rw [hy.length,←he.length];exact (List.getElem?_eq_some_iff.mp hj).1
   exact ⟨ws[j],List.getElem_mem hlt,j,e,List.getElem?_eq_getElem hlt,hj,h5⟩
theorem qf {x:MV}{v:Value}{ys:List MV}{ws:List Value}{a:Addr}(H:Hp C ρ hp s.heap)(hx:Rep C ρ s.heap x v)(l:aD C ρ s.heap ys ws){P:Bool→Prop}(hu:A.units+1001<cLine)(h:InP hp x ys P)
  (k:∀e:Value→Bool,(∀y,y∈ws.toArray→SeqAt.EqAt A.in1 s y v (e y))→fB s P (.bool (ws.toArray.any e)) s→wpAny (mod C) A (compareOp .In v (.ref a)) (fB s P) E s):wpAny (mod C) A (compareOp .In v (.ref a)) (fB s P) E s:=by
 obtain ⟨d,es,hd,he,hk,h1,h2,hq⟩:=h
 obtain ⟨e,e1,e2⟩:=sR (A:=A.in1) H hx l hd he hk h1 h2 (by simp;exact hu)
 exact k e e1 ⟨_,s.toks,rfl,rfl,by rw [e2];exact hq⟩
theorem fC (prog:Program)(w:World)(x:Str)(t:Tok):(strKind prog w).is x (.str x t)=true:=by simp [strKind,Value.isStrOf]
theorem ro (H:Hp C ρ hp s.heap){x:MV}{v:Value}{a:Addr}{es:List (List Nat × MV)}{kvs:List (Str × Value)}(hx:Rep C ρ s.heap x v)(hs:(a==sysModules)=false)(dk:s.heap.DictOf (strKind C.prog C.w) a kvs)(rk:dH C ρ s.heap es kvs){P:Bool→Prop}(h:onS x fun s=>P (bf es s).isSome) :
  wpAny (mod C) A (compareOp .In v (.ref a)) (fB s P) E s:=by
 obtain ⟨k,rfl,hq⟩:=nt h
 obtain ⟨t,rfl,_⟩:=hx.inv
 refine wpAny_in_of (fC C.prog C.w (str k) t) hs dk.mapOf ⟨_,s.toks+1,rfl,rfl,?_⟩
 have:=rk.get k
 cases e:bf es k with
 | none=>rw [e] at this hq;rw [this];exact hq
 | some x=>rw [e] at this hq;obtain ⟨v,e',_⟩:=this;rw [e'];exact hq
theorem BR (G:GOk C)(H:Hp C ρ hp s.heap){x:MV}{i:Nat}{v w:Value}(hx:Rep C ρ s.heap x v)(hc:Rep C ρ s.heap (.ref i) w){P:Bool→Prop}(hu:A.units+1001<cLine)(h:AO hp[i]? x P hp) :
  wpAny (mod C) A (compareOp .In v w) (fB s P) E s:=by
 obtain ⟨a,rfl,g⟩:=hc.inv
 obtain ⟨ys,hi,h⟩ | ⟨es,hi,h⟩:=ig h
 ·obtain ⟨items,n,gi,l,_⟩:=H.objs _ _ _ hi g
  exact qf H hx l hu h fun e e1 e2=>SeqAt.in_listAt e ⟨_,gi,rfl,_,rfl⟩ e1 e2
 ·obtain ⟨kvs,dk,rk,_⟩:=H.objs _ _ _ hi g
  exact ro H hx (j7 G H (List.mem_of_getElem? g)) dk rk h
theorem AW (G:GOk C)(H:Hp C ρ hp s.heap){x c:MV}{v w:Value}(hx:Rep C ρ s.heap x v)(hc:Rep C ρ s.heap c w){P:Bool→Prop}(hu:A.units+1001<cLine)(h:BD x c P hp) :
  wpAny (mod C) A (compareOp .In v w) (fB s P) E s:=by
 refine Classical.byContradiction fun hn=>?_
 cases c with
 | tup ys=>
  obtain ⟨a,n,items,rfl,g,l,_⟩:=hc.inv
  exact hn (qf H hx l hu h fun e e1 e2=>SeqAt.in_tupleAt e ⟨_,g,rfl,_,rfl⟩ e1 e2)
 | gt ss=>
  obtain ⟨a,o,items,n,rfl,g,g1,g2,l⟩:=hc.inv
  exact hn (qf H hx l hu h fun e e1 e2=>SeqAt.in_tupleAt e ⟨_,H.base _ _ g,g1,_,g2⟩ e1 e2)
 | ref i=>exact hn (BR G H hx hc hu h)
 | cdict es=>
  obtain ⟨a,kvs,rfl,hs,⟨o,ds,ep,e,r⟩,ck⟩:=hc.inv
  exact hn (ro H hx hs ⟨o,ds,ep,H.base _ _ e,r⟩ ck.rep h)
 | str s'=>
  obtain ⟨t,rfl,_⟩:=hc.inv
  obtain ⟨y,rfl,h1⟩:=nt h
  obtain ⟨a,rfl,h2⟩:=yw h1
  obtain ⟨u,rfl,_⟩:=hx.inv
  refine hn (PySem.P.in_str ⟨_,s.toks,rfl,rfl,?_⟩)
  rw [show _=_ from StrLaws.found_one (str s') a]
  simpa using h2
 | _=>exact h
theorem uV {v w:Value}{P:Bool→Prop}(h:wpAny (mod C) A (compareOp .In v w) (fB s (fun b=>P (!b))) E s):wpAny (mod C) A (compareOp .NotIn v w) (fB s P) E s:=fun Γ p hΓ=>by
 have this:Sem.wp _ Γ (contains w v >>= fun b=>pure (Value.bool b)) _ _ p s:=h Γ p hΓ
 show Sem.wp _ Γ (contains w v >>= fun b=>pure (Value.bool (!b))) _ _ p s
 rw [Sem.wp_bind'] at this ⊢
 refine Sem.wp_mono _ Γ _ (fun b p' s' h'=>?_) (fun _ _ _ h'=>h') _ _ this
 obtain ⟨b',t,e1,e2,e3⟩:=h'
 cases e1
 exact ⟨_,t,rfl,e2,e3⟩
noncomputable def gO:Cmp→CmpOp
 | .eq=>.Eq | .ne=>.NotEq | .lt=>.Lt | .le=>.LtE | .gt=>.Gt | .ge=>.GtE | .inn=>.In | .nin=>.NotIn
open SeqAt in
theorem uW (H:Hp C ρ hp s.heap){i j:Nat}{xs:List MV}{v w:Value}(hx:Rep C ρ s.heap (.ref i) v)(hy:Rep C ρ s.heap (.ref j) w)(hi:hp[i]?=some (.list xs))(hj:hp[j]?=some (.list []))(hu:A.units<cLine){P:Value→Shared→Prop} :
  (P (.bool xs.isEmpty) s→wpAny (mod C) A (compareOp .Eq v w) P E s)∧(P (.bool (!xs.isEmpty)) s→wpAny (mod C) A (compareOp .NotEq v w) P E s):=by
 obtain ⟨a,rfl,g⟩:=hx.inv
 obtain ⟨b,rfl,g'⟩:=hy.inv
 obtain ⟨items,n,gi,l,_⟩:=H.objs _ _ _ hi g
 obtain ⟨items',n',gi',l',_⟩:=H.objs _ _ _ hj g'
 obtain rfl:=l'.inv
 have hl:s.heap.IsList _ items.toArray:=⟨_,gi,rfl,_,rfl⟩
 have hl':s.heap.IsList _ ([]:List Value).toArray:=⟨_,gi',rfl,_,rfl⟩
 cases xs with
 | nil=>
  obtain rfl:=l.inv
  exact ⟨RcAt.lists (e:=fun _=>true) hl hl' rfl hu (fun j h=>absurd h (Nat.not_lt_zero j)) _ _ _ _,RcNeAt.lists (e:=fun _=>true) hl hl' rfl hu (fun j h=>absurd h (Nat.not_lt_zero j)) _ _ _ _⟩
 | cons x xs=>
  obtain ⟨v,ws,rfl,_⟩:=l.inv
  exact ⟨RcAt.lists_lengths hl hl' rfl hu _ _ _ _,RcNeAt.lists_lengths hl hl' rfl hu _ _ _ _⟩
theorem uX (G:GOk C)(H:Hp C ρ m.heap s.heap){op:Cmp}{x y:MV}{v w:Value}(hx:Rep C ρ s.heap x v)(hy:Rep C ρ s.heap y w){P:Bool→MS→Prop}(hu:A.units+1001<cLine)(h:ij op x y P m) :
  wpAny (mod C) A (compareOp (gO op) v w) (fB s (fun b=>P b m)) E s:=by
 have hu':A.units<cLine:=Nat.lt_of_le_of_lt (Nat.le_add_right ..) hu
 have hu2:A.units+1000<cLine:=Nat.lt_of_succ_lt hu
 have out:∀{b:Bool},P b m→fB s (fun b=>P b m) (.bool b) s:=fun h=>⟨_,s.toks,rfl,rfl,h⟩
 cases op with
 | eq=>
  obtain ⟨b,e,h⟩ | h:=rg h
  ·exact (uU (A:=A) hx hy e).1 _ _ _ _ (out h)
  ·obtain ⟨d,e,hd,he,hk,h1,h2,hq⟩ | ⟨hud,i,j,es,rfl,rfl,hi,hj,hl,hn,hq⟩ | ⟨i,j,xs,rfl,rfl,hi,hj,hq⟩:=h
   ·exact BO H hx hy hd he hk h1 h2 hu2 hq
   ·exact (mH hud G H hx hy hi hj hl hn hu').1 (out hq)
   ·exact (uW H hx hy hi hj hu').1 (out hq)
 | ne=>
  obtain ⟨b,e,h⟩ | h:=rg h
  ·exact (uU (A:=A) hx hy e).2 _ _ _ _ (out h)
  ·obtain ⟨d,e,hd,he,hk,h1,h2,hq⟩ | ⟨hud,i,j,es,rfl,rfl,hi,hj,hl,hn,hq⟩ | ⟨i,j,xs,rfl,rfl,hi,hj,hq⟩:=h
   ·exact BP H hx hy hd he hk h1 h2 hu2 hq
   ·exact (mH hud G H hx hy hi hj hl hn hu').2 (out hq)
   ·exact (uW H hx hy hi hj hu').2 (out hq)
 | lt=>obtain ⟨a,b,t,u,rfl,rfl,h⟩:=gc hx hy h;exact wpAny_lt_int (out h)
 | le=>obtain ⟨a,b,t,u,rfl,rfl,h⟩:=gc hx hy h;exact PyProof.Rows.le_int (out h)
 | gt=>obtain ⟨a,b,t,u,rfl,rfl,h⟩:=gc hx hy h;exact PyProof.Rows.gt_int (out h)
 | ge=>obtain ⟨a,b,t,u,rfl,rfl,h⟩:=gc hx hy h;exact PyProof.Rows.ge_int (out h)
 | inn=>exact AW G H hx hy hu h
 | nin=>exact uV (AW G H hx hy hu h)
end
end Internal
end
section
namespace Internal
open PySem
noncomputable def uY:Pos:=⟨0,0,0,0⟩
noncomputable def noE:Expr:=.Constant .none 0 uY
set_option genCtorIdx false in
structure V where
 tag:Nat
 p:Pos:=uY
 e1:Expr:=noE
 e2:Expr:=noE
 xs:List Expr:=[]
 s:Str:=⟨#[]⟩
 n:Nat:=0
 k:Const:=.none
 o:Operator:=.Add
 u:UnaryOp:=.Not
 b:BoolOp:=.And
 cs:List CmpOp:=[]
 ks:List Keyword:=[]
 o1:Option Expr:=none
 o2:Option Expr:=none
 o3:Option Expr:=none
 os:List (Option Expr):=[]
 gs:List Comprehension:=[]
 sc:Scope:=⟨.function,[],false,false,[]⟩
noncomputable def view:Expr→V
 | .Constant k n p=>{ tag:=0,k,n,p }
 | .Name s p=>{ tag:=1,s,p }
 | .BinOp e1 o e2 p=>{ tag:=2,e1,o,e2,p }
 | .UnaryOp u e1 p=>{ tag:=3,u,e1,p }
 | .BoolOp b xs p=>{ tag:=4,b,xs,p }
 | .Compare e1 cs xs p=>{ tag:=5,e1,cs,xs,p }
 | .Call e1 xs ks p=>{ tag:=6,e1,xs,ks,p }
 | .Attribute e1 s p=>{ tag:=7,e1,s,p }
 | .Subscript e1 e2 p=>{ tag:=8,e1,e2,p }
 | .Slice o1 o2 o3 p=>{ tag:=9,o1,o2,o3,p }
 | .List xs p=>{ tag:=10,xs,p }
 | .Tuple xs n p=>{ tag:=11,xs,n,p }
 | .Dict os xs p=>{ tag:=12,os,xs,p }
 | .ListComp e1 gs sc p=>{ tag:=13,e1,gs,sc,p }
 | _=>{ tag:=14 }
noncomputable def back (v:V):Nat→Option Expr
 | 0=>some (.Constant v.k v.n v.p)
 | 1=>some (.Name v.s v.p)
 | 2=>some (.BinOp v.e1 v.o v.e2 v.p)
 | 3=>some (.UnaryOp v.u v.e1 v.p)
 | 4=>some (.BoolOp v.b v.xs v.p)
 | 5=>some (.Compare v.e1 v.cs v.xs v.p)
 | 6=>some (.Call v.e1 v.xs v.ks v.p)
 | 7=>some (.Attribute v.e1 v.s v.p)
 | 8=>some (.Subscript v.e1 v.e2 v.p)
 | 9=>some (.Slice v.o1 v.o2 v.o3 v.p)
 | 10=>some (.List v.xs v.p)
 | 11=>some (.Tuple v.xs v.n v.p)
 | 12=>some (.Dict v.os v.xs v.p)
 | 13=>some (.ListComp v.e1 v.gs v.sc v.p)
 | _=>none
theorem yF (e:Expr):∀x,back (view e) (view e).tag=some x→e=x:=by
 cases e<;>first | exact fun x h=>Option.some.inj h | exact fun x h=>nomatch h
theorem bh {e:Expr}{n:Nat}{x:Expr}(h:(view e).tag=n)(hx:back (view e) n=some x):e=x:=yF e x (h▸hx)
set_option tactic.hygienic true in
theorem bo {α:Type}{n m:Nat}{a b:α}(h:(if n=m then some a else none)=some b):n=m∧a=b:=by
 split at h
 ·rename_i q;exact ⟨q,Option.some.inj h⟩
 ·exact aw h
noncomputable def ak {α:Type}(o:Option α)(f:α→Bool):Bool:=match o with
 | some a=>f a
 | none=>false
theorem ae {α:Type}{o:Option α}{f:α→Bool}(h:ak o f=true):∃a,o=some a∧f a=true:=by
 cases o with
 | none=>exact ff h
 | some a=>exact ⟨a,rfl,h⟩
noncomputable def one {α:Type}(xs:List α):Option α:=match xs with
 | [x]=>some x
 | _=>none
theorem bE {α:Type}{xs:List α}{x:α}(h:one xs=some x):xs=[x]:=by
 rcases xs with _ | ⟨a,_ | ⟨b,r⟩⟩
 ·exact aw h
 ·exact congrArg (·::[]) (Option.some.inj h)
 ·exact aw h
noncomputable def two {α:Type}(xs:List α):Option (α × α):=match xs with
 | [x,y]=>some (x,y)
 | _=>none
theorem nE {α:Type}{xs:List α}{x y:α}(h:two xs=some (x,y)):xs=[x,y]:=by
 rcases xs with _ | ⟨a,_ | ⟨b,_ | ⟨c,r⟩⟩⟩
 ·exact aw h
 ·exact aw h
 ·obtain ⟨rfl,rfl⟩:=Prod.mk.inj (Option.some.inj h);rfl
 ·exact aw h
noncomputable def nF (e:Expr):Option Const:=if (view e).tag=0 then some (view e).k else none
noncomputable def dK (e:Expr):Option Str:=if (view e).tag=1 then some (view e).s else none
noncomputable def Em (e:Expr):Option (Expr × Operator × Expr):=if (view e).tag=2 then some ((view e).e1,(view e).o,(view e).e2) else none
noncomputable def xUn (e:Expr):Option (UnaryOp × Expr):=if (view e).tag=3 then some ((view e).u,(view e).e1) else none
noncomputable def uZ (e:Expr):Option (BoolOp × List Expr):=if (view e).tag=4 then some ((view e).b,(view e).xs) else none
noncomputable def yG (e:Expr):Option (Expr × List CmpOp × List Expr):=if (view e).tag=5 then some ((view e).e1,(view e).cs,(view e).xs) else none
noncomputable def u0 (e:Expr):Option (Expr × List Expr × List Keyword × Pos):=if (view e).tag=6 then some ((view e).e1,(view e).xs,(view e).ks,(view e).p) else none
noncomputable def rq (e:Expr):Option (Expr × Str × Pos):=if (view e).tag=7 then some ((view e).e1,(view e).s,(view e).p) else none
noncomputable def yH (e:Expr):Option (Expr × Expr):=if (view e).tag=8 then some ((view e).e1,(view e).e2) else none
noncomputable def u1 (e:Expr):Option (Option Expr × Option Expr × Option Expr):=if (view e).tag=9 then some ((view e).o1,(view e).o2,(view e).o3) else none
noncomputable def AX (e:Expr):Option (List Expr):=if (view e).tag=10 then some (view e).xs else none
noncomputable def qg (e:Expr):Option (List Expr):=if (view e).tag=11 then some (view e).xs else none
noncomputable def AY (e:Expr):Option (List (Option Expr) × List Expr):=if (view e).tag=12 then some ((view e).os,(view e).xs) else none
noncomputable def xLC (e:Expr):Option (Expr × List Comprehension × Scope):=if (view e).tag=13 then some ((view e).e1,(view e).gs,(view e).sc) else none
section
variable {e:Expr}
theorem jh {k:Const}(h:nF e=some k):∃a b,e=.Constant k a b:=by
 obtain ⟨h1,h2⟩:=bo h
 cases h2
 exact ⟨_,_,bh h1 rfl⟩
theorem bN {x:Str}(h:dK e=some x):∃p,e=.Name x p:=by
 obtain ⟨h1,h2⟩:=bo h
 cases h2
 exact ⟨_,bh h1 rfl⟩
theorem yI {l r:Expr}{o:Operator}(h:Em e=some (l,o,r)):∃p,e=.BinOp l o r p:=by
 obtain ⟨h1,h2⟩:=bo h
 cases h2
 exact ⟨_,bh h1 rfl⟩
theorem nG {o:UnaryOp}{x:Expr}(h:xUn e=some (o,x)):∃p,e=.UnaryOp o x p:=by
 obtain ⟨h1,h2⟩:=bo h
 cases h2
 exact ⟨_,bh h1 rfl⟩
theorem il {o:BoolOp}{xs:List Expr}(h:uZ e=some (o,xs)):∃p,e=.BoolOp o xs p:=by
 obtain ⟨h1,h2⟩:=bo h
 cases h2
 exact ⟨_,bh h1 rfl⟩
theorem gh {l:Expr}{os:List CmpOp}{rs:List Expr}(h:yG e=some (l,os,rs)):∃p,e=.Compare l os rs p:=by
 obtain ⟨h1,h2⟩:=bo h
 cases h2
 exact ⟨_,bh h1 rfl⟩
theorem oJ {f:Expr}{xs:List Expr}{ks:List Keyword}{p:Pos}(h:u0 e=some (f,xs,ks,p)):e=.Call f xs ks p:=by
 obtain ⟨h1,h2⟩:=bo h
 cases h2
 exact bh h1 rfl
theorem kD {v:Expr}{n:Str}{p:Pos}(h:rq e=some (v,n,p)):e=.Attribute v n p:=by
 obtain ⟨h1,h2⟩:=bo h
 cases h2
 exact bh h1 rfl
theorem j8 {v i:Expr}(h:yH e=some (v,i)):∃p,e=.Subscript v i p:=by
 obtain ⟨h1,h2⟩:=bo h
 cases h2
 exact ⟨_,bh h1 rfl⟩
theorem sS {l u st:Option Expr}(h:u1 e=some (l,u,st)):∃p,e=.Slice l u st p:=by
 obtain ⟨h1,h2⟩:=bo h
 cases h2
 exact ⟨_,bh h1 rfl⟩
theorem u2 {xs:List Expr}(h:AX e=some xs):∃p,e=.List xs p:=by
 obtain ⟨h1,h2⟩:=bo h
 cases h2
 exact ⟨_,bh h1 rfl⟩
theorem im {xs:List Expr}(h:qg e=some xs):∃k p,e=.Tuple xs k p:=by
 obtain ⟨h1,h2⟩:=bo h
 cases h2
 exact ⟨_,_,bh h1 rfl⟩
theorem u3 {ks:List (Option Expr)}{vs:List Expr}(h:AY e=some (ks,vs)):∃p,e=.Dict ks vs p:=by
 obtain ⟨h1,h2⟩:=bo h
 cases h2
 exact ⟨_,bh h1 rfl⟩
theorem nH {x:Expr}{gs:List Comprehension}{sc:Scope}(h:xLC e=some (x,gs,sc)):∃p,e=.ListComp x gs sc p:=by
 obtain ⟨h1,h2⟩:=bo h
 cases h2
 exact ⟨_,bh h1 rfl⟩
end
noncomputable def xFn (e:Expr):Option (Str × List Expr × Pos):=(u0 e).bind fun q=>match q.2.2.1 with
 | []=>(dK q.1).map fun x=>(x,q.2.1,q.2.2.2)
 | _=>none
theorem g6 {e:Expr}{x:Str}{xs:List Expr}{p:Pos}(h:xFn e=some (x,xs,p)):∃px,e=.Call (.Name x px) xs [] p:=by
 unfold xFn at h
 obtain ⟨⟨f,ys,ks,q⟩,h1,h2⟩:=Option.bind_eq_some_iff.mp h
 cases ks with
 | nil=>
  obtain ⟨y,h3,h4⟩:=Option.map_eq_some_iff.mp h2
  obtain ⟨px,rfl⟩:=bN h3
  cases h4
  exact ⟨px,oJ h1⟩
 | cons=>exact aw h2
noncomputable def mI (e:Expr):Option ((Expr × Str × Pos) × List Expr × Pos):=(u0 e).bind fun q=>match q.2.2.1 with
 | []=>(rq q.1).map fun x=>(x,q.2.1,q.2.2.2)
 | _=>none
theorem oK {e:Expr}{v:Expr}{n:Str}{p:Pos}{xs:List Expr}{q:Pos}(h:mI e=some ((v,n,p),xs,q)):e=.Call (.Attribute v n p) xs [] q:=by
 unfold mI at h
 obtain ⟨⟨f,ys,ks,q⟩,h1,h2⟩:=Option.bind_eq_some_iff.mp h
 cases ks with
 | nil=>
  obtain ⟨y,h3,h4⟩:=Option.map_eq_some_iff.mp h2
  cases h4
  have:=kD h3
  subst this
  exact oJ h1
 | cons=>exact aw h2
noncomputable def okX (e:Expr):Bool:=(view e).tag != 9&&(view e).tag != 14
theorem cL {e:Expr}{P:Expr→Prop}(h:okX e=true)(h1:∀k a p,P (.Constant k a p))(h2:∀x p,P (.Name x p))(h3:∀l o r p,P (.BinOp l o r p))(h4:∀o x p,P (.UnaryOp o x p))(h5:∀o xs p,P (.BoolOp o xs p))
  (h6:∀l os rs p,P (.Compare l os rs p)) (h7:∀f xs ks p,P (.Call f xs ks p)) (h8:∀v n p,P (.Attribute v n p)) (h9:∀v i p,P (.Subscript v i p)) (h10:∀xs p,P (.List xs p)) (h11:∀xs k p,P (.Tuple xs k p)) (h12:∀ks vs p,P (.Dict ks vs p))
  (h13:∀x gs sc p,P (.ListComp x gs sc p)):P e:=by
 cases e<;>first | exact h1 _ _ _ | exact h2 _ _ | exact h3 _ _ _ _ | exact h4 _ _ _ | exact h5 _ _ _ | exact h6 _ _ _ _ | exact h7 _ _ _ _ | exact h8 _ _ _ | exact h9 _ _ _ | exact h10 _ _ | exact h11 _ _ _ | exact h12 _ _ _ | exact h13 _ _ _ _ | exact ff h
theorem bp {e:Expr}(h:okX e=true)(rest:List Expr)(env:Env):starEach (e::rest) env=(false,eval e env)::starEach rest env:=
 cL (P:=fun e=>starEach (e::rest) env=(false,eval e env)::starEach rest env) h (fun _ _ _=>rfl) (fun _ _=>rfl) (fun _ _ _ _=>rfl) (fun _ _ _=>rfl) (fun _ _ _=>rfl) (fun _ _ _ _=>rfl) (fun _ _ _ _=>rfl) (fun _ _ _=>rfl) (fun _ _ _=>rfl) (fun _ _=>rfl) (fun _ _ _=>rfl) (fun _ _ _=>rfl) (fun _ _ _ _=>rfl)
theorem dZ {e:Expr}(h:okX e=true)(op:CmpOp):behindInMarks op e=false:=
 cL (P:=fun e=>behindInMarks op e=false) h (fun _ _ _=>rfl) (fun _ _=>rfl) (fun _ _ _ _=>rfl) (fun _ _ _=>rfl) (fun _ _ _=>rfl) (fun _ _ _ _=>rfl) (fun _ _ _ _=>rfl) (fun _ _ _=>rfl) (fun _ _ _=>rfl) (fun _ _=>rfl) (fun _ _ _=>rfl) (fun _ _ _=>rfl) (fun _ _ _ _=>rfl)
theorem kE {e:Expr}(h:okX e=true)(env:Env)(x:Value):foldedSetIterable e env x=pure x:=
 cL (P:=fun e=>foldedSetIterable e env x=pure x) h (fun _ _ _=>rfl) (fun _ _=>rfl) (fun _ _ _ _=>rfl) (fun _ _ _=>rfl) (fun _ _ _=>rfl) (fun _ _ _ _=>rfl) (fun _ _ _ _=>rfl) (fun _ _ _=>rfl) (fun _ _ _=>rfl) (fun _ _=>rfl) (fun _ _ _=>rfl) (fun _ _ _=>rfl) (fun _ _ _ _=>rfl)
noncomputable def cU (e:Expr):Bool:=(xLC e).isSome
theorem d0 {e:Expr}(h:cU e=false)(h':okX e=true)(t:Option Expr)(l:Nat)(env:Env):swapsWith e t l env=pure false:=
 cL (P:=fun e=>cU e=false→swapsWith e t l env=pure false) h' (fun _ _ _ _=>rfl) (fun _ _ _=>rfl) (fun _ _ _ _ _=>rfl) (fun _ _ _ _=>rfl) (fun _ _ _ _=>rfl) (fun _ _ _ _ _=>rfl) (fun _ _ _ _ _=>rfl) (fun _ _ _ _=>rfl) (fun _ _ _ _=>rfl) (fun _ _ _=>rfl) (fun _ _ _ _=>rfl) (fun _ _ _ _=>rfl) (fun _ _ _ _ h=>by exact tf h) h
noncomputable def kF (e:Expr):Bool:=(view e).tag==1||(view e).tag==8||(view e).tag==0||(view e).tag==7
theorem ml {o:Expr}(h:kF o=true)(name:Str)(env:Env):attributeBase o name env (eval o env)=eval o env:=by
 simp only [kF,Bool.or_eq_true,beq_iff_eq] at h
 rcases h with ((h | h) | h) | h
 ·have e:=bh h rfl;rw [e];rfl
 ·have e:=bh h rfl;rw [e];rfl
 ·have e:=bh h rfl;rw [e];rfl
 ·have e:=bh h rfl;rw [e];rfl
end Internal
end
section
namespace Internal
open PySem PyProof.Rows
theorem gj {slice:Expr}{o i:Value}(h:okX slice=true):subscripted slice false o i=operate [o,i] (getItem o i):=
 cL (P:=fun e=>subscripted e false o i=operate [o,i] (getItem o i)) h (fun _ _ _=>rfl) (fun _ _=>rfl) (fun _ _ _ _=>rfl) (fun _ _ _=>rfl) (fun _ _ _=>rfl) (fun _ _ _ _=>rfl) (fun _ _ _ _=>rfl) (fun _ _ _=>rfl) (fun _ _ _=>rfl) (fun _ _=>rfl) (fun _ _ _=>rfl) (fun _ _ _=>rfl) (fun _ _ _ _=>rfl)
theorem gk {l u:Option Expr}{p:Pos}{o i:Value}:subscripted (.Slice l u none p) false o i=operate [i,o] (getItem o i):=rfl
theorem kG {k:Int}{n j:Nat}(h:dG k n=some j):seqIndex? k n=some j∧-(n:Int)≤k∧k<n∧(0≤k→j=k.toNat)∧(k<0→j=(k+n).toNat):=by
 unfold dG at h
 by_cases h0:0≤k
 ·by_cases h1:k<n
  ·simp only [h0,h1,decide_true] at h
   obtain rfl:=Option.some.inj h
   exact ⟨seqIndex_of h0 h1,by lia,h1,fun _=>rfl,fun q=>by lia⟩
  ·simp [h0,h1] at h
 ·by_cases h1:-(n:Int)≤k
  ·simp only [h0,h1,decide_true,decide_false] at h
   obtain rfl:=Option.some.inj h
   exact ⟨seqIndex_neg (z1 (Int.not_le.mp h0) (by simp +arith only)) h1,h1,by lia,fun q=>absurd q h0,fun _=>rfl⟩
  ·simp [h0,h1] at h
set_option tactic.hygienic true in
theorem sW (k:Int)(n:Nat):sJ k n=clipAt n k:=by
 unfold sJ clipAt
 split
 ·rename_i h
  replace h:=of_decide_eq_true h
  rw [if_neg (Int.not_lt.mpr h),Int.max_eq_right (Int.le_min.mpr ⟨h,Int.natCast_nonneg n⟩)]
  rcases Int.le_total k n with q | q
  ·rw [Int.min_eq_left q,Nat.min_eq_left (Int.toNat_le.mpr q)]
  ·rw [Int.min_eq_right q,Nat.min_eq_right ((Int.le_toNat h).mpr q)];rfl
 ·rename_i h
  replace h:=Int.not_le.mp (of_decide_eq_false h)
  rw [if_pos h,Int.min_eq_left (show k+n≤n from Int.le_trans (Int.add_le_add_right (Int.le_of_lt h) n) (Int.le_of_eq (Int.zero_add _)))]
  rcases Int.le_total 0 (k+n) with q | q
  ·rw [Int.max_eq_right q]
  ·rw [Int.max_eq_left q];exact Int.toNat_of_nonpos q
theorem yJ (k:Int)(n:Nat):clipAt n k≤n:=by unfold clipAt;split<;>exact Int.toNat_le.mpr (Int.max_le.mpr ⟨Int.natCast_nonneg _,Int.min_le_right _ _⟩)
theorem d3 {α:Type}(xs:List α)(lo hi:Option Int):aJ xs lo hi=(xs.drop (lo.elim 0 (clipAt xs.length))).take (hi.elim xs.length (clipAt xs.length)-lo.elim 0 (clipAt xs.length)):=by
 unfold aJ
 simp only
 rw [List.drop_take]
 cases lo<;>cases hi<;>simp only [Option.elim,sW]
section
variable {C:Glo}{F:Fm}{X:XM}{ρ:List Addr}{m:MS}{s:Shared}{Q:PQ}{E:Value→Shared→Prop}{A:Around}{h:Heap}{hp:List MO}
theorem aD.slice {xs:List MV}{vs:List Value}(l:aD C ρ h xs vs)(lo hi:Option Int):aD C ρ h (aJ xs lo hi) (aJ vs lo hi):=by
 unfold aJ
 have e:=l.length
 cases lo<;>cases hi<;>simp only [e]<;>exact (l.take _).drop _
theorem kH {α:Type}(xs:List α)(lo hi:Option Int):(aJ xs lo hi).length≤xs.length:=by
 rw [d3,List.length_take,List.length_drop];exact Nat.le_trans (Nat.min_le_right _ _) (Nat.sub_le _ _)
theorem dL {n:Nat}(h:n≤line):(n:Int)<2 ^ 63:=by unfold line at h;lia
theorem nI {α:Type}{xs:List α}{k:Int}{f:α→Prop}(h:ci xs k f):∃j v,dG k xs.length=some j∧xs[j]?=some v∧f v:=by
 obtain ⟨j,hj,h⟩:=b8 h
 obtain ⟨v,hv,h⟩:=b8 h
 exact ⟨j,v,hj,hv,h⟩
inductive u4 (C:Glo)(ρ:List Addr)(s:Shared)(m:MS)(Q:PQ)(v:Value)(s':Shared):Prop
 | mk (y:MV) (tk:Nat) (e:s'={ s with toks:=tk }) (r:Rep C ρ s.heap y v) (h:Q y m)
theorem u4.out {v:Value}{s':Shared}(o:u4 C ρ s m Q v s')(R:Rel C F ρ m s)(ok:aU F):Out C F ρ s Q v s':=by
 obtain ⟨y,tk,rfl,r,h⟩:=o
 exact bD R ok r h
theorem oL {xs:List MV}{items:List Value}{a:Addr}{k:Int}{u:Tok}{value slice:Expr}(hns:okX slice=true)(hl:s.heap.IsList a items.toArray)(l:aD C ρ s.heap xs items)(zl:xs.length≤line)(h:ci xs k fun v=>Q v m) :
  wpAny (mod C) A (subscriptTail value slice (.ref a) (.int k u)) (u4 C ρ s m Q) E s:=by
 obtain ⟨j,z,hj,hz,h⟩:=nI h
 obtain ⟨e1,e2,e3,e4,e5⟩:=kG hj
 obtain ⟨r,r1,r2⟩:=l.get hz
 have:=dL zl
 refine tail_any hl.typeIs slot_list_getitem.lookup ?_ (gj hns)
 by_cases h0:0≤k
 ·exact wpAny_getItem_list hl h0 (Int.lt_trans e3 this) (by rw [←e4 h0];exact (List.getElem?_toArray ..).trans r1) ⟨_,s.toks,rfl,r2,h⟩
 ·have h0:k<0:=Int.not_le.mp h0
  exact wpAny_getItem_list_neg hl h0 (by rw [List.size_toArray,l.length];exact e2) (by lia) (by rw [List.size_toArray,l.length,←e5 h0];exact (List.getElem?_toArray ..).trans r1) ⟨_,s.toks,rfl,r2,h⟩
theorem oM {a:Addr}{es:List (List Nat × MV)}{kvs:List (Str × Value)}{k:List Nat}{t:Tok}{value slice:Expr}(hns:okX slice=true)(dk:s.heap.DictOf (strKind C.prog C.w) a kvs)(rk:dH C ρ s.heap es kvs)(h:onO (bf es k) fun v=>Q v m) :
  wpAny (mod C) A (subscriptTail value slice (.ref a) (.str (Internal.str k) t)) (u4 C ρ s m Q) E s:=by
 obtain ⟨z,hz,h⟩:=b8 h
 have:=rk.get k
 rw [hz] at this
 obtain ⟨v,e,r⟩:=this
 exact tail_any dk.typeIs slot_dict_getitem.lookup (wpAny_getItem_of (fC C.prog C.w (Internal.str k) t) dk.mapOf e ⟨_,_,rfl,r,h⟩) (gj hns)
theorem u5 (G:GOk C)(R:Rel C F ρ m s){x y:MV}{v w:Value}(hx:Rep C ρ s.heap x v)(hy:Rep C ρ s.heap y w){value slice:Expr}(hns:okX slice=true)(h:AQ x y Q m) :
  wpAny (mod C) A (subscriptTail value slice v w) (u4 C ρ s m Q) E s:=by
 refine Classical.byContradiction fun hn=>?_
 cases y with
 | int k=>
  obtain ⟨u,rfl⟩:=hy.inv
  cases x with
  | tup xs=>
   obtain ⟨a,n,items,rfl,g,l,zl⟩:=hx.inv
   obtain ⟨j,z,hj,hz,h⟩:=nI h
   obtain ⟨e1,e2,e3,_⟩:=kG hj
   obtain ⟨r,r1,r2⟩:=l.get hz
   have:=dL zl
   refine hn (tail_any ⟨_,g,rfl⟩ slot_tuple_getitem.lookup (PySem.P.getItem_tuple g (by lia) (by lia) ?_ ((List.getElem?_toArray ..).trans r1) ⟨_,s.toks,rfl,r2,h⟩) (gj hns))
   rw [List.size_toArray,l.length];exact e1
  | str xs=>
   obtain ⟨t,rfl,zl⟩:=hx.inv
   obtain ⟨j,z,hj,hz,h⟩:=nI h
   obtain ⟨e1,e2,e3,_⟩:=kG hj
   have:=dL zl
   refine hn (tail_any (T:="str") (typeIs_str s (Internal.str xs) t) slot_str_getitem.lookup (PySem.P.getItem_str ?_ ?_ ⟨_,_,rfl,.str _ _ (by simp [line]),h⟩) (gj hns))
   ·simp only [Bool.or_eq_false_iff,decide_eq_false_iff_not];lia
   ·rw [cf,e1];exact (List.getElem?_toArray ..).trans hz
  | ref i=>
   obtain ⟨a,rfl,g⟩:=hx.inv
   obtain ⟨xs,hi,h⟩:=bX h
   obtain ⟨items,n,gi,l,zl⟩:=R.hp.objs _ _ _ hi g
   exact hn (oL hns ⟨_,gi,rfl,_,rfl⟩ l zl h)
  | scr xs=>
   obtain ⟨la,items,n,rfl,g,l,zl⟩:=hx.inv
   refine hn (oL (xs:=xs.map .int) hns ⟨_,R.hp.base _ _ g,rfl,_,rfl⟩ (ku l) (by rw [List.length_map];exact zl) ?_)
   obtain ⟨j,z,hj,hz,h⟩:=nI h
   show onO (dG k (xs.map MV.int).length) _
   rw [List.length_map,hj]
   show onO (xs.map MV.int)[j]? _
   rw [List.getElem?_map,hz]
   exact h
  | _=>exact h
 | str k=>
  obtain ⟨t,rfl,_⟩:=hy.inv
  cases x with
  | ref i=>
   obtain ⟨a,rfl,g⟩:=hx.inv
   obtain ⟨es,hi,h⟩:=ot h
   obtain ⟨kvs,dk,rk,zk⟩:=R.hp.objs _ _ _ hi g
   exact hn (oM hns dk rk h)
  | cdict es=>
   obtain ⟨a,kvs,rfl,hs,⟨o,ds,ep,e,r⟩,ck⟩:=hx.inv
   exact hn (oM hns ⟨o,ds,ep,R.hp.base _ _ e,r⟩ ck.rep h)
  | _=>exact h
 | _=>exact h
end
end Internal
end
section
namespace Internal
open PySem PyProof.Rows
section
variable {prog:Program}{w:World}{A:Around}{E:Value→Shared→Prop}{s:Shared}
theorem oN {a n:Nat}(ha:n<a):Builtin.Slice.sliceAdjust (some (a:Int)) none 1 (n:Int)=((n:Int),(n:Int)):=by
 unfold Builtin.Slice.sliceAdjust
 have h1:¬ ((1:Int)<0):=by lia
 have h2:¬ ((a:Int)<0):=by lia
 simp only [h1,h2,if_false]
 congr 1
 lia
theorem oO (n:Nat):Builtin.Slice.slicePlaces (n:Int) (n:Int) 1=0:=by
 unfold Builtin.Slice.slicePlaces
 have h1:(1:Int) > 0:=by lia
 simp only [h1,if_true,Int.ediv_one]
 split<;>lia
theorem nJ {sl:Addr}{a n:Nat}{u:Tok}{Q:Int × Int × Nat→Shared→Prop}(hs:s.heap.IsSliceOf sl (.int a u) .none .none)(ha:n<a)(h:Q ((n:Int),1,0) s) :
  wpAny (model prog w) A (Builtin.Slice.sliceApplied (.ref sl) (pure (n:Int))) Q E s:=by
 obtain ⟨os,hos,hcs,hds⟩:=id hs
 unfold Builtin.Slice.sliceApplied Builtin.Slice.sliceFields
 refine wpAny_bind (wpAny_bind (wpAny_field hos hds (x:=.int a u) rfl (wpAny_bind (wpAny_field hos hds (x:=.none) rfl (wpAny_bind (wpAny_field hos hds (x:=.none) rfl (wpAny_pure ?_)))))))
 refine wpAny_bind (slicePart_none ?_)
 show wpAny _ _ (if ((1:Int)==0)=true then _ else _) _ _ s
 rw [if_neg (by decide)]
 refine wpAny_bind (slicePart_int (wpAny_bind (slicePart_none (wpAny_bind (wpAny_pure ?_)))))
 show wpAny _ _ (match Builtin.Slice.sliceAdjust (some (a:Int)) none 1 (n:Int) with | (lo,hi)=>pure (lo,(1:Int),Builtin.Slice.slicePlaces lo hi 1)) _ _ s
 rw [oN ha]
 show wpAny _ _ (pure ((n:Int),(1:Int),Builtin.Slice.slicePlaces (n:Int) (n:Int) 1)) _ _ s
 rw [oO]
 exact wpAny_pure h
theorem sX {t sl:Addr}{items:Array Value}{a:Nat}{u:Tok}{Q:Value→Shared→Prop}(ht:IsTup s.heap t items)(hs:s.heap.IsSliceOf sl (.int a u) .none .none)(h1:1≤items.size)(ha:items.size<a)
  (h:Q (.ref s.heap.objs.size) { s with heap:=s.heap.push { cls:=.type "tuple",data:=.seq #[] } }):wpAny (model prog w) A (getItem (.ref t) (.ref sl)) Q E s:=by
 obtain ⟨os,hos,hcs,hds⟩:=id hs
 have hTs:s.TypeIs (.ref sl) "slice":=⟨os,hos,hcs⟩
 unfold getItem
 try with_reducible refine wpAny_holding ?_
 first | refine wpAny_bind (wpAny_pure ?_) | skip
 refine wpAny_bind (wpAny_sequenceKey ht.typeIs (by decide) ?_)
 refine wpAny_bind (wpAny_callSpecial?_slot (name:=Str.ofString "__getitem__") ht.typeIs slot_tuple_getitem
  (wpAny_call_entry slot_tuple_getitem ht.typeIs entry_tuple_getitem ?_ (args_tuple_getitem _ _)))
 show wpAny _ _ (Builtin.Tuple.tupleItemsOf (.ref t) >>= _) _ _ s
 refine wpAny_bind (tupleItemsOf_ ht ?_)
 refine wpAny_bind (wpAny_typeOf hTs ?_)
 rw [if_pos (by decide)]
 refine wpAny_bind (nJ hs ha ?_)
 have hno:¬ (((items.size:Int)==0&&(1:Int)==1&&0==items.size)=true):=by
  have:((items.size:Int)==0)=false:=by rw [beq_eq_false_iff_ne];lia
  rw [this];simp
 show wpAny _ _ (if ((items.size:Int)==0&&(1:Int)==1&&0==items.size)=true then _ else _) _ _ s
 rw [if_neg hno]
 first
  | exact wpAny_bind (m:=Builtin.Tuple.tupleExact _) (wpAny_newObj_type (wpAny_pure ⟨_,rfl,wpAny_pure h⟩) (Nat.zero_le _))
  | exact wpAny_bind (m:=Builtin.Tuple.tupleExact _) (wpAny_newObj_type (wpAny_bind (wpAny_pure (wpAny_pure ⟨_,rfl,wpAny_pure h⟩))) (Nat.zero_le _))
  | exact wpAny_bind (wpAny_bind (m:=Builtin.Tuple.tupleExact _) (wpAny_newObj_type (wpAny_pure (wpAny_pure ⟨_,rfl,wpAny_pure h⟩)) (Nat.zero_le _)))
  | exact wpAny_bind (wpAny_bind (m:=Builtin.Tuple.tupleExact _) (wpAny_newObj_type (wpAny_pure ⟨_,rfl,wpAny_pure h⟩) (Nat.zero_le _)))
end
section
variable {C:Glo}{F:Fm}{X:XM}{ρ:List Addr}{m:MS}{s:Shared}{Q:PQ}{E:Value→Shared→Prop}{A:Around}
theorem BS (R:Rel C F ρ m s)(ok:aU F){b a:Addr}{n:Nat}{xs:List MV}{items:List Value}{value:Expr}{l u:Option Expr}{p:Pos}{k:Int}{t:Tok}(g:s.heap.get? b=some (mj items n))(rl:aD C ρ s.heap xs items)(z:xs.length≤line)(hs:s.heap.IsSliceOf a (.int k t) .none .none)
  (hk:AI=true∧1≤k∧1≤xs.length) (hq:Q (.tup (xs.drop k.toNat)) m):wpAny (mod C) A (subscriptTail value (.Slice l u none p) (.ref b) (.ref a)) (Out C F ρ s Q) E s:=by
 obtain ⟨_,k1,k2⟩:=hk
 obtain ⟨j,rfl⟩:=Int.eq_ofNat_of_zero_le (show 0≤k from z1 k1 (by simp +arith only))
 have e:=rl.length
 rcases Nat.lt_or_ge xs.length j with hp | hp
 ·refine tail_any (T:="tuple") ⟨_,g,rfl⟩ slot_tuple_getitem.lookup (sX ⟨_,g,rfl,_,rfl⟩ hs (by rw [List.size_toArray,e];exact k2) (by rw [List.size_toArray,e];exact hp) ?_) gk
  have e0:xs.drop ((j:Int)).toNat=[]:=List.drop_eq_nil_of_le (Nat.le_of_lt hp)
  rw [e0] at hq
  exact nA R ok .nil (Nat.zero_le _) hq
 refine tail_any (T:="tuple") ⟨_,g,rfl⟩ slot_tuple_getitem.lookup (getItem_tuple_from ⟨_,g,rfl,_,rfl⟩ hs (by lia) (by rw [List.size_toArray];lia) ?_ (by rw [List.size_toArray,e];exact z)) gk
 exact nA R ok (rl.drop j) (Nat.le_trans (by rw [List.length_drop];exact Nat.sub_le ..) z) hq
end
end Internal
end
section
namespace Internal
open PySem PyProof.Rows
section
variable {C:Glo}{F:Fm}{X:XM}{ρ:List Addr}{m:MS}{s:Shared}{Q:PQ}{E:Value→Shared→Prop}{A:Around}{h:Heap}{hp:List MO}
noncomputable def iq (C:Glo)(ρ:List Addr)(h:Heap):Option MV→Value→Prop
 | none,v=>v=.none
 | some x,v=>Rep C ρ h x v
theorem rt {lo:Option MV}{v:Value}(h:iq C ρ s.heap lo v){k:Option Int}(e:pV lo=some k):IsPart v k∧∃l:Option (Int × Tok),v=partValue l∧l.map (·.1)=k:=by
 cases lo with
 | none=>
  obtain rfl:=Option.some.inj e
  obtain rfl:v=.none:=h
  exact ⟨.none,none,rfl,rfl⟩
 | some x=>
  cases x with
  | int i=>
   obtain ⟨t,rfl⟩:=Rep.inv h
   obtain rfl:=Option.some.inj e
   exact ⟨.int i t,some (i,t),rfl,rfl⟩
  | _=>exact aw e
theorem u6 {v:Value}{k:Int}(h:IsPart v (some k)):∃t,v=.int k t:=by cases h;exact ⟨_,rfl⟩
theorem sY {v:Value}(h:IsPart v none):v=.none:=by cases h;rfl
theorem oP (x:List Nat)(lo hi:Option Int):((Builtin.Str.strSliceIndices lo hi 1 x.length).filterMap (x.toArray[·]?))=aJ x lo hi∧(Builtin.Str.strSliceIndices lo hi 1 x.length).length=(aJ x lo hi).length:=by
 have e:Builtin.Str.strSliceIndices lo hi 1 x.length=(List.range (hi.elim x.length (clipAt x.length)-lo.elim 0 (clipAt x.length))).map (lo.elim 0 (clipAt x.length) + ·):=by
  have h1:Builtin.Str.strSliceIndices lo hi 1 x.length=sliceRange (sliceBounds lo hi none x.length).1 (sliceBounds lo hi none x.length).2.1 (sliceBounds lo hi none x.length).2.2:=rfl
  rw [h1,sliceBounds_plain,sliceRange_one]
 rw [e]
 constructor
 ·rw [pick_run,d3]
 ·rw [d3,List.length_map,List.length_range,List.length_take,List.length_drop]
  have:hi.elim x.length (clipAt x.length)≤x.length:=by cases hi<;>simp [yJ]
  exact (Nat.min_eq_left (Nat.sub_le_sub_right this _)).symm
theorem qh {y:List Nat}{lo hi:Option Int}(h:(aJ y lo hi).length=y.length):aJ y lo hi=y:=by
 rw [d3] at h ⊢
 rw [List.length_take,List.length_drop] at h
 cases y with
 | nil=>simp
 | cons a b=>
  have h3:lo.elim 0 (clipAt (a::b).length)=0:=Nat.le_zero.mp (Nat.le_of_not_lt fun q=>Nat.lt_irrefl _ (Nat.lt_of_lt_of_le (Nat.sub_lt (Nat.succ_pos _) q) (Nat.le_trans (Nat.le_of_eq h.symm) (Nat.min_le_right _ _))))
  rw [h3] at h ⊢
  rw [List.drop_zero,Nat.sub_zero]
  exact List.take_of_length_le (Nat.le_trans (Nat.le_of_eq h.symm) (Nat.min_le_left _ _))
section
variable {a:Addr}{l1 l2:Option (Int × Tok)}{lo hi:Option Int}{vl vu:Value}{value:Expr}{l u:Option Expr}{p:Pos}
set_option tactic.hygienic true in
theorem BU (R:Rel C F ρ m s)(ok:aU F){y:List Nat}{t:Tok}(z:y.length≤line)(hsl:s.heap.IsSlice a l1 l2 none)(ml1:l1.map (·.1)=lo)(ml2:l2.map (·.1)=hi)(hq:Q (.str (aJ y lo hi)) m) :
  wpAny (mod C) A (subscriptTail value (.Slice l u none p) (.str (Internal.str y) t) (.ref a)) (Out C F ρ s Q) E s:=by
 refine tail_any (T:="str") (typeIs_str _ (Internal.str y) t) slot_str_getitem.lookup (wpAny_getItem_str_slice hsl rfl ?_) gk
 unfold sliceMade slicePicked
 rw [ml1,ml2,cf]
 obtain ⟨f1,f2⟩:=oP y lo hi
 have hz:=kH y lo hi
 split
 ·rename_i hc
  simp only [Option.map_none,Option.getD_none,Bool.and_eq_true,beq_iff_eq] at hc
  rw [qh (f2.symm.trans hc.2)] at hq
  exact bS R (.str y t z) hq
 ·refine ⟨?_,?_⟩
  ·show ((Builtin.Str.strSliceIndices lo hi 1 y.length).filterMap (y.toArray[·]?)).toArray.size≤sizeLine
   rw [f1,List.size_toArray];exact Nat.le_trans hz z
  ·show Out C F ρ s Q (.str ⟨((Builtin.Str.strSliceIndices lo hi 1 y.length).filterMap (y.toArray[·]?)).toArray⟩ _) _
   rw [f1]
   exact bD R ok (.str _ _ (Nat.le_trans hz z)) hq
theorem rA (R:Rel C F ρ m s)(ok:aU F){b:Addr}{xs:List MV}{items:List Value}(g:s.heap.IsList b items.toArray)(rl:aD C ρ s.heap xs items)(z:xs.length≤line)(hs:s.heap.IsSliceOf a vl vu .none)(p1:IsPart vl lo)(p2:IsPart vu hi)
  (hq:Q (.ref m.heap.length) (m.push (.list (aJ xs lo hi)))):wpAny (mod C) A (subscriptTail value (.Slice l u none p) (.ref b) (.ref a)) (Out C F ρ s Q) E s:=by
 refine tail_any (T:="list") g.typeIs slot_list_getitem.lookup (wpAny_getItem_list_slice g hs p1 p2 .none (by simp) ?_ (by rw [List.size_toArray,rl.length];exact z)) gk
 have e:slicePick items.toArray lo hi none=(aJ items lo hi).toArray:=by
  rw [slicePick_plain,d3];simp
 rw [e]
 exact nC R ok (rl.slice _ _) (Nat.le_trans (kH _ _ _) z) hq
theorem BV (R:Rel C F ρ m s)(ok:aU F){x:MV}{v:Value}(hx:Rep C ρ s.heap x v)(hsl:s.heap.IsSlice a l1 l2 none)(ml1:l1.map (·.1)=lo)(ml2:l2.map (·.1)=hi)(hs:s.heap.IsSliceOf a vl vu .none)(p1:IsPart vl lo)(p2:IsPart vu hi)
  (hq:AR x lo hi Q m):wpAny (mod C) A (subscriptTail value (.Slice l u none p) v (.ref a)) (Out C F ρ s Q) E s:=by
 refine Classical.byContradiction fun hn=>?_
 cases x with
 | str y=>
  obtain ⟨t,rfl,z⟩:=hx.inv
  exact hn (BU R ok z hsl ml1 ml2 hq)
 | tup xs=>
  obtain ⟨b,n,items,rfl,g,l,z⟩:=hx.inv
  obtain ⟨k,rfl,⟨j1,rfl,j2⟩,hk⟩:=b8 hq
  obtain ⟨t,rfl⟩:=u6 p1
  obtain rfl:=sY p2
  exact hn (BS R ok g l z hs ⟨j1,j2⟩ hk)
 | scr xs=>
  obtain ⟨b,items,n,rfl,g,l,z⟩:=hx.inv
  exact hn (rA R ok ⟨_,R.hp.base _ _ g,rfl,_,rfl⟩ (ku l) (by rw [List.length_map];exact z) hs p1 p2 hq)
 | ref i=>
  obtain ⟨b,rfl,g⟩:=hx.inv
  obtain ⟨xs,hi,hq⟩:=bX hq
  obtain ⟨items,n,gi,l,z⟩:=R.hp.objs _ _ _ hi g
  exact hn (rA R ok ⟨_,gi,rfl,_,rfl⟩ l z hs p1 p2 hq)
 | _=>exact hq
end
theorem En (R:Rel C F ρ m s)(ok:aU F){x:MV}{v:Value}(hx:Rep C ρ s.heap x v){lo hi:Option MV}{vl vu:Value}(hl:iq C ρ s.heap lo vl)(hu:iq C ρ s.heap hi vu){value:Expr}{l u:Option Expr}{p:Pos}
  (hq:D6 x lo hi Q m):wpAny (mod C) A (subscriptTail value (.Slice l u none p) v (.ref s.heap.objs.size)) (Out C F ρ s Q) E { s with heap:=s.heap.push { cls:=.type "slice",data:=.fields #[vl,vu,.none] } }:=by
 obtain ⟨R',st⟩:=R.grow (s':={ s with heap:=s.heap.push { cls:=.type "slice",data:=.fields #[vl,vu,.none] } }) ok (fun a o e=>Heap.get?_push_of_some _ e) rfl rfl
 obtain ⟨lo',e1,hq⟩:=b8 hq
 obtain ⟨hi',e2,hq⟩:=b8 hq
 obtain ⟨p1,l1,rfl,ml1⟩:=rt hl e1
 obtain ⟨p2,l2,rfl,ml2⟩:=rt hu e2
 exact wpAny_mono (BV R' ok (hx.step st) ⟨_,Heap.get?_push_size _ rfl,rfl,rfl⟩ ml1 ml2 (Heap.IsSliceOf.new _ _ _ _) p1 p2 hq) (Out.back st) fun _ _ e=>e
end
end Internal
end
section
namespace Internal
open PySem PyProof.Rows
section
variable {C:Glo}{F:Fm}{X:XM}{ρ:List Addr}{m:MS}{s:Shared}{Q:PQ}{E:Value→Shared→Prop}{A:Around}{h:Heap}{hp:List MO}
noncomputable def jV:TS→Option String
 | .int=>some "int" | .bool=>some "bool" | .str=>some "str" | .list=>some "list" | .tuple=>some "tuple" | .dict=>some "dict" | _=>none
noncomputable def Eo:TS→String
 | .int=>"int" | .bool=>"bool" | .str=>"str" | .list=>"list" | .tuple=>"tuple" | .dict=>"dict" | _=>""
theorem yK {t:TS}{T:String}(e:jV t=some T):T=Eo t:=by
 cases t<;>first | exact (Option.some.inj e).symm | exact aw e
noncomputable def sZ:Kd→String
 | .none=>"NoneType" | .bool=>"bool" | .int=>"int" | .str=>"str" | .tuple=>"tuple" | .list=>"list" | .dict=>"dict" | .exc _=>""
noncomputable def Ep (t:TS):Prop:=jV t≠none→typeOf (.type (Eo t))=pure (.type "type")
theorem yL (t:TS):Ep t:=TS.casesOn (motive:=Ep) t (fun _=>F.isi_meta_int) (fun _=>F.isi_meta_bool) (fun _=>F.isi_meta_str) (fun _=>F.isi_meta_list) (fun _=>F.isi_meta_tuple) (fun _=>F.isi_meta_dict) (fun _ e=>(e rfl).elim) (fun e=>(e rfl).elim)
noncomputable def mn (k:Kd)(t:TS):Prop:=match jV t with
 | some T=>isSubtype (.type (sZ k)) (.type T)=pure ((sL k t).getD true)
 | none=>True
theorem yM (k:Kd)(t:TS)(he:∀c,k≠.exc c):mn k t:=by
 revert he
 exact Kd.casesOn (motive:=fun k=>(∀c,k≠.exc c)→mn k t) k (fun _=>TS.casesOn (motive:=mn .none) t F.sub_NoneType_int F.sub_NoneType_bool F.sub_NoneType_str F.sub_NoneType_list F.sub_NoneType_tuple F.sub_NoneType_dict (fun _=>trivial) trivial) (fun _=>TS.casesOn (motive:=mn .bool) t F.sub_bool_int F.sub_bool_bool F.sub_bool_str F.sub_bool_list F.sub_bool_tuple F.sub_bool_dict (fun _=>trivial) trivial) (fun _=>TS.casesOn (motive:=mn .int) t F.sub_int_int F.sub_int_bool F.sub_int_str F.sub_int_list F.sub_int_tuple F.sub_int_dict (fun _=>trivial) trivial) (fun _=>TS.casesOn (motive:=mn .str) t F.sub_str_int F.sub_str_bool F.sub_str_str F.sub_str_list F.sub_str_tuple F.sub_str_dict (fun _=>trivial) trivial) (fun _=>TS.casesOn (motive:=mn .tuple) t F.sub_tuple_int F.sub_tuple_bool F.sub_tuple_str F.sub_tuple_list F.sub_tuple_tuple F.sub_tuple_dict (fun _=>trivial) trivial) (fun _=>TS.casesOn (motive:=mn .list) t F.sub_list_int F.sub_list_bool F.sub_list_str F.sub_list_list F.sub_list_tuple F.sub_list_dict (fun _=>trivial) trivial) (fun _=>TS.casesOn (motive:=mn .dict) t F.sub_dict_int F.sub_dict_bool F.sub_dict_str F.sub_dict_list F.sub_dict_tuple F.sub_dict_dict (fun _=>trivial) trivial) (fun c h=>(h c rfl).elim)
noncomputable def NeP (k:Kd)(t:TS):Prop:=match jV t with
 | some T=>(sL k t).getD true=false→(Value.type (sZ k)==Value.type T)=false
 | none=>True
theorem BW (k:Kd)(t:TS)(he:∀c,k≠.exc c):NeP k t:=by
 revert he
 exact Kd.casesOn (motive:=fun k=>(∀c,k≠.exc c)→NeP k t) k (fun _=>TS.casesOn (motive:=NeP .none) t (fun _=>rfl) (fun _=>rfl) (fun _=>rfl) (fun _=>rfl) (fun _=>rfl) (fun _=>rfl) (fun _=>trivial) trivial) (fun _=>TS.casesOn (motive:=NeP .bool) t tf tf (fun _=>rfl) (fun _=>rfl) (fun _=>rfl) (fun _=>rfl) (fun _=>trivial) trivial) (fun _=>TS.casesOn (motive:=NeP .int) t tf (fun _=>rfl) (fun _=>rfl) (fun _=>rfl) (fun _=>rfl) (fun _=>rfl) (fun _=>trivial) trivial) (fun _=>TS.casesOn (motive:=NeP .str) t (fun _=>rfl) (fun _=>rfl) tf (fun _=>rfl) (fun _=>rfl) (fun _=>rfl) (fun _=>trivial) trivial) (fun _=>TS.casesOn (motive:=NeP .tuple) t (fun _=>rfl) (fun _=>rfl) (fun _=>rfl) (fun _=>rfl) tf (fun _=>rfl) (fun _=>trivial) trivial) (fun _=>TS.casesOn (motive:=NeP .list) t (fun _=>rfl) (fun _=>rfl) (fun _=>rfl) tf (fun _=>rfl) (fun _=>rfl) (fun _=>trivial) trivial) (fun _=>TS.casesOn (motive:=NeP .dict) t (fun _=>rfl) (fun _=>rfl) (fun _=>rfl) (fun _=>rfl) (fun _=>rfl) tf (fun _=>trivial) trivial) (fun c h=>(h c rfl).elim)
noncomputable def Fh (v:Value)(Tx:String):Prop:=∀T,(Value.type Tx==Value.type T)=false→typeOf (.type T)=pure (.type "type")→isSubtype (.type Tx) (.type T)=pure false→Answers (fun s=>s.TypeIs v Tx) v (.type T) false
theorem BX (H:Hp C ρ hp s.heap){x:MV}{v:Value}(hx:Rep C ρ s.heap x v){k:Kd}(hk:uz hp x=some k)(he:∀c,k≠.exc c):s.TypeIs v (sZ k)∧Fh v (sZ k):=by
 refine Classical.byContradiction fun hn=>?_
 cases x with
 | none=>obtain rfl:=hx.inv;obtain rfl:=Option.some.inj hk;exact hn ⟨rfl,fun _=>.of_false_none⟩
 | bool _=>obtain rfl:=hx.inv;obtain rfl:=Option.some.inj hk;exact hn ⟨rfl,fun _=>.of_false_bool⟩
 | int _=>obtain ⟨_,rfl⟩:=hx.inv;obtain rfl:=Option.some.inj hk;exact hn ⟨rfl,fun _=>.of_false_int⟩
 | str _=>obtain ⟨_,rfl,_⟩:=hx.inv;obtain rfl:=Option.some.inj hk;exact hn ⟨rfl,fun _=>.of_false_str⟩
 | tup _=>
  obtain ⟨a,n,items,rfl,g,_⟩:=hx.inv
  obtain rfl:=Option.some.inj hk
  exact hn ⟨⟨_,g,rfl⟩,fun _=>.of_false_tuple⟩
 | ref i=>
  obtain ⟨a,rfl,g⟩:=hx.inv
  replace hk:kdO hp[i]?=some k:=hk
  cases hi:hp[i]? with
  | none=>rw [hi] at hk;exact aw hk
  | some o=>
   rw [hi] at hk
   cases o with
   | list xs=>
    obtain ⟨items,n,gi,_⟩:=H.objs _ _ _ hi g
    obtain rfl:=Option.some.inj hk
    exact hn ⟨⟨_,gi,rfl⟩,fun _=>.of_false_list⟩
   | dict es=>
    obtain ⟨kvs,dk,_⟩:=H.objs _ _ _ hi g
    obtain rfl:=Option.some.inj hk
    exact hn ⟨dk.typeIs,fun _=>.of_false_dict⟩
   | attrs es=>exact aw hk
   | exc c=>exact he c (Option.some.inj hk).symm
 | _=>exact aw hk
theorem u7 {k:Kd}{t:TS}{T:String}(e:jV t=some T){b:Bool}(h:sL k t=some b)(c:Nat):k≠.exc c:=fun q=>by
 subst q;cases t<;>first | exact aw e | exact aw h
theorem ji (H:Hp C ρ hp s.heap){x:MV}{v:Value}(hx:Rep C ρ s.heap x v){k:Kd}(hk:uz hp x=some k){t:TS}{T:String}(eT:jV t=some T){b:Bool}(h:sL k t=some b):s.TypeIs v (sZ k)∧Answers (fun s=>s.TypeIs v (sZ k)) v (.type T) b:=by
 have he:=u7 eT h
 obtain ⟨h1,h2⟩:=BX H hx hk he
 refine ⟨h1,?_⟩
 have hm:=yL t (by rw [eT];exact fun q=>pT q)
 rw [←yK eT] at hm
 have h3:=yM k t he
 have h4:=BW k t he
 unfold mn at h3
 unfold NeP at h4
 rw [eT,h] at h3 h4
 cases b with
 | true=>exact .of_true hm h3
 | false=>exact h2 T (h4 rfl) hm h3
theorem u9 {prog:Program}{w:World}{v:Value}{Tx T:String}{b:Bool}{Q:Value→Shared→Prop}(ha:Answers (fun s=>s.TypeIs v Tx) v (.type T) b)(hT:s.TypeIs v Tx)(h:∀tk,Q (.bool b) { s with toks:=tk }):wpAny (model prog w) A (call (.builtin "isinstance") [v,.type T]) Q E s:=by
 refine call_isinstance (S:=fun _ R s'=>s'=s∧∀tk,R (.ok (.ret (.bool b))) { s with toks:=tk }) (fun _ _ _ _ s' hs=>?_) ⟨rfl,h⟩
 obtain ⟨rfl,hs⟩:=hs
 exact isinstance_outer (ha _ _ _ _ _ _ _ ⟨hT,hs⟩) (Shared.TypeIs.not_mainsLoader hT)
theorem BZ (H:Hp C ρ hp s.heap){x:MV}{v:Value}(hx:Rep C ρ s.heap x v){t:TS}{b:Bool}(h:jU hp x t=some b){P:Bool→Prop}(hq:P b) :
  ∀T,jV t=some T→wpAny (mod C) A (call (.builtin "isinstance") [v,.type T]) (fB s P) E s:=by
 intro T eT
 obtain ⟨k,hk,h⟩:=j5 h
 obtain ⟨h1,h2⟩:=ji H hx hk eT h
 exact u9 h2 h1 fun tk=>⟨_,tk,rfl,rfl,hq⟩
theorem yO (H:Hp C ρ hp s.heap){x:MV}{v:Value}(hx:Rep C ρ s.heap x v){t u:TS}{T U:String}(eT:jV t=some T)(eU:jV u=some U){b b':Bool}(h:jU hp x t=some b)(h':jU hp x u=some b'){P:Bool→Prop}(hq:P (b||b')){tp:Addr}
  (ht:s.heap.get? tp=some { cls:=.type "tuple",data:=.seq #[.type T,.type U] }):wpAny (mod C) A (call (.builtin "isinstance") [v,.ref tp]) (fB s P) E s:=by
 obtain ⟨k,hk,h⟩:=j5 h
 obtain ⟨k',hk',h'⟩:=j5 h'
 obtain rfl:=same hk hk'
 obtain ⟨h1,h2⟩:=ji H hx hk eT h
 obtain ⟨_,h3⟩:=ji H hx hk eU h'
 refine IsiPair.tupleOfB (vs:=[b,b']) (b:=b||b') (.cons h2 (.cons h3 .nil)) h1 ht ?_ fun tk=>⟨_,tk,rfl,rfl,hq⟩
 show (b||(b'||false))=_
 rw [Bool.or_false]
noncomputable def mo:Bi→Option (Str × Value)
 | .len=>some ("len",.builtin "len")
 | .int=>some ("int",.type "int")
 | .str=>some ("str",.type "str")
 | .list=>some ("list",.type "list")
 | .tuple=>some ("tuple",.type "tuple")
 | .dict=>some ("dict",.type "dict")
 | .all=>if Bq then some ("all",.builtin "all") else none
 | .min=>if AL then some ("min",.builtin "min") else none
 | .max=>if AL then some ("max",.builtin "max") else none
 | .sum=>if Br then some ("sum",.builtin "sum") else none
 | .sorted=>if Bt then some ("sorted",.builtin "sorted") else none
 | _=>none
noncomputable def j9:Bi→Bool
 | .len=>true
 | .int=>true
 | .str=>true
 | _=>false
theorem eN (R:Rel C F ρ m s)(ok:aU F){h':Heap}{t:Nat}(hk:∀b o,s.heap.get? b=some o→h'.get? b=some o){x:MV}{v:Value}(hr:Rep C ρ h' x v)(h:Q x m):Out C F ρ s Q v { s with heap:=h',toks:=t }:=by
 obtain ⟨R',st⟩:=R.grow (s':={ s with heap:=h',toks:=t }) ok hk rfl rfl
 exact ⟨ρ,m,x,st,R',hr,h⟩
theorem B1 (G:GOk C)(R:Rel C F ρ m s)(ok:aU F){x:MV}{v:Value}(hx:Rep C ρ s.heap x v)(h:AS x Q m):wpAny (mod C) A (call (.builtin "len") [v]) (Out C F ρ s Q) E s:=by
 refine Classical.byContradiction fun hn=>?_
 cases x with
 | tup xs=>
  obtain ⟨a,n,items,rfl,g,l,z⟩:=hx.inv
  refine hn (PySem.P.len_tuple g ?_ ?_)
  ·rw [List.size_toArray,l.length];have:=dL z;lia
  ·rw [List.size_toArray,l.length];exact bD R ok (.int _ _) h
 | str xs=>
  obtain ⟨t,rfl,z⟩:=hx.inv
  refine hn (PySem.P.len_str ?_ ?_)
  ·rw [cf];have:=dL z;lia
  ·rw [cf];exact bD R ok (.int _ _) h
 | scr is=>
  obtain ⟨a,items,n,rfl,g,l,z⟩:=hx.inv
  have hlen:=(ku (C:=C) (ρ:=ρ) (h:=s.heap) l).length
  rw [List.length_map] at hlen
  refine hn (PySem.Calls.call_len_list ⟨_,R.hp.base _ _ g,rfl,_,rfl⟩ ?_ ?_)
  ·rw [List.size_toArray,hlen];exact dL z
  ·rw [List.size_toArray,hlen];exact bD R ok (.int _ _) h
 | ref i=>
  obtain ⟨a,rfl,g⟩:=hx.inv
  obtain ⟨ys,hi,h⟩ | ⟨ys,hi,h⟩:=ig h
  ·obtain ⟨items,n,gi,l,z⟩:=R.hp.objs _ _ _ hi g
   refine hn (PySem.Calls.call_len_list ⟨_,gi,rfl,_,rfl⟩ ?_ ?_)
   ·rw [List.size_toArray,l.length];exact dL z
   ·rw [List.size_toArray,l.length];exact bD R ok (.int _ _) h
  ·obtain ⟨kvs,dk,rk,z⟩:=R.hp.objs _ _ _ hi g
   refine hn (call_len_dict (j7 G R.hp (List.mem_of_getElem? g)) dk ?_ ?_)
   ·rw [rk.length];exact dL z
   ·rw [rk.length];exact bD R ok (.int _ _) h
 | _=>exact h
theorem qi (R:Rel C F ρ m s){a:Addr}:(ρ++[a])[m.heap.length]?=some a:=by rw [←R.hp.len,List.getElem?_append_right (Nat.le_refl _)];simp
theorem qj (R:Rel C F ρ m s)(ok:aU F){i:Nat}{ys:List MV}{v:Value}(hx:Rep C ρ s.heap (.ref i) v)(hi:m.heap[i]?=some (.list ys))(h:Q (.tup ys) m):wpAny (mod C) A (call (.type "tuple") [v]) (Out C F ρ s Q) E s:=by
 obtain ⟨a,rfl,g⟩:=hx.inv
 obtain ⟨items,n,gi,l,z⟩:=R.hp.objs _ _ _ hi g
 refine call_tuple_list ⟨_,gi,rfl,_,rfl⟩ (fun h' hk=>?_) (by rw [List.size_toArray,l.length];exact z)
 have hk':∀b o,s.heap.get? b=some o→(h'.push (mj items 0)).get? b=some o:=fun b o e=>Heap.get?_push_of_some _ (hk b o e)
 exact eN R ok hk' (.tup (Heap.get?_push_size _ rfl) (l.up (fun a o e _=>hk' a o e) (List.prefix_refl _)) z) h
theorem s8 (G:GOk C)(R:Rel C F ρ m s)(ok:aU F){i:Nat}{ys:List (List Nat × MV)}{v:Value}(hx:Rep C ρ s.heap (.ref i) v)(hi:m.heap[i]?=some (.dict ys))(h:Q (.ref m.heap.length) (m.push (.dict ys))):wpAny (mod C) A (call (.type "dict") [v]) (Out C F ρ s Q) E s:=by
 obtain ⟨a,rfl,g⟩:=hx.inv
 obtain ⟨kvs,dk,rk,z⟩:=R.hp.objs _ _ _ hi g
 refine kt_call_dict (j7 G R.hp (List.mem_of_getElem? g)) dk (by rw [rk.length];exact z) fun h' hd hs=>?_
 have hk:∀a o,s.heap.get? a=some o→h'.get? a=some o:=fun a o e=>(hs.2 a (Nat.ne_of_lt (Heap.lt_size e))).trans (Heap.get?_push_of_some _ e)
 obtain ⟨R',st⟩:=R.alloc (s':={ s with heap:=h' }) ok hk rfl rfl (o:=.dict ys) (a:=s.heap.objs.size) (bk (Nat.le_refl _))
  ⟨kvs,hd,rk.up (fun a o e _=>hk a o e) (List.prefix_append _ _),z⟩
 exact ⟨_,_,_,st,R',.ref (qi R),h⟩
theorem yP {i:Int}(h:-1≤i∧i<1000000):i.natAbs.log2<1920:=by
 have:i.natAbs<1000000:=by lia
 rcases Nat.eq_zero_or_pos i.natAbs with q | q
 ·rw [q];decide
 ·have:=(Nat.log2_lt (n:=i.natAbs) (k:=20) (Nat.ne_of_gt q)).mpr (Nat.le_trans this (nb rfl))
  exact Nat.le_trans this (nb rfl)
end
end Internal
end
section
namespace Internal
open PySem PyProof.Rows
section
variable {C:Glo}{F:Fm}{X:XM}{ρ:List Addr}{m:MS}{s:Shared}{Q:PQ}{E:Value→Shared→Prop}{A:Around}{h:Heap}{hp:List MO}
theorem oQ (G:GOk C)(hn:A.handled=none)(R:Rel C F ρ m s)(ok:aU F){i:Nat}{ys:List (List Nat × MV)}{v:Value}(hx:Rep C ρ s.heap (.ref i) v)(hi:m.heap[i]?=some (.dict ys))(hu:AK=true)(h:Q (.ref m.heap.length) (m.push (.list (ys.map fun p=>.str p.1)))) :
  wpAny (mod C) A (call (.type "list") [v]) (Out C F ρ s Q) E s:=absurd hu (by decide)
end
end Internal
end
section
namespace Internal
open PySem PyProof.Rows
section
variable {C:Glo}{F:Fm}{X:XM}{ρ:List Addr}{m:MS}{s:Shared}{Q:PQ}{E:Value→Shared→Prop}{A:Around}{h:Heap}{hp:List MO}
theorem B2 (hn:A.handled=none)(R:Rel C F ρ m s)(ok:aU F){i j:Int}{t u:Tok}{n:Str}{f:Value}(hb:mo .min=some (n,f))(h:pY .min i j Q m):wpAny (mod C) A (call f [.int i t,.int j u]) (Out C F ρ s Q) E s:=by
 have hb:(some ("min",.builtin "min"):Option (Str × Value))=some (n,f):=hb
 cases hb
 refine min_two_ints hn fun h' tk hk=>?_
 have h:Q (.int (min i j)) m:=h
 by_cases q:j<i
 ·rw [if_pos q];rw [Int.min_eq_right (Int.le_of_lt q)] at h;exact eN R ok hk (.int _ _) h
 ·rw [if_neg q];rw [Int.min_eq_left (Int.not_lt.mp q)] at h;exact eN R ok hk (.int _ _) h
theorem B4 (hn:A.handled=none)(R:Rel C F ρ m s)(ok:aU F){i j:Int}{t u:Tok}{n:Str}{f:Value}(hb:mo .max=some (n,f))(h:pY .max i j Q m):wpAny (mod C) A (call f [.int i t,.int j u]) (Out C F ρ s Q) E s:=by
 have hb:(some ("max",.builtin "max"):Option (Str × Value))=some (n,f):=hb
 cases hb
 refine max_two_ints hn fun h' tk hk=>?_
 have h:Q (.int (max i j)) m:=h
 by_cases q:j > i
 ·rw [if_pos q];rw [Int.max_eq_right (Int.le_of_lt q)] at h;exact eN R ok hk (.int _ _) h
 ·rw [if_neg q];rw [Int.max_eq_left (Int.not_lt.mp q)] at h;exact eN R ok hk (.int _ _) h
theorem oS {is:List Int}{items:List Value}{h:Heap}(l:aD C ρ h (is.map .int) items){j:Nat}{v:Value}(e:items[j]?=some v):∃i t,is[j]?=some i∧v=.int i t:=by
 have hj:j<is.length:=by have:=(List.getElem?_eq_some_iff.mp e).1;rw [l.length,List.length_map] at this;exact this
 obtain ⟨v',e',r⟩:=l.get (i:=j) (x:=.int is[j]) (by rw [List.getElem?_map,List.getElem?_eq_getElem hj];rfl)
 obtain rfl:=same e e'
 obtain ⟨t,rfl⟩:=r.inv
 exact ⟨_,t,List.getElem?_eq_getElem hj,rfl⟩
theorem yQ (hn:A.handled=none)(R:Rel C F ρ m s)(ok:aU F){i:Nat}{v:Value}(hx:Rep C ρ s.heap (.ref i) v){n:Str}{f:Value}(hb:mo .min=some (n,f))(h:eI .min (.ref i) Q m):wpAny (mod C) A (call f [v]) (Out C F ρ s Q) E s:=by
 have hb:(some ("min",.builtin "min"):Option (Str × Value))=some (n,f):=hb
 cases hb
 obtain ⟨a,rfl,g⟩:=hx.inv
 obtain ⟨xs,hi,_,is,rfl,hz,_,k,h1,h2,hq⟩:=bX h
 obtain ⟨items,c,gi,l,z⟩:=R.hp.objs _ _ _ hi g
 have hl:s.heap.IsList _ items.toArray:=⟨_,gi,rfl,_,rfl⟩
 have hne:=Nat.ne_of_lt (Heap.lt_size gi)
 have hs:items.toArray.size=is.length:=by rw [List.size_toArray,l.length,List.length_map]
 have hp:=List.length_pos_iff.mpr hz
 obtain ⟨b1,b2⟩:=argBest_lt (fun j=>(is[j]?).getD 0) (is.length-1)
 refine call_min_walk (wpAny_pyIter_list hl ?_)
 refine ⟨_,_,_,_,_,_,_,rfl,Walks.list (A:=A.in1) hn _ _ hne items.toArray,⟨⟨_,Heap.get?_push_size _ rfl,rfl,rfl⟩,hl.push _⟩,?_,by rw [hs];exact hp,CmpOf.ints_lt (fun j=>(is[j]?).getD 0) (fun j v hP=>?_),fun v h' tk hP hk=>?_⟩
 ·intro b hb'
  rcases List.mem_cons.mp hb' with rfl | hb'
  ·rw [Heap.size_push];exact Nat.lt_succ_self _
  ·rcases List.mem_cons.mp hb' with rfl | hb'
   ·rw [Heap.size_push];exact Nat.lt_succ_of_lt (Heap.lt_size gi)
   ·exact aC hb'
 ·obtain ⟨i,t,e1,rfl⟩:=oS l (j:=j) (v:=v) ((List.getElem?_toArray ..).symm.trans hP)
  exact ⟨t,by show Value.int i t=.int ((is[j]?).getD 0) t;rw [e1];rfl⟩
 ·rw [hs] at hP
  obtain ⟨i,t,e1,rfl⟩:=oS l ((List.getElem?_toArray ..).symm.trans hP)
  have e2:i=k:=by
   refine Int.le_antisymm ?_ (h2 i (List.mem_of_getElem? e1))
   obtain ⟨j,hj,e⟩:=List.getElem_of_mem h1
   have:=b2 j (by lia)
   rw [e1,List.getElem?_eq_getElem hj,e] at this
   exact this
  rw [e2]
  exact eN R ok (fun b o e=>hk b o (fun hm=>Nat.ne_of_lt (Heap.lt_size e) (List.mem_singleton.mp hm)) (Heap.get?_push_of_some _ e)) (.int _ _) hq
theorem s9 {bs:List Bool}{items:List Value}{h:Heap}(l:aD C ρ h (bs.map .bool) items){j:Nat}{v:Value}(e:items[j]?=some v):∃b,bs[j]?=some b∧v=.bool b:=by
 have hj:j<bs.length:=by have:=(List.getElem?_eq_some_iff.mp e).1;rw [l.length,List.length_map] at this;exact this
 obtain ⟨v',e',r⟩:=l.get (i:=j) (x:=.bool bs[j]) (by rw [List.getElem?_map,List.getElem?_eq_getElem hj];rfl)
 obtain rfl:=same e e'
 exact ⟨_,List.getElem?_eq_getElem hj,r.inv⟩
theorem tc (bs:List Bool):(List.range bs.length).all (fun j=>(bs[j]?).getD false)=bs.all id:=by
 rw [Bool.eq_iff_iff,List.all_eq_true,List.all_eq_true]
 constructor
 ·intro h b hb
  obtain ⟨j,hj,e⟩:=List.getElem_of_mem hb
  have:=h j (List.mem_range.mpr hj)
  rw [List.getElem?_eq_getElem hj,e] at this
  exact this
 ·intro h j hj
  have hj:=List.mem_range.mp hj
  rw [List.getElem?_eq_getElem hj]
  exact h _ (List.getElem_mem hj)
theorem B6 (hn:A.handled=none)(R:Rel C F ρ m s)(ok:aU F){i:Nat}{v:Value}(hx:Rep C ρ s.heap (.ref i) v){n:Str}{f:Value}(hb:mo .all=some (n,f))(h:eI .all (.ref i) Q m):wpAny (mod C) A (call f [v]) (Out C F ρ s Q) E s:=by
 have hb:(some ("all",.builtin "all"):Option (Str × Value))=some (n,f):=hb
 cases hb
 obtain ⟨a,rfl,g⟩:=hx.inv
 obtain ⟨xs,hi,bs,rfl,_,hq⟩:=bX h
 obtain ⟨items,k,gi,l,z⟩:=R.hp.objs _ _ _ hi g
 have hl:s.heap.IsList _ items.toArray:=⟨_,gi,rfl,_,rfl⟩
 refine call_all_walk (wpAny_pyIter_list hl ?_)
 have hne:=Nat.ne_of_lt (Heap.lt_size gi)
 refine ⟨_,_,_,_,_,_,fun j=>(bs[j]?).getD false,rfl,Walks.list (A:=A.in1) hn _ _ hne items.toArray,⟨⟨_,Heap.get?_push_size _ rfl,rfl,rfl⟩,hl.push _⟩,fun j v s Q E hP hQ=>?_,fun h' tk hk=>?_⟩
 ·obtain ⟨b,e1,rfl⟩:=s9 l (j:=j) (v:=v) ((List.getElem?_toArray ..).symm.trans hP)
  have hQ:Q ((bs[j]?).getD false) s:=hQ
  rw [e1] at hQ
  exact wpAny_truthy_bool hQ
 ·rw [List.size_toArray,l.length,List.length_map,tc]
  exact eN R ok (fun b o e=>hk b o (fun hm=>Nat.ne_of_lt (Heap.lt_size e) (List.mem_singleton.mp hm)) (Heap.get?_push_of_some _ e)) (.bool _) hq
end
end Internal
end
section
namespace Internal
open PySem PyProof.Rows
section
variable {C:Glo}{F:Fm}{X:XM}{ρ:List Addr}{m:MS}{s:Shared}{Q:PQ}{E:Value→Shared→Prop}{A:Around}{h:Heap}{hp:List MO}
theorem B7 (hn:A.handled=none)(R:Rel C F ρ m s)(ok:aU F){i:Nat}{v:Value}(hx:Rep C ρ s.heap (.ref i) v){n:Str}{f:Value}(hb:mo .sum=some (n,f))(h:eI .sum (.ref i) Q m):wpAny (mod C) A (call f [v]) (Out C F ρ s Q) E s:=aw hb
end
end Internal
end
section
set_option maxRecDepth 100000
namespace Internal
open PySem PyProof.Rows
theorem yR:typeLookup (.type "list") "keys"=pure none:=by rw [typeLookup_type,builtinLookup_eq_fast];kernel_rfl
section
variable {prog:Program}{w:World}{A:Around}{E:Value→Shared→Prop}{s:Shared}
theorem yS {a:Addr}{xs:Array Value}{k:Nat}{Q:Option Value→Shared→Prop}(hx:s.heap.get? a=some { cls:=.type "list",dict:=none,data:=.seq xs k,slots:=#[] })(hA:A.handled=none)
  (h:∀h' tk,(∀b o,s.heap.get? b=some o→h'.get? b=some o)→Q none { s with heap:=h',toks:=tk }):wpAny (model prog w) A (getAttr? (.ref a) "keys") Q E s:=by
 obtain ⟨hp,g,d,tk,os⟩:=s
 have hT:∀tk',(⟨hp,g,d,tk',os⟩:Shared).TypeIs (.ref a) "list":=fun _=>⟨_,hx,rfl⟩
 have f1:=sub_AttributeError
 have f3:=F.slot_list_getattribute.lookup
 have f4:=F.slot_list_getattribute.bind (.ref a)
 have f5:=am_list_getattr_none
 unfold getAttr? getAttrBy? getAttrBy
 repeat (any_goals (first | assumption | exact hT _ | ((with_reducible show wpAny _ _ (call (Value.builtin "list.__getattribute__") _ _) _ _ _);refine call_meets F.slot_list_getattribute (hT _) am_entry_list_getattribute (F.args_list_getattribute_2 _ _) (meets_getattribute_miss_list a xs k #[] "keys" _ yR (by decide) (by size_fits)) ⟨hx,hA,fun h' tk' e hx'=>?_⟩) | wp_step))
 obtain ⟨t',u',he⟩:=hx'.there
 show wpAny _ _ (getattributeRaised _ _ _ _ _ _ _) _ _ _
 unfold getattributeRaised
 repeat (any_goals (first | assumption | wp_step))
 exact h h' tk' hx'.keeps
theorem mJ:entryFor table "dict.update.loop"=some Builtin.«dict.update.loop»:=entryFor_of_tree (by kernel_rfl)
theorem gm:plainId "dict.update.loop"=true:=by decide +kernel
noncomputable def nK (h:Heap)(items:List Value)(ps:List (Str × Value)):Prop:=items.length=ps.length∧∀(j:Nat) p,ps[j]?=some p→∃t tk n,items[j]?=some (.ref t)∧h.get? t=some (mj [.str p.1 tk,p.2] n)
theorem qk {K:Type} [DecidableEq K] {kvs:List (K × Value)}{k:K}{v:Value}(h:k∉kvs.map (·.1)):stored kvs k v=kvs++[(k,v)]:=by
 unfold stored
 rw [if_neg]
 intro q
 obtain ⟨p,hp,e⟩:=List.any_eq_true.mp q
 exact h (List.mem_map.mpr ⟨p,hp,by simpa using e⟩)
theorem vc {I l d:Addr}{items:List Value}{ps:List (Str × Value)}{R:Result→Shared→Prop}(hA:A.handled=none)(hnd:(ps.map (·.1)).Nodup)(hz:ps.length≤sizeLine)(hlI:l≠I)(hdI:d≠I)(hdl:d≠l)(h0:Heap)(hp:nK h0 items ps)(hI0:h0.get? I=none)(hd0:h0.get? d=none) :
  ∀(k i:Nat) (s:Shared) (n:Int) (u:Tok),ps.length-i=k→i≤ps.length→(∀b o,h0.get? b=some o→s.heap.get? b=some o)→s.heap.IsListIter I l i→s.heap.IsList l items.toArray→s.heap.DictOf (strKind prog w) d (ps.take i)→
   (∀h' tk,(∀b o,b≠I→b≠d→s.heap.get? b=some o→h'.get? b=some o)→h'.DictOf (strKind prog w) d ps→R (.ok (.ret .none)) { s with heap:=h',toks:=tk })→
   codeAny (model prog w) A (.builtin "dict.update.loop" ⟨[.ref d,.ref I,.int n u,.none],[]⟩) R s:=by
 have W:=Walks.list (prog:=prog) (w:=w) (A:=A.in1) hA I l hlI items.toArray
 have hsz:items.toArray.size=ps.length:=by rw [List.size_toArray];exact hp.1
 intro k
 induction k with
 | zero=>
  intro i s n u hk hi hb hit hli hdo hR
  have hin:i=ps.length:=Nat.le_antisymm hi (Nat.le_of_sub_eq_zero hk)
  subst hin
  refine codeAny_builtin mJ ?_
  rw [Around.under_plainId gm _]
  show wpAny _ A.in1 (pyNext (.ref I) >>= _) _ _ s
  refine wpAny_bind (W.done s _ _ ⟨by rw [hsz];exact hit,hli⟩ fun h' tk hk'=>?_)
  have hk2:∀b o,b≠I→s.heap.get? b=some o→h'.get? b=some o:=fun b o hb e=>hk' b o (fun q=>hb (List.mem_singleton.mp q)) e
  obtain ⟨o,es,ep,e,r⟩:=hdo
  rw [List.take_length] at r
  exact wpAny_bind (wpAny_pure (wpAny_pure (hR h' tk (fun b o h1 _ e=>hk2 b o h1 e) ⟨o,es,ep,hk2 _ _ hdI e,r⟩)))
 | succ k ih=>
  intro i s n u hk hi hb hit hli hdo hR
  have hlt:i<ps.length:=Nat.lt_of_sub_eq_succ hk
  obtain ⟨t,tk,c,e1,e2⟩:=hp.2 i ps[i] (List.getElem?_eq_getElem hlt)
  refine codeAny_builtin mJ ?_
  rw [Around.under_plainId gm _]
  show wpAny _ A.in1 (pyNext (.ref I) >>= _) _ _ s
  refine wpAny_bind (W.item i s _ _ (by rw [hsz];exact hlt) ⟨hit,hli⟩ fun v h' tk' hP hst hk'=>?_)
  have hk2:∀b o,b≠I→s.heap.get? b=some o→h'.get? b=some o:=fun b o hb e=>hk' b o (fun q=>hb (List.mem_singleton.mp q)) e
  have hv:v=.ref t:=by
   have:items.toArray[i]?=some v:=hP
   rw [List.getElem?_toArray,e1] at this
   exact (Option.some.inj this).symm
  subst hv
  have htI:t≠I:=fun q=>aX hI0 (q▸e2)
  have htd:t≠d:=fun q=>aX hd0 (q▸e2)
  have ht:=hk2 _ _ htI (hb _ _ e2)
  obtain ⟨o,es,ep,e,r⟩:=hdo
  have hdo':h'.DictOf (strKind prog w) d (ps.take i):=⟨o,es,ep,hk2 _ _ hdI e,r⟩
  have hlen:(ps.take i).length≤sizeLine:=Nat.le_trans (by rw [List.length_take];exact Nat.min_le_right ..) hz
  have hkey:ps[i].1∉(ps.take i).map (·.1):=fun hm=>by
   have hps:ps=ps.take i++ps[i]::ps.drop (i+1):=by
    rw [←List.drop_eq_getElem_cons hlt,List.take_append_drop]
   rw [hps,List.map_append] at hnd
   exact (List.nodup_append.mp hnd).2.2 _ hm _ (.head _) rfl
  show wpAny _ A.in1 (holding [Value.ref t] _ >>= fun _=>_) _ _ _
  refine wpAny_bind (wpAny_holding (wpAny_bind (wpAny_tryCatch ?_)))
  unfold Builtin.Dict.pairItems
  refine wpAny_bind (wpAny_typeOf (T:="tuple") ⟨_,ht,rfl⟩ ?_)
  rw [if_pos (by decide)]
  refine wpAny_bind (wpAny_seqItems ht rfl (wpAny_pure ?_))
  show wpAny _ A.in1 (holding [Value.str ps[i].1 tk,ps[i].2] (dictSet d (Value.str ps[i].1 tk) ps[i].2)) _ _ _
  refine wpAny_holding (wpAny_dictSet_pairs (knd:=PySem.strKind prog w) (fC _ _ _ _) hdo' (fun h2 hd2 hs2=>?_) hlen)
  rw [qk hkey] at hd2
  have hk3:∀b o,b≠I→b≠d→s.heap.get? b=some o→h2.get? b=some o:=fun b o h1 h2 e=>(hs2.2 b h2).trans (hk2 b o h1 e)
  have e5:ps.take i++[(ps[i].1,ps[i].2)]=ps.take (i+1):=by rw [List.take_add_one,List.getElem?_eq_getElem hlt];rfl
  rw [e5] at hd2
  refine wpAny_pure ⟨plainId_quiet gm _,ih (i+1) _ _ _ (by rw [Nat.sub_succ,hk];rfl) hlt (fun b o e=>?_) ?_ ?_ hd2 fun h3 tk3 hk4 hd3=>?_⟩
  ·exact hk3 b o (fun q=>aX hI0 (q▸e)) (fun q=>aX hd0 (q▸e)) (hb b o e)
  ·exact hst.1.at fun o e=>(hs2.2 I (Ne.symm hdI)).trans e
  ·exact hst.2.at fun o e=>(hs2.2 l (Ne.symm hdl)).trans e
  ·exact hR h3 tk3 (fun b o h1 h2 e=>hk4 b o h1 h2 (hk3 b o h1 h2 e)) hd3
theorem jW {l:Addr}{items:List Value}{n:Nat}{ps:List (Str × Value)}{Q:Value→Shared→Prop}(hA:A.handled=none)(hl:s.heap.get? l=some (cF items n))(hp:nK s.heap items ps)(hnd:(ps.map (·.1)).Nodup)(hz:ps.length≤sizeLine)
  (h:∀h' tk,h'.DictOf (PySem.strKind prog w) s.heap.objs.size ps→(∀b o,s.heap.get? b=some o→h'.get? b=some o)→Q (.ref s.heap.objs.size) { s with heap:=h',toks:=tk }):wpAny (model prog w) A (call (.type "dict") [.ref l]) Q E s:=by
 refine callType_codes (Q₁:=fun obj s₁=>obj=.ref s.heap.objs.size∧s₁={ s with heap:=s.heap.push { cls:=.type "dict",data:=.dict #[] } }) F.kt_called_dict (F.kt_typeCall_dict_1 _) F.entry_dict_init (kt_code_dict_new _ ⟨rfl,rfl⟩) ?_
 rintro obj s₁ ⟨rfl,rfl⟩
 have hnew:(s.heap.push { cls:=.type "dict",data:=.dict #[] }).DictOf (PySem.strKind prog w) s.heap.objs.size []:=Heap.DictOf.new s.heap
 have hl':(s.heap.push { cls:=.type "dict",data:=.dict #[] }).get? l=some (cF items n):=Heap.get?_push_of_some _ hl
 have hdl:s.heap.objs.size≠l:=fun e=>absurd (Heap.lt_size hl) (by rw [e];exact Nat.lt_irrefl _)
 refine ⟨hnew.typeIs,F.args_dict_init_2 _ _,?_⟩
 unfold Builtin.«dict.__init__»
 refine wpAny_bind ?_
 unfold Builtin.Dict.selfAndRest
 refine wpAny_bind (wpAny_notOrdered_dict hnew.typeIs ?_)
 show wpAny _ _ (pure (s.heap.objs.size,[Value.ref l])) _ _ _
 refine wpAny_pure ?_
 show wpAny _ _ (Builtin.Dict.updateFrom "dict.__init__" s.heap.objs.size (.ref l) [] .none) _ _ _
 unfold Builtin.Dict.updateFrom
 refine wpAny_bind (wpAny_typeOf (T:="list") ⟨_,hl',rfl⟩ ?_)
 rw [if_pos (by decide)]
 refine wpAny_bind (yS hl' hA fun h2 tk2 hk2=>?_)
 rw [if_pos (by rfl)]
 refine wpAny_bind (wpAny_rule ?_)
 have hl2:h2.IsList l items.toArray:=⟨_,hk2 _ _ hl',rfl,_,rfl⟩
 have hn2:h2.DictOf (PySem.strKind prog w) s.heap.objs.size []:=let ⟨o,es,ep,e,r⟩:=hnew;⟨o,es,ep,hk2 _ _ e,r⟩
 have hsz:s.heap.objs.size<h2.objs.size:=by obtain ⟨_,_,_,e,_⟩:=hn2;exact Heap.lt_size e
 refine wpAny_bind (wpAny_pyIter_list hl2 ?_)
 have old:∀b o,s.heap.get? b=some o→(h2.push { cls:=.type "list_iterator",data:=.fields #[.ref l,.int 0 0] }).get? b=some o:=fun b o e=>Heap.get?_push_of_some _ (hk2 b o (Heap.get?_push_of_some _ e))
 refine wpAny_pure ⟨plainId_quiet gm _,?_⟩
 refine vc (A:=A.in1) (prog:=prog) (w:=w) (show A.in1.handled=none from hA) hnd hz (l:=l) (I:=h2.objs.size) (items:=items) ?_ (Nat.ne_of_lt hsz) hdl s.heap hp ?_ (bk (Nat.le_refl _)) ps.length 0 _ 0 0 (rfl) (Nat.zero_le _) old ⟨_,Heap.get?_push_size _ rfl,rfl,rfl⟩ (hl2.push _) ?_ fun h3 tk3 hk3 hd3=>⟨rfl,?_⟩
 ·obtain ⟨_,e,_⟩:=hl2;exact Nat.ne_of_lt (Heap.lt_size e)
 ·exact bk (Nat.le_of_lt hsz)
 ·obtain ⟨o,es,ep,e,r⟩:=hn2;exact ⟨o,es,ep,Heap.get?_push_of_some _ e,r⟩
 ·refine h h3 tk3 hd3 fun b o e=>hk3 b o (fun q=>?_) (fun q=>?_) (old b o e)
  ·have:=Heap.lt_size e;rw [q] at this;exact Nat.lt_asymm hsz this
  ·have:=Heap.lt_size e;rw [q] at this;exact Nat.lt_irrefl _ this
end
section
variable {C:Glo}{F:Fm}{ρ:List Addr}{m:MS}{s:Shared}{Q:PQ}{E:Value→Shared→Prop}{A:Around}
theorem td {es:List (List Nat × MV)}{items:List Value}{h:Heap}(l:aD C ρ h (es.map fun p=>.tup [.str p.1,p.2]) items):∃ps,nK h items ps∧dH C ρ h es ps:=by
 induction es generalizing items with
 | nil=>obtain rfl:=l.inv;exact ⟨[],⟨rfl,fun j p e=>aw e⟩,.nil⟩
 | cons p es ih=>
  obtain ⟨v,ws,rfl,a,b⟩:=l.inv
  obtain ⟨ps,⟨h1,h2⟩,h3⟩:=ih b
  obtain ⟨ad,n,its,rfl,g,r,_⟩:=a.inv
  obtain ⟨u,w,rfl,r1,r2⟩:=r.two
  obtain ⟨t,rfl,z⟩:=r1.inv
  refine ⟨(str p.1,_)::ps,⟨congrArg (·+1) h1,fun j q e=>?_⟩,.cons z r2 h3⟩
  cases j with
  | zero=>obtain rfl:=Option.some.inj e;exact ⟨_,t,_,rfl,g⟩
  | succ j=>exact h2 j q e
theorem te {es:List (List Nat × MV)}{kvs:List (Str × Value)}{h:Heap}(r:dH C ρ h es kvs):kvs.map (·.1)=(es.map (·.1)).map fun k=>(str k:Str):=by
 induction r with
 | nil=>rfl
 | cons _ _ _ ih=>rw [List.map_cons,ih];rfl
theorem nL (hn:A.handled=none)(R:Rel C F ρ m s)(ok:aU F){i:Nat}{xs:List MV}{v:Value}(hx:Rep C ρ s.heap (.ref i) v)(hi:m.heap[i]?=some (.list xs))(h:ux xs fun es=>Q (.ref m.heap.length) (m.push (.dict es))):wpAny (mod C) A (call (.type "dict") [v]) (Out C F ρ s Q) E s:=by
 obtain ⟨_,es,rfl,hnd,hl,hq⟩:=h
 obtain ⟨a,rfl,g⟩:=hx.inv
 obtain ⟨items,n,gi,l,z⟩:=R.hp.objs _ _ _ hi g
 obtain ⟨ps,hp,rk⟩:=td l
 have hnd':(ps.map (·.1)).Nodup:=by
  rw [te rk]
  exact List.pairwise_map.mpr (hnd.imp fun hne e=>hne (ik e))
 have hz:ps.length≤line:=by rw [rk.length];exact Nat.le_trans (Nat.le_of_lt hl) (by unfold line;decide)
 refine jW hn gi hp hnd' hz fun h' tk hd hk=>?_
 obtain ⟨R',st⟩:=R.alloc (s':={ s with heap:=h',toks:=tk }) ok hk rfl rfl (o:=.dict es) (a:=s.heap.objs.size) (bk (Nat.le_refl _))
  ⟨ps,hd,rk.up (fun a o e _=>hk a o e) (List.prefix_append _ _),by rw [←rk.length];exact hz⟩
 exact ⟨_,_,_,st,R',.ref (qi R),hq⟩
end
end Internal
end
section
namespace Internal
open PySem PyProof.Rows
section
variable {C:Glo}{F:Fm}{X:XM}{ρ:List Addr}{m:MS}{s:Shared}{Q:PQ}{E:Value→Shared→Prop}{A:Around}
theorem Es (R:Rel C F ρ m s)(ok:aU F){z:List Nat}{t:Tok}(h:eI .int (.str z) Q m):wpAny (mod C) A (call (.type "int") [.str (str z) t]) (Out C F ρ s Q) E s:=by
 exact absurd (show AM=true∧_ from h).1 (by decide)
end
end Internal
end
section
namespace Internal
open PySem PyProof.Rows
section
variable {C:Glo}{F:Fm}{X:XM}{ρ:List Addr}{m:MS}{s:Shared}{Q:PQ}{E:Value→Shared→Prop}{A:Around}{h:Heap}{hp:List MO}
theorem th (G:GOk C)(hn:A.handled=none)(R:Rel C F ρ m s)(ok:aU F){x:MV}{v:Value}(hx:Rep C ρ s.heap x v)(h:ou x Q m):wpAny (mod C) A (call (.type "list") [v]) (Out C F ρ s Q) E s:=by
 have key:∀{a:Addr} {ys:List MV} {items:List Value} {k:Nat} {T:String},(T="list"∨T="tuple")→s.heap.get? a=some { cls:=.type T,dict:=none,data:=.seq items.toArray k,slots:=#[] }→aD C ρ s.heap ys items→ys.length≤line→Q (.ref m.heap.length) (m.push (.list ys))→wpAny (mod C) A (call (.type "list") [.ref a]) (Out C F ρ s Q) E s:=fun {a ys items k T} hT gi l z h=>by
  refine call_list_seq _ hT gi rfl rfl (fun h' c' hk hn=>?_) (by rw [List.size_toArray,l.length];exact z)
  obtain ⟨R',st⟩:=R.alloc (s':={ s with heap:=h' }) ok hk rfl rfl (o:=.list ys) (a:=s.heap.objs.size) (bk (Nat.le_refl _))
   ⟨items,c',hn,l.up (fun a o e _=>hk a o e) (List.prefix_append _ _),z⟩
  exact ⟨_,_,_,st,R',.ref (qi R),h⟩
 refine Classical.byContradiction fun hc=>?_
 cases x with
 | ref i=>
  obtain ⟨ys,hi,h⟩ | ⟨ys,hi,h⟩:=ig h
  ·obtain ⟨a,rfl,g⟩:=hx.inv
   obtain ⟨items,n,gi,l,z⟩:=R.hp.objs _ _ _ hi g
   exact hc (key (.inl rfl) gi l z h)
  ·exact hc (oQ G hn R ok hx hi h.1 h.2)
 | tup ys=>
  obtain ⟨a,n,items,rfl,gi,l,z⟩:=hx.inv
  exact hc (key (.inr rfl) gi l z h)
 | _=>exact h
theorem ve (R:Rel C F ρ m s)(ok:aU F){x:MV}{v:Value}(hx:Rep C ρ s.heap x v)(h:eI .int x Q m):wpAny (mod C) A (call (.type "int") [v]) (Out C F ρ s Q) E s:=by
 refine Classical.byContradiction fun hn=>?_
 cases x with
 | bool c=>obtain rfl:=hx.inv;exact hn (call_int_bool (bD R ok (.int _ _) (by cases c<;>exact h)))
 | str z=>
  obtain ⟨t,rfl,_⟩:=hx.inv
  exact hn (Es R ok h)
 | _=>exact h
theorem vf (R:Rel C F ρ m s)(ok:aU F){x:MV}{v:Value}(hx:Rep C ρ s.heap x v)(h:eI .str x Q m):wpAny (mod C) A (call (.type "str") [v]) (Out C F ρ s Q) E s:=by
 refine Classical.byContradiction fun hn=>?_
 cases x with
 | str z=>obtain ⟨t,rfl,_⟩:=hx.inv;exact hn (PySem.P.str_of_str (bS R hx h))
 | int i=>
  obtain ⟨t,rfl⟩:=hx.inv
  refine hn (PySem.P.str_of_int (yP h.1) ?_)
  have e:(Str.ofString (toString i):Str)=str (dec i):=by rw [Str.ofString_eq_toList];rfl
  rw [e]
  exact bD R ok (.str _ _ (Nat.le_trans (yE h.1) (by decide))) h.2
 | _=>exact h
theorem B8 (G:GOk C)(R:Rel C F ρ m s)(ok:aU F){b:Bi}(hh:j9 b=true∨A.handled=none){xs:List MV}{vs:List Value}(hl:aD C ρ s.heap xs vs){n:Str}{f:Value}(hb:mo b=some (n,f))(hns:b≠.sorted)(h:mD b xs Q m) :
  wpAny (mod C) A (call f vs) (Out C F ρ s Q) E s:=by
 have hf:∀{f':Value} {n':Str},some (n',f')=some (n,f)→wpAny (mod C) A (call f' vs) (Out C F ρ s Q) E s→wpAny (mod C) A (call f vs) (Out C F ρ s Q) E s:=fun e k=>by
  obtain rfl:_=f:=congrArg Prod.snd (Option.some.inj e);exact k
 obtain ⟨x,rfl,h⟩ | ⟨x,y,rfl,h⟩:=ut h
 ·obtain ⟨v,rfl,hx⟩:=hl.one
  refine Classical.byContradiction fun hn=>?_
  cases b with
  | len=>exact hn (hf hb (B1 G R ok hx h))
  | list=>exact hn (hf hb (th G (hh.resolve_left (by decide)) R ok hx h))
  | all=>
   obtain ⟨i,rfl,h1⟩:=dI h
   exact hn (B6 (hh.resolve_left (by decide)) R ok hx hb h)
  | sum=>
   obtain ⟨i,rfl,h1⟩:=dI h
   exact hn (B7 (hh.resolve_left (by decide)) R ok hx hb h)
  | int=>exact hn (hf hb (ve R ok hx h))
  | str=>exact hn (hf hb (vf R ok hx h))
  | tuple=>
   obtain ⟨i,rfl,h1⟩:=dI h
   obtain ⟨ys,hi,h1⟩:=bX h1
   exact hn (hf hb (qj R ok hx hi h1))
  | dict=>
   obtain ⟨i,rfl,h1⟩:=dI h
   obtain ⟨ys,hi,h1⟩ | ⟨ys,hi,h1⟩:=ig h1
   ·exact hn (hf hb (nL (hh.resolve_left (by decide)) R ok hx hi h1))
   ·exact hn (hf hb (s8 G R ok hx hi h1))
  | min=>
   obtain ⟨i,rfl,h1⟩:=dI h
   exact hn (yQ (hh.resolve_left (by decide)) R ok hx hb h)
  | max=>exact h
  | sorted=>exact hns rfl
  | _=>exact aw hb
 ·obtain ⟨v,w,rfl,hx,hy⟩:=hl.two
  obtain ⟨i,j,t,u,rfl,rfl,h⟩:=gc hx hy h
  refine Classical.byContradiction fun hn=>?_
  cases b with
  | min=>exact hn (B2 (hh.resolve_left (by decide)) R ok hb h)
  | max=>exact hn (B4 (hh.resolve_left (by decide)) R ok hb h)
  | _=>exact h
end
end Internal
end
section
namespace Internal
open PySem PyProof.Rows
set_option genCtorIdx false in
structure Cx where
 kind:Str→Option NameKind
 nm:Nat→Option Str
 fn:Nat→Option Str
 gl:Nat→Option (Str × MV)
 wr:Bool
 fr:Nat→Bool
 nh:Bool
 hf:Nat→Bool
 cn:Nat→Option Str
 xn:Nat→Option Str
 mt:Nat→Option (Nat × Str)
 at_:Nat→Str→Bool
noncomputable def dbg (x:Str):Bool:=x==("__debug__":Str)
noncomputable def cdc (x:Str):Bool:=x==("__classdict__":Str)
noncomputable def bZ:List (Str × Value):=[("len",.builtin "len"),("int",.type "int"),("str",.type "str"),("list",.type "list"),("tuple",.type "tuple"),("dict",.type "dict"),
 ("bool",.type "bool"),("isinstance",.builtin "isinstance"),("range",.type "range"),("enumerate",.type "enumerate"),("sorted",.builtin "sorted"),("set",.type "set"),("all",.builtin "all"),("min",.builtin "min"),("max",.builtin "max"),("ValueError",.type "ValueError"),("sum",.builtin "sum"),("reversed",.type "reversed")]
inductive vg (C:Glo)(g b:Addr)(fn:Nat→Option Str)(gl:Nat→Option (Str × MV))(cn xn:Nat→Option Str):Prop
 | mk (mg mb:Str→Option Value) (h1:C.base.Ns g mg) (h2:C.base.Ns b mb) (hf:∀f x,fn f=some x→∃a,C.fa f=some a∧mg x=some (.ref a)) (hg:∀g x v,gl g=some (x,v)→∃w,mg x=some w∧∀ρ h,C.base.StaysIn h→Rep C ρ h v w)
   (hb:∀x v,(x,v)∈bZ→mg x=none∧mb x=some v) (hc:∀k x,cn k=some x→∃K,C.ca k=some K∧mg x=some (.ref K)) (hx:∀k x,xn k=some x→∃K,C.xa k=some K∧mg x=some (.ref K))
structure au (C:Glo)(c:Cx)(F:Fm)(n:Nat):Prop where
 fm:aU F
 kind:∀x,F.env.kindOf x=c.kind x
 nm:∀i x,c.nm i=some x→(F.env.kindOf x=some .local∧F.lay i=some (.nm F.env.locals x))∨
  (∃a,(F.env.kindOf x=some .cell∨(F.env.kindOf x=some .free∧cdc x=false))∧F.env.cells.lookup x=some a∧F.lay i=some (.cl a))
 glob:vg C F.env.globals F.env.builtins c.fn c.gl c.cn c.xn
 meth:∀f k x,c.mt f=some (k,x)→∃a,C.fa f=some a∧C.cm k x=some (.ref a)∧∃o,C.base.get? a=some o∧o.cls=.type "function"
 attr:∀k x,c.at_ k x=true→C.cm k x=none
 hn:c.nh=true→F.A.handled=none
 hf:c.hf=C.hf
 units:F.A.units≤3 * F.A.depth+4
 room:F.A.depth+n≤999
 inter:interactive F.env=false
 wr:∀i a,F.lay i=some (.cl a)→c.wr=true→a∈F.W
 fr:∀i,c.fr i=true→F.lay i=none
theorem au.u {C:Glo}{c:Cx}{F:Fm}{n:Nat}(x:au C c F n):F.A.units+1001<cLine:=by
 have:=x.units;have:=x.room;show _<9900;lia
section
variable {C:Glo}{F:Fm}{X:XM}{ρ:List Addr}{m:MS}{s:Shared}{Q:PQ}{E:Value→Shared→Prop}{A:Around}{c:Cx}{n:Nat}
theorem gq (H:Hp C ρ m.heap s.heap){a:Addr}{f:Str→Option Value}(h:C.base.Ns a f):s.heap.Ns a f:=j6 h fun o e=>⟨o,H.base a o e,rfl⟩
theorem rB (cx:au C c F n)(R:Rel C F ρ m s){i:Nat}{x:Str}(hx:c.nm i=some x){v:MV}(hv:m.get i=some v){p:Pos}(hd:dbg x=false){P:Value→Shared→Prop}(hq:∀w,Rep C ρ s.heap v w→P w s) :
  wpAny (mod C) A (eval (.Name x p) F.env) P E s:=by
 obtain ⟨l,h1,h2⟩:=R.vars i v hv
 refine wpAny_Name ?_ hd
 rcases cx.nm i x hx with ⟨k,e⟩ | ⟨a,k,e1,e⟩
 ·obtain rfl:=same e h1
  obtain ⟨f,w,hn,hw,r⟩:=h2
  exact wpAny_loadName_local cx.fm.kind k hn hw (hq _ r)
 ·obtain rfl:=same e h1
  obtain ⟨w,hc,r⟩:=h2
  rcases k with k | ⟨k,kd⟩
  ·exact wpAny_loadName_cell cx.fm.kind k e1 hc (hq _ r)
  ·exact wpAny_loadName_free cx.fm.kind k e1 hc (hq _ r) kd
theorem vh (cx:au C c F n)(R:Rel C F ρ m s){i:Nat}{x:Str}(hx:c.nm i=some x){v:MV}(hv:m.get i=some v){p:Pos}(hd:dbg x=false)(hq:Q v m) :
  wpAny (mod C) A (eval (.Name x p) F.env) (Out C F ρ s Q) E s:=rB cx R hx hv hd fun _ r=>bS R r hq
theorem cr (cx:au C c F n)(R:Rel C F ρ m s){x:Str}{v:Value}(hm:(x,v)∈bZ)(hk:c.kind x=some .globalImplicit){p:Pos}(hd:dbg x=false){P:Value→Shared→Prop}(h:P v s) :
  wpAny (mod C) A (eval (.Name x p) F.env) P E s:=by
 obtain ⟨mg,mb,h1,h2,_,_,h3,_⟩:=cx.glob
 exact Calls.Name_function_global cx.fm.kind ((cx.kind x).trans hk) (Calls.loadGlobal_builtin (gq R.hp h1) (h3 x v hm).1 (gq R.hp h2) (h3 x v hm).2 h) hd
theorem yT (cx:au C c F n)(R:Rel C F ρ m s){x:Str}{f:Nat}(hm:c.fn f=some x)(hk:c.kind x=some .globalImplicit){p:Pos}(hd:dbg x=false){P:Value→Shared→Prop}(h:∀a,C.fa f=some a→P (.ref a) s) :
  wpAny (mod C) A (eval (.Name x p) F.env) P E s:=by
 obtain ⟨mg,mb,h1,h2,h3,_⟩:=cx.glob
 obtain ⟨a,e1,e2⟩:=h3 f x hm
 exact Calls.Name_function_global cx.fm.kind ((cx.kind x).trans hk) (Calls.loadGlobal_global (gq R.hp h1) e2 (h a e1)) hd
theorem yU (cx:au C c F n)(R:Rel C F ρ m s){x:Str}{g:Nat}{v:MV}(hm:c.gl g=some (x,v))(hk:c.kind x=some .globalImplicit){p:Pos}(hd:dbg x=false)(hq:Q v m) :
  wpAny (mod C) A (eval (.Name x p) F.env) (Out C F ρ s Q) E s:=by
 obtain ⟨mg,mb,h1,h2,_,h3,_⟩:=cx.glob
 obtain ⟨w,e1,e2⟩:=h3 g x v hm
 exact Calls.Name_function_global cx.fm.kind ((cx.kind x).trans hk) (Calls.loadGlobal_global (gq R.hp h1) e1 (bS R (e2 ρ s.heap R.hp.base) hq)) hd
theorem vj (cx:au C c F n)(R:Rel C F ρ m s){x:Str}{k:Nat}(hm:c.cn k=some x)(hk:c.kind x=some .globalImplicit){p:Pos}(hd:dbg x=false){P:Value→Shared→Prop}(h:∀a,C.ca k=some a→P (.ref a) s) :
  wpAny (mod C) A (eval (.Name x p) F.env) P E s:=by
 obtain ⟨mg,mb,h1,h2,_,_,_,h3,_⟩:=cx.glob
 obtain ⟨a,e1,e2⟩:=h3 k x hm
 exact Calls.Name_function_global cx.fm.kind ((cx.kind x).trans hk) (Calls.loadGlobal_global (gq R.hp h1) e2 (h a e1)) hd
theorem vm (cx:au C c F n)(R:Rel C F ρ m s){x:Str}{k:Nat}(hm:c.xn k=some x)(hk:c.kind x=some .globalImplicit){p:Pos}(hd:dbg x=false){P:Value→Shared→Prop}(h:∀a,C.xa k=some a→P (.ref a) s) :
  wpAny (mod C) A (eval (.Name x p) F.env) P E s:=by
 obtain ⟨mg,mb,h1,h2,_,_,_,_,h3⟩:=cx.glob
 obtain ⟨a,e1,e2⟩:=h3 k x hm
 exact Calls.Name_function_global cx.fm.kind ((cx.kind x).trans hk) (Calls.loadGlobal_global (gq R.hp h1) e2 (h a e1)) hd
theorem d4 (cx:au C c F n)(R:Rel C F ρ m s){i:Nat}{x:Str}(hx:c.nm i=some x)(hk:c.kind x=some .local∨(c.wr=true∧c.kind x≠some .free)){v:MV}{w:Value}(hr:Rep C ρ s.heap v w){P:Unit→Shared→Prop}
  (h:∀s',aq F.W ρ s ρ s'→Rel C F ρ (m.set i v) s'→(∀a∈ρ,∀o,s.heap.get? a=some o→s'.heap.get? a=some o)→P () s'):wpAny (mod C) A (storeName F.env x w) P E s:=by
 rcases cx.nm i x hx with ⟨k,e⟩ | ⟨a,k,e1,e⟩
 ·obtain ⟨f,hf⟩:=R.ns
  refine wpAny_storeName_local k hf (fun h' hn hs=>?_) (by rw [cx.fm.kind];rfl)
  obtain ⟨R',st⟩:=R.setName (s':={ s with heap:=h',toks:=s.toks+1 }) cx.fm e hf hn hs rfl rfl hr
  exact h _ st R' fun b hb o e=>(hs.2 b fun q=>(R.w _ (List.mem_append_left _ cx.fm.loc)).1 (q▸hb)).trans e
 ·rcases k with k | ⟨k,_⟩
  ·obtain ⟨v₀,hc⟩:=R.cells i a e
   refine wpAny_storeName_cell cx.fm.kind k e1 hc fun h' hn hs=>?_
   have hwr:c.wr=true:=hk.elim (fun q=>absurd ((cx.kind x).symm.trans k) (by rw [q];decide)) (·.1)
   obtain ⟨R',st⟩:=R.setCell (s':={ s with heap:=h' }) cx.fm e (cx.wr i a e hwr) hc hn hs rfl rfl hr
   exact h _ st R' fun b hb o eb=>(hs.2 b fun q=>(R.w _ (List.mem_append_left _ (cx.wr i a e hwr))).1 (q▸hb)).trans eb
  ·exact hk.elim (fun q=>absurd ((cx.kind x).symm.trans k) (by rw [q];decide)) fun q=>absurd ((cx.kind x).symm.trans k) q.2
noncomputable def vn:Me→Option Str
 | .append=>some "append"
 | .find=>some "find"
 | .extend=>some "extend"
 | .pop=>some "pop"
 | .split=>some "split"
 | .join=>some "join"
 | .count=>some "count"
 | .dpop=>some "pop"
 | .dclear=>some "clear"
 | .get=>some "get"
 | _=>none
inductive Fi (C:Glo)(ρ:List Addr)(hp:List MO)(h:Heap)(x:MV)(v:Value)(r:Nat)(xs:List MV):Prop
 | mk (a:Addr) (items:List Value) (k:Nat) (hv:v=.ref a) (hx:x=.ref r) (g:ρ[r]?=some a) (hi:hp[r]?=some (.list xs)) (gi:h.get? a=some (cF items k)) (rl:aD C ρ h xs items) (z:xs.length≤line)
inductive Fj (C:Glo)(ρ:List Addr)(hp:List MO)(h:Heap)(x:MV)(v:Value)(r:Nat)(es:List (List Nat × MV)):Prop
 | mk (a:Addr) (kvs:List (Str × Value)) (hv:v=.ref a) (hx:x=.ref r) (g:ρ[r]?=some a) (hi:hp[r]?=some (.dict es)) (dk:h.DictOf (strKind C.prog C.w) a kvs) (rk:dH C ρ h es kvs) (z:es.length≤line)
theorem ir (H:Hp C ρ m.heap s.heap){x:MV}{v:Value}(hx:Rep C ρ s.heap x v){r:Nat}{xs:List MV}(h:lst x m.heap=some (r,xs)):Fi C ρ m.heap s.heap x v r xs:=by
 obtain ⟨rfl,hi⟩:=yx h
 obtain ⟨a,rfl,g⟩:=hx.inv
 obtain ⟨items,k,gi,rl,z⟩:=H.objs _ _ _ hi g
 exact ⟨a,items,k,rfl,rfl,g,hi,gi,rl,z⟩
theorem vo {x:MV}{hp:List MO}(h:(lst x hp).isSome=true):∃r xs,lst x hp=some (r,xs):=by
 obtain ⟨⟨r,xs⟩,h⟩:=Option.isSome_iff_exists.mp h
 exact ⟨r,xs,h⟩
theorem kI (ok:aU F){ρ₀:List Addr}{s₀:Shared}(st₀:aq F.W ρ₀ s₀ ρ s)(R:Rel C F ρ m s){r:Nat}{a:Addr}{xs ys:List MV}{items:List Value}{k:Nat}(g:ρ[r]?=some a)(hi:m.heap[r]?=some (.list xs)){h':Heap}{t:Nat}
  (hk:∀b ob,b≠a→s.heap.get? b=some ob→h'.get? b=some ob) (e:h'.get? a=some (cF items k)) (hr:aD C ρ s.heap ys items) (hz:ys.length≤line) {z:MV}{w:Value}(hw:Rep C ρ s.heap z w) (hq:Q z (m.put r (.list ys))) :
  Out C F ρ₀ s₀ Q w { s with heap:=h',toks:=t }:=by
 have hsol:aZ s.heap h':=cK hk (cq (R.hp.objs _ _ _ hi g))
 obtain ⟨R₂,st₂⟩:=R.put (s':={ s with heap:=h',toks:=t }) ok g hi (o:=.list ys) hk rfl rfl ⟨items,k,e,hr.up hsol (List.prefix_refl _),hz⟩
 exact ⟨_,_,z,st₀.trans st₂,R₂,hw.up hsol (List.prefix_refl _),hq⟩
theorem jA {items ys:List Value}{f:Array Value→Array Value}{k:Nat}(e:f items.toArray=ys.toArray):∃k',Obj.mapSeq f (cF items k)=cF ys k':=
 ⟨if (f items.toArray).size==items.toArray.size then k else k+1,congrArg (fun z=>({ cls:=.type "list",data:=.seq z (if (f items.toArray).size==items.toArray.size then k else k+1) }:Obj)) e⟩
theorem vp {id:String}{v:Value}{trees:List (Bool × Sem Value)}{pos:Pos}{P:Value→Shared→Prop}(hp:trees.any (·.1)=false)
  (h:wpAny (mod C) A (spliced trees) (fun vs s₁=>wpAny (mod C) A (call (.builtin id) (v::vs)) P E s₁) E s):wpAny (mod C) A (callWith pos (.builtin id) [v] trees []) P E s:=by
 refine Calls.callWith_builtin hp ?_
 cases trees with
 | nil=>exact wpAny_bind (wpAny_mono h (fun vs s' h'=>wpAny_holding (wpAny_bind (wpAny_pure (wpAny_bind (wpAny_pure (wpAny_pure h')))))) fun _ _ x=>x)
 | cons q trees=>
  obtain ⟨b,t⟩:=q
  simp only [List.any_cons,Bool.or_eq_false_iff] at hp
  obtain ⟨rfl,_⟩:=hp
  exact Calls.evalArgs_plain h
end
end Internal
end
section
namespace Internal
open PySem PyProof.Rows
section
variable {C:Glo}{F:Fm}{X:XM}{ρ:List Addr}{m:MS}{s:Shared}{Q:PQ}{E:Value→Shared→Prop}{A:Around}{c:Cx}{n:Nat}
set_option tactic.hygienic true in
theorem ql {α:Type}(xs:List α):(xs.toArray.eraseIdxIfInBounds (xs.toArray.size-1))=xs.dropLast.toArray:=by
 rw [List.size_toArray]
 apply Array.ext'
 simp [Array.eraseIdxIfInBounds]
 split
 ·simp [List.dropLast_eq_take]
 ·rename_i h
  have:xs=[]:=by
   cases xs with
   | nil=>rfl
   | cons a r=>simp at h
  subst this;rfl
theorem B9 (ok:aU F){x:MV}{v:Value}{ρ₀:List Addr}{s₀:Shared}(st₀:aq F.W ρ₀ s₀ ρ s)(R:Rel C F ρ m s)(hx:Rep C ρ s.heap x v){xs:List MV}{vs:List Value}(rl:aD C ρ s.heap xs vs)(h:cY .pop x xs Q m) :
  wpAny (mod C) A (call (.builtin "list.pop") (v::vs)) (Out C F ρ₀ s₀ Q) E s:=by
 replace h:=h.2
 obtain ⟨r,ys,hl,rfl,j1⟩:=j3 h
 obtain ⟨y,hy,j2⟩:=b8 j1
 obtain ⟨a,items,k,rfl,rfl,g,hi,gi,ri,z⟩:=ir R.hp hx hl
 cases rl with | nil=>
 obtain ⟨w,hw,rw'⟩:=ri.get hy
 have hsz:items.toArray.size=ys.length:=by rw [List.size_toArray,ri.length]
 refine call_meets PySem.F.slot_list_pop ⟨_,gi,rfl⟩ PySem.F.entry_list_pop (PySem.F.args_list_pop_1 _) (PySem.MeetsSeq.list_pop_last a items.toArray k w (by rw [hsz];simpa using hw) (by rw [hsz];exact z)) ⟨gi,?_⟩
 have hs:=Heap.SameBut.update s.heap a (Obj.mapSeq fun xs=>xs.eraseIdxIfInBounds (items.toArray.size-1))
 have hg:=Heap.get?_update_self (Obj.mapSeq fun xs=>xs.eraseIdxIfInBounds (items.toArray.size-1)) gi rfl
 obtain ⟨k₂,e₂⟩:=jA (k:=k) (f:=fun xs=>xs.eraseIdxIfInBounds (items.toArray.size-1)) (ql items)
 refine kI ok st₀ R g hi (t:=s.toks) (fun b ob q e=>(hs.2 b q).trans e) (items:=items.dropLast) (k:=k₂) (hg.trans (congrArg some e₂)) ?_ (Nat.le_trans (by rw [List.length_dropLast];exact Nat.sub_le ..) z) rw' j2
 rw [List.dropLast_eq_take,List.dropLast_eq_take,ri.length]
 exact ri.take _
end
end Internal
end
section
namespace Internal
open PySem PyProof.Rows
section
variable {C:Glo}{F:Fm}{X:XM}{ρ:List Addr}{m:MS}{s:Shared}{Q:PQ}{E:Value→Shared→Prop}{A:Around}{c:Cx}{n:Nat}
theorem vq (ok:aU F){x:List Nat}{t:Tok}{ρ₀:List Addr}{s₀:Shared}(st₀:aq F.W ρ₀ s₀ ρ s)(R:Rel C F ρ m s){xs:List MV}{vs:List Value}(rl:aD C ρ s.heap xs vs)(h:cY .split (.str x) xs Q m) :
  wpAny (mod C) A (call (.builtin "str.split") (.str (str x) t::vs)) (Out C F ρ₀ s₀ Q) E s:=by
 exact absurd (show hY=true∧_ from h).1 (by decide)
theorem yV (ok:aU F){x:List Nat}{t:Tok}{ρ₀:List Addr}{s₀:Shared}(st₀:aq F.W ρ₀ s₀ ρ s)(R:Rel C F ρ m s){xs:List MV}{vs:List Value}(rl:aD C ρ s.heap xs vs)(h:cY .join (.str x) xs Q m) :
  wpAny (mod C) A (call (.builtin "str.join") (.str (str x) t::vs)) (Out C F ρ₀ s₀ Q) E s:=by
 exact absurd (show hY=true∧_ from h).1 (by decide)
end
end Internal
end
section
namespace Internal
open PySem PyProof.Rows
section
variable {C:Glo}{F:Fm}{X:XM}{ρ:List Addr}{m:MS}{s:Shared}{Q:PQ}{E:Value→Shared→Prop}{A:Around}{c:Cx}{n:Nat}
noncomputable def yW:Me→String
 | .append=>"list.append"
 | .extend=>"list.extend"
 | .pop=>"list.pop"
 | .find=>"str.find"
 | .count=>"list.count"
 | .dpop=>"dict.pop"
 | .dclear=>"dict.clear"
 | .get=>"dict.get"
 | .join=>"str.join"
 | _=>"str.split"
noncomputable def yX:Me→String
 | .dpop=>"dict"
 | .dclear=>"dict"
 | .get=>"dict"
 | .join=>"str"
 | .find=>"str"
 | .split=>"str"
 | _=>"list"
inductive MeF (T:String)(name:Str)(id:String):Prop
 | mk (pa:PlainAttrs T) (sl:Slot T name id) (ty:typeOf (.builtin id)=pure (.type "method_descriptor"))
noncomputable def MeP (k:Me):Prop:=match vn k with
 | some name=>MeF (yX k) name (yW k)
 | none=>True
theorem Fk (k:Me):MeP k:=by
 cases k with
 | append=>exact ⟨PySem.F.plainAttrs_list,slot_list_append,rfl⟩
 | extend=>exact ⟨PySem.F.plainAttrs_list,PySem.F.slot_list_extend,rfl⟩
 | pop=>exact ⟨PySem.F.plainAttrs_list,PySem.F.slot_list_pop,rfl⟩
 | dpop=>exact ⟨PySem.F.plainAttrs_dict,PySem.F.slot_dict_pop,PySem.F.type_dict_pop⟩
 | dclear=>exact ⟨PySem.F.plainAttrs_dict,PySem.F.slot_dict_clear,PySem.F.type_dict_clear⟩
 | count=>exact ⟨PySem.F.plainAttrs_list,PySem.F.slot_list_count,PySem.F.type_list_count⟩
 | find=>exact ⟨PySem.F.plainAttrs_str,PySem.F.slot_str_find,PySem.F.type_str_find⟩
 | split=>exact ⟨PySem.F.plainAttrs_str,PySem.F.slot_str_split,PySem.F.type_str_split⟩
 | join=>exact ⟨PySem.F.plainAttrs_str,PySem.F.slot_str_join,PySem.F.type_str_join⟩
 | get=>exact ⟨PySem.F.plainAttrs_dict,PySem.F.slot_dict_get,PySem.F.type_dict_get⟩
 | _=>exact trivial
theorem Ca (ok:aU F){x:MV}{v:Value}{ρ₀:List Addr}{s₀:Shared}(st₀:aq F.W ρ₀ s₀ ρ s)(R:Rel C F ρ m s)(hx:Rep C ρ s.heap x v){xs:List MV}{vs:List Value}(rl:aD C ρ s.heap xs vs)(h:cY .append x xs Q m) :
  wpAny (mod C) A (call (.builtin "list.append") (v::vs)) (Out C F ρ₀ s₀ Q) E s:=by
 dsimp only [cY] at h
 obtain ⟨r,ys,hl,j1⟩:=j3 h
 obtain ⟨y,rfl,h1,h2⟩:=j4 j1
 obtain ⟨a,items,k,rfl,rfl,g,hi,gi,ri,z⟩:=ir R.hp hx hl
 obtain ⟨w1,rfl,ra⟩:=rl.one
 refine PySem.wpAny_list_append_plain ⟨_,gi⟩ (fun h' hl hs=>?_) (by rw [List.size_toArray,ri.length];exact z)
 obtain ⟨n,hl⟩:=hl
 exact kI ok st₀ R g hi (t:=s.toks) (fun b ob q e=>(hs.2 b q).trans e) (items:=items++[_]) (k:=n) (by rw [hl];simp) (ri.append (.cons ra .nil)) (by rw [List.length_append];exact h1) .none h2
theorem Cb (ok:aU F){x:MV}{v:Value}{ρ₀:List Addr}{s₀:Shared}(st₀:aq F.W ρ₀ s₀ ρ s)(R:Rel C F ρ m s)(hx:Rep C ρ s.heap x v){xs:List MV}{vs:List Value}(rl:aD C ρ s.heap xs vs)(h:cY .extend x xs Q m) :
  wpAny (mod C) A (call (.builtin "list.extend") (v::vs)) (Out C F ρ₀ s₀ Q) E s:=by
 dsimp only [cY] at h
 obtain ⟨r,ys,hl,j1⟩:=j3 h
 obtain ⟨y,rfl,j2⟩:=j4 j1
 obtain ⟨r',zs,hl',h1,h2⟩:=j3 j2
 obtain ⟨a,items,k,rfl,rfl,g,hi,gi,ri,z⟩:=ir R.hp hx hl
 obtain ⟨w1,rfl,ra⟩:=rl.one
 obtain ⟨a',items',k',rfl,rfl,g',hi',gi',ri',z'⟩:=ir R.hp ra hl'
 have hlen:items.toArray.size+items'.toArray.size≤sizeLine:=by rw [List.size_toArray,List.size_toArray,ri.length,ri'.length];exact h1
 have hlong:¬(!items.toArray.isEmpty&&Builtin.List.listTooLong (items.toArray.size+items'.toArray.size))=true:=by
  have:Builtin.List.listTooLong (items.toArray.size+items'.toArray.size)=false:=by
   unfold Builtin.List.listTooLong
   simpa using hlen
  rw [this,Bool.and_false];decide
 refine call_meets PySem.F.slot_list_extend ⟨_,gi,rfl⟩ PySem.F.entry_list_extend (PySem.F.args_list_extend_2 _ _) (PySem.AutoSeq1.list_extend_list_list_0 a items.toArray k a' items'.toArray k' hlong (Nat.le_trans (Nat.le_add_right ..) hlen) (Nat.le_succ_of_le hlen)) ⟨gi,gi',?_⟩
 have hs:=Heap.SameBut.update s.heap a (Obj.mapSeq fun x=>x++items'.toArray)
 have hg:=Heap.get?_update_self (Obj.mapSeq fun x=>x++items'.toArray) gi rfl
 have e:items.toArray++items'.toArray=(items++items').toArray:=List.append_toArray ..
 obtain ⟨k₂,e₂⟩:=jA (k:=k) (f:=fun x=>x++items'.toArray) e
 exact kI ok st₀ R g hi (t:=s.toks) (fun b ob q e=>(hs.2 b q).trans e) (items:=items++items') (k:=k₂) (hg.trans (congrArg some e₂)) (ri.append ri') (by rw [List.length_append];exact h1) .none h2
theorem yY (ok:aU F){x:List Nat}{t:Tok}{ρ₀:List Addr}{s₀:Shared}(st₀:aq F.W ρ₀ s₀ ρ s)(R:Rel C F ρ m s){xs:List MV}{vs:List Value}(rl:aD C ρ s.heap xs vs)(h:cY .find (.str x) xs Q m) :
  wpAny (mod C) A (call (.builtin "str.find") (.str (str x) t::vs)) (Out C F ρ₀ s₀ Q) E s:=by
 dsimp only [cY] at h
 obtain ⟨y,rfl,j1⟩:=j4 h
 obtain ⟨z,rfl,j2⟩:=nt j1
 obtain ⟨_,rfl,ra⟩:=rl.one
 obtain ⟨u,rfl,zu⟩:=ra.inv
 refine PySem.SC.find ?_
 obtain ⟨R₂,st₂⟩:=R.tok ok (s.toks+1)
 refine ⟨_,_,_,st₀.trans st₂,R₂,.int _ _,j2 _ ?_⟩
 unfold Txt.find
 split<;>exact Int.natCast_nonneg _
theorem yZ (H:Hp C ρ m.heap s.heap){x:MV}{v:Value}(hx:Rep C ρ s.heap x v){r:Nat}{es:List (List Nat × MV)}(h:dct x m.heap=some (r,es)):Fj C ρ m.heap s.heap x v r es:=by
 obtain ⟨rfl,hi⟩:=yz h
 obtain ⟨a,rfl,g⟩:=hx.inv
 obtain ⟨kvs,dk,rk,z⟩:=H.objs _ _ _ hi g
 exact ⟨a,kvs,rfl,rfl,g,hi,dk,rk,z⟩
theorem vt {x:MV}{hp:List MO}(h:(dct x hp).isSome=true):∃r xs,dct x hp=some (r,xs):=by
 obtain ⟨⟨r,xs⟩,h⟩:=Option.isSome_iff_exists.mp h
 exact ⟨r,xs,h⟩
end
end Internal
end
section
namespace Internal
open PySem PyProof.Rows
section
variable {C:Glo}{F:Fm}{X:XM}{ρ:List Addr}{m:MS}{s:Shared}{Q:PQ}{E:Value→Shared→Prop}{A:Around}{c:Cx}{n:Nat}
theorem y0 (ok:aU F){x:MV}{v:Value}{ρ₀:List Addr}{s₀:Shared}(st₀:aq F.W ρ₀ s₀ ρ s)(R:Rel C F ρ m s)(hx:Rep C ρ s.heap x v){xs:List MV}{vs:List Value}(rl:aD C ρ s.heap xs vs)(h:cY .dpop x xs Q m) :
  wpAny (mod C) A (call (.builtin "dict.pop") (v::vs)) (Out C F ρ₀ s₀ Q) E s:=by
 exact absurd (show jc=true∧_ from h).1 (by decide)
theorem ti (ok:aU F){x:MV}{v:Value}{ρ₀:List Addr}{s₀:Shared}(st₀:aq F.W ρ₀ s₀ ρ s)(R:Rel C F ρ m s)(hx:Rep C ρ s.heap x v){xs:List MV}{vs:List Value}(rl:aD C ρ s.heap xs vs)(h:cY .dclear x xs Q m) :
  wpAny (mod C) A (call (.builtin "dict.clear") (v::vs)) (Out C F ρ₀ s₀ Q) E s:=by
 exact absurd (show jc=true∧_ from h).1 (by decide)
theorem vv (ok:aU F){x:MV}{v:Value}{ρ₀:List Addr}{s₀:Shared}(st₀:aq F.W ρ₀ s₀ ρ s)(R:Rel C F ρ m s)(hx:Rep C ρ s.heap x v){xs:List MV}{vs:List Value}(rl:aD C ρ s.heap xs vs)(h:cY .count x xs Q m) :
  wpAny (mod C) A (call (.builtin "list.count") (v::vs)) (Out C F ρ₀ s₀ Q) E s:=by
 exact absurd (show jc=true∧_ from h).1 (by decide)
end
end Internal
end
section
namespace Internal
open PySem PyProof.Rows
section
variable {C:Glo}{F:Fm}{X:XM}{ρ:List Addr}{m:MS}{s:Shared}{Q:PQ}{E:Value→Shared→Prop}{A:Around}{c:Cx}{n:Nat}
theorem y1 (G:GOk C)(ok:aU F){x:MV}{v:Value}{ρ₀:List Addr}{s₀:Shared}(st₀:aq F.W ρ₀ s₀ ρ s)(R:Rel C F ρ m s)(hx:Rep C ρ s.heap x v){xs:List MV}{vs:List Value}(rl:aD C ρ s.heap xs vs)(h:cY .get x xs Q m) :
  wpAny (mod C) A (call (.builtin "dict.get") (v::vs)) (Out C F ρ₀ s₀ Q) E s:=absurd (show un=true∧_ from h).1 (by decide)
end
end Internal
end
section
namespace Internal
open PySem PyProof.Rows
section
variable {C:Glo}{F:Fm}{X:XM}{ρ:List Addr}{m:MS}{s:Shared}{Q:PQ}{E:Value→Shared→Prop}{A:Around}{c:Cx}{n:Nat}
theorem vw (G:GOk C)(ok:aU F){k:Me}{x:MV}{v:Value}{ρ₀:List Addr}{s₀:Shared}(st₀:aq F.W ρ₀ s₀ ρ s)(R:Rel C F ρ m s)(hx:Rep C ρ s.heap x v){xs:List MV}{vs:List Value}(rl:aD C ρ s.heap xs vs)(h:cY k x xs Q m)(hk:(vn k).isSome=true)
  (hs:meK k=.str→∃y,x=.str y) :
  wpAny (mod C) A (call (.builtin (yW k)) (v::vs)) (Out C F ρ₀ s₀ Q) E s:=by
 refine Classical.byContradiction fun hn=>?_
 cases k with
 | append=>exact hn (Ca ok st₀ R hx rl h)
 | extend=>exact hn (Cb ok st₀ R hx rl h)
 | pop=>exact hn (B9 ok st₀ R hx rl h)
 | dpop=>exact hn (y0 ok st₀ R hx rl h)
 | dclear=>exact hn (ti ok st₀ R hx rl h)
 | count=>exact hn (vv ok st₀ R hx rl h)
 | get=>exact hn (y1 G ok st₀ R hx rl h)
 | find=>
  obtain ⟨y,rfl⟩:=hs rfl
  obtain ⟨t,rfl,_⟩:=hx.inv
  exact hn (yY ok st₀ R rl h)
 | split=>
  obtain ⟨y,rfl⟩:=hs rfl
  obtain ⟨t,rfl,_⟩:=hx.inv
  exact hn (vq ok st₀ R rl h)
 | join=>
  obtain ⟨y,rfl⟩:=hs rfl
  obtain ⟨t,rfl,_⟩:=hx.inv
  exact hn (yV ok st₀ R rl h)
 | _=>exact ff hk
theorem y2 (k:Me):yX k=match meK k with
  | .list=>"list"
  | .dict=>"dict"
  | .str=>"str":=by cases k<;>rfl
theorem Cc (G:GOk C)(ok:aU F){k:Me}{x:MV}{v:Value}{name:Str}(hn:vn k=some name){ρ₀:List Addr}{s₀:Shared}(st₀:aq F.W ρ₀ s₀ ρ s)(R:Rel C F ρ m s)(hx:Rep C ρ s.heap x v)(hm:mE k x m.heap=true){trees:List (Bool × Sem Value)}{pos:Pos}
  (hp:trees.any (·.1)=false)
  (h:wpAny (mod C) F.A (spliced trees) (fun vs s₁=>∃ρ₁ m₁ xs,aq F.W ρ s ρ₁ s₁∧Rel C F ρ₁ m₁ s₁∧aD C ρ₁ s₁.heap xs vs∧cY k x xs Q m₁) E s) :
  MethodOn C.prog C.w F.A name pos v trees (Out C F ρ₀ s₀ Q) E s:=by
 have hk:(vn k).isSome=true:=by rw [hn];rfl
 have hf:=Fk k
 unfold MeP at hf
 rw [hn] at hf
 obtain ⟨pa,sl,ty⟩:=hf
 have go:(meK k=.str→∃y,x=.str y)→wpAny (mod C) F.A (callWith pos (.builtin (yW k)) [v] trees []) (Out C F ρ₀ s₀ Q) E s:=fun hs=>vp hp (wpAny_mono h (fun vs s₁ hr=>by obtain ⟨ρ₁,m₁,xs,st,R₁,rl,hw⟩:=hr;exact vw G ok (st₀.trans st) R₁ (hx.step st) rl hw hk hs) fun _ _ e=>e)
 have key:s.TypeIs v (yX k)∧(∀a,v=.ref a→∃o,s.heap.get? a=some o∧o.dict=none)∧(meK k=.str→∃y,x=.str y):=by
  have ht:=y2 k
  unfold mE at hm
  cases q:meK k with
  | list=>
   rw [q] at hm ht
   obtain ⟨r,ys,e⟩:=vo hm
   obtain ⟨a,items,k,rfl,_,_,_,gi,_⟩:=ir R.hp hx e
   exact ⟨by rw [ht];exact ⟨_,gi,rfl⟩,fun b e=>(by cases e;exact ⟨_,gi,rfl⟩),fun q=>nomatch q⟩
  | dict=>
   rw [q] at hm ht
   obtain ⟨r,ys,e⟩:=vt hm
   obtain ⟨a,kvs,rfl,_,_,_,dk,_⟩:=yZ R.hp hx e
   exact ⟨by rw [ht];exact dk.typeIs,dk.mapOf.noDict,fun q=>nomatch q⟩
  | str=>
   rw [q] at hm ht
   obtain ⟨y,rfl⟩:=pZ hm
   obtain ⟨t,rfl,_⟩:=hx.inv
   exact ⟨by rw [ht];exact typeIs_str _ _ _,fun a e=>(nomatch e),fun _=>⟨y,rfl⟩⟩
 exact ⟨yX k,yW k,pa,sl,ty,key.1,key.2.1,go key.2.2⟩
end
end Internal
end
section
namespace Internal
open PySem PyProof.Rows
noncomputable def Et (v:MV)(k:Const):Bool:=match v with
 | .none=>match k with
  | .none=>true
  | _=>false
 | .bool b=>match k with
  | .bool c=>b==c
  | _=>false
 | .int i=>match k with
  | .int j=>i==j
  | _=>false
 | .str s=>match k with
  | .str x=>x.cps.toList==s&&decide (s.length≤1000)
  | _=>false
 | _=>false
theorem aj {a b:Bool}(h:(a&&b)=true):a=true∧b=true:=by rwa [Bool.and_eq_true] at h
theorem y3 {a b:Bool}(h:(!a||b)=true):¬ a=true∨b=true:=by
 cases a with
 | true=>exact .inr h
 | false=>exact .inl (by decide)
theorem jB {a:Bool}(h:(!a)=true):a=false:=by cases a with
 | true=>exact ff h
 | false=>rfl
noncomputable def cu (c:Cx)(x:Str):Bool:=c.kind x==some .globalImplicit&&!dbg x
noncomputable def kJ (c:Cx)(t:TS)(e:Expr):Bool:=ak (dK e) fun x=>ak (jV t) fun T=>x==Str.ofString T&&c.kind x==some .globalImplicit&&!dbg x
noncomputable def mK (c:Cx)(x:Str):Bool:=c.kind x==some .local||(c.wr&&!(c.kind x==some .free))
theorem fD {c:Cx}{x:Str}(h:mK c x=true):c.kind x=some .local∨(c.wr=true∧c.kind x≠some .free):=by
 simpa [mK] using h
noncomputable def dv (c:Cx):List Nat→List Expr→Bool
 | [],xs=>xs.isEmpty
 | i::t,xs=>match xs with
  | []=>false
  | e::r=>ak (dK e) (fun x=>c.nm i==some x&&mK c x)&&dv c t r
noncomputable def mq (c:Cx)(t:List Nat)(many:Bool)(e:Expr):Bool:=match many with
 | false=>ak (dK e) fun x=>ak (one t) fun i=>c.nm i==some x&&mK c x
 | true=>ak (qg e) (dv c t)
noncomputable def bF (e:Expr):List Str:=match qg e with
 | some elts=>elts.filterMap dK
 | none=>(dK e).toList
noncomputable def kK (kind:Str→Option NameKind)(names:List (Str × NameKind)):List (Str × NameKind):=names.map fun (n,k)=>if (k==.free&&kind n==some .cell) then (n,.cell) else (n,k)
noncomputable def AZ (c:Cx)(sc:Scope)(i:Nat):Option Str:=match c.nm i with
 | some x=>if sc.names.lookup x==some .free then some x else none
 | none=>none
noncomputable def d5 (c:Cx)(sc:Scope)(t:List Nat)(tn:List Str):Cx where
 kind x:=(kK c.kind sc.names).lookup x
 nm i:=match (t.zip tn).lookup i with
  | some x=>some x
  | none=>AZ c sc i
 fn:=c.fn
 gl:=c.gl
 wr:=false
 fr i:=c.fr i&&!t.contains i
 nh:=c.nh
 hf:=c.hf
 cn:=c.cn
 xn:=c.xn
 mt:=c.mt
 at_:=c.at_
noncomputable def vx (c:Cx)(x:Str):Bool:=(List.range 64).any (fun i=>c.nm i==some x)&&c.kind x != some .local&&!cdc x
noncomputable def nM (c:Cx)(sc:Scope)(t:List Nat)(tn:List Str):Bool:=
 sc.kind==.function&&sc.names.all (fun p=>p.2 != .cell&&(p.2 != .local||sc.names.lookup p.1==some .local)&&(p.2 != .free||vx c p.1))&&
  decide (t.length=tn.length)&&decide t.Nodup&&decide tn.Nodup&&t.all c.fr&&tn.all (fun x=>sc.names.lookup x==some .local)
noncomputable def vy:IK→Str
 | .enum=>"enumerate"
 | _=>"range"
noncomputable def rC:IK→Bool
 | .val=>true
 | .keys=>true
 | _=>false
noncomputable def kL:IK→Bool
 | .keys=>true
 | _=>false
noncomputable def vr:ME→Option Nat
 | .var i=>some i
 | _=>none
noncomputable def lt2:ME→Option (ME × ME)
 | .cmp .lt a b=>some (a,b)
 | _=>none
noncomputable def ix2:ME→Option (ME × ME)
 | .idx a b=>some (a,b)
 | _=>none
noncomputable def rD (elt:ME)(t:List Nat)(many:Bool)(ifs:List ME):Bool:=!many&&ak (vr elt) fun i=>t==[i]&&ak (one ifs) fun e=>ak (lt2 e) fun p=>ak (ix2 p.1) fun q=>(vr q.1).isSome&&(vr q.2).isSome&&(vr p.2).isSome
noncomputable def kM (c:Cx)(k:IK)(e:Expr):Option (List Expr):=if rC k then some [e] else (xFn e).bind fun q=>if cu c q.1&&q.1==vy k&&!q.2.1.isEmpty then some q.2.1 else none
noncomputable def Cd:Bi→Str→Str→Bool
 | .sortedSet,x,y=>Ea&&x==("sorted":Str)&&y==("set":Str)
 | .listRev,x,y=>Bs&&x==("list":Str)&&y==("reversed":Str)
 | _,_,_=>false
noncomputable def xSS (c:Cx)(b:Bi)(e:Expr):Option Expr:=(xFn e).bind fun q=>(one q.2.1).bind fun y=>(xFn y).bind fun r=>if Cd b q.1 r.1&&cu c q.1&&cu c r.1 then one r.2.1 else none
noncomputable def y4:Bi→Bool
 | .sortedSet=>true
 | .listRev=>true
 | _=>false
noncomputable def kN:IK→Bool
 | .enum=>true
 | _=>false
noncomputable abbrev GV:=Nat × Int × List (List Nat) × List (List Nat × Int)
noncomputable def mvC (v:MV):Option GV:=match v with
 | .int i=>some (0,i,[],[])
 | .str s=>some (1,0,[s],[])
 | .gt ss=>some (2,0,ss,[])
 | .cdict es=>some (3,0,[],es)
 | _=>none
noncomputable def mvB (q:GV):MV:=match q.1 with
 | 0=>.int q.2.1
 | 1=>.str (q.2.2.1.headD [])
 | 2=>.gt q.2.2.1
 | _=>.cdict q.2.2.2
theorem oU {v:MV}{q:GV}(h:mvC v=some q):v=mvB q:=by
 cases v with
 | int i=>obtain rfl:=Option.some.inj h;rfl
 | str s=>obtain rfl:=Option.some.inj h;rfl
 | gt ss=>obtain rfl:=Option.some.inj h;rfl
 | cdict es=>obtain rfl:=Option.some.inj h;rfl
 | _=>exact aw h
noncomputable def Eu (c:Cx)(g:Nat)(v:MV)(x:Str):Bool:=ak (c.gl g) fun q=>q.1==x&&ak (mvC q.2) fun a=>mvC v==some a
noncomputable def cM:List Str:=["opens","secrets","rows","numbers","turns","said"]
noncomputable def d7:List Str:=["names","kind","told","block","many","do_rows","do_row","do_loop"]
noncomputable def A8 (c:Cx)(t:TS)(e:Expr):Bool:=match t with
 | .cls k=>ak (dK e) fun x=>cu c x&&c.xn k==some x
 | .valueError=>ak (dK e) fun x=>cu c x&&x==("ValueError":Str)
 | t=>kJ c t e
noncomputable def Fo:TS→Bool
 | .cls _=>true
 | .valueError=>true
 | _=>false
noncomputable def vz (c:Cx)(ts:List TS)(e:Expr):Bool:=match ts with
 | [t]=>A8 c t e
 | [t,u]=>ak (qg e) fun us=>ak (two us) fun w=>kJ c t w.1&&kJ c u w.2
 | _=>false
mutual
noncomputable def aO:Cx→ME→Expr→Bool
 | c,.cst v,e=>ak (nF e) (Et v)
 | c,.var i,e=>ak (dK e) fun x=>c.nm i==some x&&!dbg x
 | c,.glob g v,e=>ak (dK e) fun x=>cu c x&&Eu c g v x
 | c,.bin op a b,e=>ak (Em e) fun p=>p.2.1==sQ op&&aO c a p.1&&aO c b p.2.2
 | c,.neg a,e=>ak (xUn e) fun p=>p.1==.USub&&aO c a p.2
 | c,.not a,e=>ak (xUn e) fun p=>p.1==.Not&&aO c a p.2
 | c,.and es,e=>ak (uZ e) fun p=>p.1==.And&&bi c es p.2
 | c,.or es,e=>ak (uZ e) fun p=>p.1==.Or&&bi c es p.2
 | c,.cmp op a b,e=>ak (yG e) fun p=>ak (one p.2.1) fun o=>ak (one p.2.2) fun r=>o==gO op&&okX r&&aO c a p.1&&aO c b r
 | c,.cmp2 op op' a b d,e=>ak (yG e) fun p=>ak (two p.2.1) fun o=>ak (two p.2.2) fun r=>o.1==gO op&&o.2==gO op'&&okX r.1&&okX r.2&&aO c a p.1&&aO c b r.1&&aO c d r.2
 | c,.isN q a,e=>ak (yG e) fun p=>ak (one p.2.1) fun o=>ak (one p.2.2) fun r=>o==(if q then .Is else .IsNot)&&nF r==some .none&&aO c a p.1
 | c,.call f args,e=>ak (xFn e) fun q=>cu c q.1&&c.fn f==some q.1&&!q.2.1.isEmpty&&(c.nh||c.hf f)&&bi c args q.2.1
 | c,.blt b args,e=>if y4 b then ak (xSS c b e) fun z=>c.nh&&bi c args [z] else ak (xFn e) fun q=>(c.nh||j9 b)&&cu c q.1&&ak (mo b) (fun p=>q.1==p.1)&&!q.2.1.isEmpty&&bi c args q.2.1
 | c,.mth k o args,e=>ak (mI e) fun q=>vn k==some q.1.2.1&&kF q.1.1&&(q.1.2.2.endLine==q.2.2.line)&&decide (q.2.1.length<20)&&aO c o q.1.1&&bi c args q.2.1
 | c,.umth k f x o args,e=>ak (mI e) fun q=>q.1.2.1.cps.toList==x&&d7.contains q.1.2.1&&c.mt f==some (k,q.1.2.1)&&(view q.1.1).tag==1&&(q.1.2.2.endLine==q.2.2.line)&&decide (q.2.1.length<20)&&(c.nh||c.hf f)&&aO c o q.1.1&&bi c args q.2.1
 | c,.new k f args,e=>ak (xFn e) fun q=>cu c q.1&&c.cn k==some q.1&&c.mt f==some (k,("__init__":Str))&&!q.2.1.isEmpty&&c.nh&&bi c args q.2.1
 | c,.attr k o x,e=>ak (rq e) fun q=>q.2.1.cps.toList==x&&cM.contains q.2.1&&c.at_ k q.2.1&&(view q.1).tag==1&&aO c o q.1
 | c,.idx o i,e=>ak (yH e) fun p=>okX p.2&&aO c o p.1&&aO c i p.2
 | c,.sl o lo hi,e=>ak (yH e) fun p=>ak (u1 p.2) fun q=>q.2.2.isNone&&aO c o p.1&&Ce c lo q.1&&Ce c hi q.2.1
 | c,.list es,e=>ak (AX e) fun xs=>decide (es.length≤1000)&&bi c es xs
 | c,.tup es,e=>ak (qg e) fun xs=>decide (es.length≤1000)&&bi c es xs
 | c,.dict0,e=>ak (AY e) fun p=>p.1.isEmpty&&p.2.isEmpty
 | c,.comp elt t many k src ifs,e=>ak (xLC e) fun p=>ak (one p.2.1) fun g=>c.nh&&g.is_async==0&&okX g.iter&&(!kN k||many)&&(!kL k||rD elt t many ifs)&&nM c p.2.2 t (bF g.target)&&ak (kM c k g.iter) (fun xs=>bi c src xs)&&
   mq (d5 c p.2.2 t (bF g.target)) t many g.target&&bi (d5 c p.2.2 t (bF g.target)) ifs g.ifs&&aO (d5 c p.2.2 t (bF g.target)) elt p.1
 | c,.isi a ts,e=>ak (xFn e) fun q=>ak (two q.2.1) fun v=>cu c q.1&&q.1==("isinstance":Str)&&okX v.1&&aO c a v.1&&vz c ts v.2
noncomputable def bi:Cx→List ME→List Expr→Bool
 | c,[],xs=>xs.isEmpty
 | c,e::es,xs=>match xs with
  | []=>false
  | x::xs=>okX x&&aO c e x&&bi c es xs
noncomputable def Ce:Cx→Option ME→Option Expr→Bool
 | c,none,x=>x.isNone
 | c,some e,x=>match x with
  | some x=>aO c e x
  | none=>false
end
noncomputable def Call (C:Glo):KT:=fun n f vs Q X h=>∀(F:Fm) (m:MS) (s:Shared) (ρ:List Addr) (ws:List Value) (a:Addr),aU F→(F.A.handled=none∨C.hf f=true)→m.heap=h→Rel C F ρ m s→aD C ρ s.heap vs ws→
 F.A.depth+n≤999→F.A.units≤3 * F.A.depth+4→C.fa f=some a→
  wpAny (mod C) F.A (call (.ref a) ws) (Out C F ρ s (fun v m'=>m'.vars=m.vars∧Q v m'.heap)) (Er C F (fun c m'=>m'.vars=m.vars∧X c m'.heap) ρ s) s
section
variable {C:Glo}{F:Fm}{X:XM}{ρ ρ₀:List Addr}{m:MS}{s s₀:Shared}{Q:PQ}{E:Value→Shared→Prop}{A:Around}{c:Cx}{n:Nat}
theorem WPv.go {t:Sem Value}{P:Value→Shared→Prop}(h:WPv C F X t Q m)(R:Rel C F ρ m s)(st₀:aq F.W ρ₀ s₀ ρ s)
  (k:∀ρ₁ s₁ m₁ x v,aq F.W ρ s ρ₁ s₁→aq F.W ρ₀ s₀ ρ₁ s₁→Rel C F ρ₁ m₁ s₁→Rep C ρ₁ s₁.heap x v→Q x m₁→P v s₁):wpAny (mod C) F.A t P (Er C F X ρ₀ s₀) s:=
 wpAny_mono (h s ρ R) (fun v s₁ ⟨ρ₁,m₁,x,a,b,c,d⟩=>k ρ₁ s₁ m₁ x v a (st₀.trans a) b c d) (Er.back st₀)
inductive Ew (C:Glo)(F:Fm)(k:Nat)(ρ:List Addr)(s:Shared)(Q:List MV→MS→Prop)(vs:List Value)(s':Shared):Prop
 | mk (ρ':List Addr) (m':MS) (xs:List MV) (st:aq F.W ρ s ρ' s') (R:Rel C F ρ' m' s') (rl:aD C ρ' s'.heap xs vs) (hl:xs.length=k) (hq:Q xs m'):Ew C F k ρ s Q vs s'
noncomputable def WPl (C:Glo)(F:Fm)(X:XM)(k:Nat)(t:Sem (List Value))(Q:List MV→MS→Prop)(m:MS):Prop:=
 ∀s ρ,Rel C F ρ m s→wpAny (mod C) F.A t (Ew C F k ρ s Q) (Er C F X ρ s) s
theorem WPl.go {t:Sem (List Value)}{P:List Value→Shared→Prop}{Q:List MV→MS→Prop}{l:Nat}(h:WPl C F X l t Q m)(R:Rel C F ρ m s)(st₀:aq F.W ρ₀ s₀ ρ s)
  (k:∀ρ₁ s₁ m₁ xs vs,aq F.W ρ s ρ₁ s₁→aq F.W ρ₀ s₀ ρ₁ s₁→Rel C F ρ₁ m₁ s₁→aD C ρ₁ s₁.heap xs vs→xs.length=l→Q xs m₁→P vs s₁):wpAny (mod C) F.A t P (Er C F X ρ₀ s₀) s:=
 wpAny_mono (h s ρ R) (fun v s₁ ⟨ρ₁,m₁,x,a,b,c,e,d⟩=>k ρ₁ s₁ m₁ x v a (st₀.trans a) b c e d) (Er.back st₀)
inductive Cf (C:Glo)(F:Fm)(ρ:List Addr)(s:Shared)(Q:Bool→MS→Prop)(b:Bool)(s':Shared):Prop
 | mk (ρ':List Addr) (m':MS) (st:aq F.W ρ s ρ' s') (R:Rel C F ρ' m' s') (hq:Q b m'):Cf C F ρ s Q b s'
noncomputable def WPt (C:Glo)(F:Fm)(X:XM)(t:Sem Bool)(Q:Bool→MS→Prop)(m:MS):Prop:=
 ∀s ρ,Rel C F ρ m s→wpAny (mod C) F.A t (Cf C F ρ s Q) (Er C F X ρ s) s
theorem WPt.go {t:Sem Bool}{P:Bool→Shared→Prop}{Q:Bool→MS→Prop}(h:WPt C F X t Q m)(R:Rel C F ρ m s)(st₀:aq F.W ρ₀ s₀ ρ s)
  (k:∀ρ₁ s₁ m₁ b,aq F.W ρ s ρ₁ s₁→aq F.W ρ₀ s₀ ρ₁ s₁→Rel C F ρ₁ m₁ s₁→Q b m₁→P b s₁):wpAny (mod C) F.A t P (Er C F X ρ₀ s₀) s:=
 wpAny_mono (h s ρ R) (fun v s₁ ⟨ρ₁,m₁,a,b,d⟩=>k ρ₁ s₁ m₁ v a (st₀.trans a) b d) (Er.back st₀)
theorem wa (R:Rel C F ρ m s)(ok:aU F){P:Bool→MS→Prop}{v:Value}{s':Shared}(h:fB s (fun b=>P b m) v s'):∃b,v=.bool b∧∃m',aq F.W ρ s ρ s'∧Rel C F ρ m' s'∧P b m':=by
 obtain ⟨b,t,rfl,rfl,h⟩:=h
 obtain ⟨R',st⟩:=R.tok ok t
 exact ⟨b,rfl,m,st,R',h⟩
theorem wb (R:Rel C F ρ m s)(ok:aU F){v:MV}{k:Const}(hc:Et v k=true)(hq:Q v m){env:Env}{kd:Nat}{p:Pos}:wpAny (mod C) A (eval (.Constant k kd p) env) (Out C F ρ s Q) E s:=by
 refine Classical.byContradiction fun hn=>?_
 cases v with
 | none=>
  cases k with
  | none=>exact hn (wpAny_Constant_none (bS R .none hq))
  | _=>exact ff hc
 | bool b=>
  cases k with
  | bool c=>obtain rfl:=eq_of_beq hc;exact hn (wpAny_Constant_bool (bS R (.bool _) hq))
  | _=>exact ff hc
 | int i=>
  cases k with
  | int j=>obtain rfl:=eq_of_beq hc;exact hn (wpAny_Constant_int (bD R ok (.int _ _) hq))
  | _=>exact ff hc
 | str s'=>
  cases k with
  | str x=>
   obtain ⟨e,hl⟩:=aj hc
   obtain rfl:x=str s':=by rw [←eq_of_beq e]
   exact hn (wpAny_Constant_str (bD R ok (.str _ _ (Nat.le_trans (of_decide_eq_true hl) (by decide))) hq))
  | _=>exact ff hc
 | _=>exact ff hc
theorem bn {p:Str × Value}(i:Nat)(h:bZ[i]?=some p):p∈bZ:=List.mem_of_getElem? h
theorem Cg {b:Bi}{x:Str}{f:Value}(h:mo b=some (x,f)):(x,f)∈bZ:=by
 cases b<;>cases h<;>first | exact bn 0 rfl | exact bn 1 rfl | exact bn 2 rfl | exact bn 3 rfl | exact bn 4 rfl | exact bn 5 rfl | exact bn 12 rfl | exact bn 13 rfl | exact bn 14 rfl | exact bn 16 rfl | exact bn 10 rfl
theorem qm {t:TS}{T:String}(h:jV t=some T):(Str.ofString T,Value.type T)∈bZ:=by
 cases t<;>(first | exact aw h | obtain rfl:=Option.some.inj h)<;>first | exact bn 1 rfl | exact bn 2 rfl | exact bn 3 rfl | exact bn 4 rfl | exact bn 5 rfl | exact bn 6 rfl
theorem aP {x:Str}(h:cu c x=true):c.kind x=some .globalImplicit∧dbg x=false:=by
 obtain ⟨h1,h2⟩:=aj h
 exact ⟨eq_of_beq h1,by cases e:dbg x with
  | true=>rw [e] at h2;exact ff h2
  | false=>rfl⟩
theorem Ci {b:Bi}{x:Str}{f:Value}(h:mo b=some (x,f)):(∃id,f=.builtin id)∨∃T,f=.type T:=by
 cases b<;>cases h<;>first | exact .inl ⟨_,rfl⟩ | exact .inr ⟨_,rfl⟩
theorem bO {es:List ME}{xs:List Expr}(h:bi c es xs=true)(pos:Pos)(env:Env):(backTo pos (starEach xs env)).any (·.1)=false:=by
 induction es generalizing xs with
 | nil=>cases xs with
  | nil=>rfl
  | cons=>exact ff h
 | cons e es ih=>
  cases xs with
  | nil=>exact ff h
  | cons x xs=>
   obtain ⟨h1,h2⟩:=Bool.and_eq_true_iff.mp h
   rw [bp (Bool.and_eq_true_iff.mp h1).1]
   show (false||(backTo pos (starEach xs env)).any (·.1))=false
   rw [ih h2];rfl
theorem d8 {f:Value}{trees:List (Bool × Sem Value)}{pos:Pos}{s:Shared}{A:Around}{E:Value→Shared→Prop}{P:Value→Shared→Prop}(hf:(∃id,f=.builtin id)∨∃T,f=.type T)(hp:trees.any (·.1)=false)(hne:trees≠[])
  (h:wpAny (mod C) A (spliced trees) (fun vs s₁=>wpAny (mod C) A (call f vs) P E s₁) E s):wpAny (mod C) A (callWith pos f [] trees []) P E s:=by
 obtain ⟨⟨b,t⟩,trees,rfl⟩:=List.exists_cons_of_ne_nil hne
 simp only [List.any_cons,Bool.or_eq_false_iff] at hp
 obtain ⟨rfl,hp⟩:=hp
 rcases hf with ⟨id,rfl⟩ | ⟨T,rfl⟩
 ·exact Calls.callWith_builtin (by simp [hp]) (Calls.evalArgs_plain h)
 ·exact PyProof.Rows.callWith_type (by simp [hp]) (Calls.evalArgs_plain h)
end
end Internal
end
section
namespace Internal
open PySem PyProof.Rows
noncomputable def Shp (h:Heap)(a:Addr):Prop:=∃o,h.get? a=some o∧¬ gM o∧¬ IsD o
noncomputable def cG (C:Glo)(F:Fm)(ρ:List Addr)(h:Heap)(S:List Addr):Prop:=
 ∀a∈S,a∉ρ∧a∉F.W++F.V∧C.base.get? a=none∧Shp h a
noncomputable def fE (S:List Addr)(s s':Shared):Prop:=(∀b o,b∉S→s.heap.get? b=some o→s'.heap.get? b=some o)∧s'.gens=s.gens∧s'.os=s.os
section
variable {C:Glo}{F:Fm}{X:XM}{c:Cx}{n:Nat}{ρ ρ' ρ₀:List Addr}{m:MS}{s s' s₀:Shared}{S:List Addr}{A:Around}
theorem aq.side {W:List Addr}(x:aq W ρ₀ s₀ ρ s)(y:fE S s s')(hS:∀a∈S,s₀.heap.get? a=none):aq W ρ₀ s₀ ρ s' where
 pre:=x.pre
 new:=x.new
 keep:=fun a o e h1 h2=>by
  have ha:a∉S:=fun h=>by rw [hS a h] at e;exact aw e
  rcases x.keep a o e h1 h2 with e1 | ⟨hc,sl,e1⟩
  ·exact .inl (y.1 a _ ha e1)
  ·exact .inr ⟨hc,sl,y.1 a _ ha e1⟩
 solid:=fun a o e h=>y.1 a o (fun q=>by rw [hS a q] at e;exact aw e) (x.solid a o e h)
 alive:=fun a o e=>let ⟨o',e'⟩:=x.alive a o e;⟨o',y.1 a o' (fun q=>by rw [hS a q] at e;exact aw e) e'⟩
 gens:=y.2.1.trans x.gens
 os:=y.2.2.trans x.os
theorem dw (x:∀a∈S,Shp s.heap a)(y:fE S s s'):aZ s.heap s'.heap:=fun a o e h=>y.1 a o (fun q=>by
 obtain ⟨o',e',h',_⟩:=x a q
 obtain rfl:=same e e';exact h' h) e
theorem cG.solids (x:cG C F ρ s.heap S)(y:fE S s s'):aZ s.heap s'.heap:=dw (fun a ha=>(x a ha).2.2.2) y
theorem Rel.side0 (R:Rel C F ρ m s)(ok:aU F)(hs:aZ s.heap s'.heap)(x:∀a∈S,a∉ρ∧a∉F.W++F.V∧C.base.get? a=none)(hout:∀L∈F.frs,L∉S)(y:fE S s s'):Rel C F ρ m s':=
 R.up ok hs (List.prefix_refl _) (R.hp.up hs (fun a ha o e=>y.1 a o (fun q=>(x a q).1 ha) e) fun b o e=>y.1 b o (fun q=>by rw [(x b q).2.2] at e;exact aw e) (R.hp.base b o e)) (fun a h=>.inl h)
  (fun a ha o e=>⟨o,y.1 a o (fun q=>(x a q).2.1 ha) e,rfl,rfl⟩) (fun L hL o eo=>⟨o,y.1 L o (hout L hL) eo,rfl,rfl⟩) y.2.1
theorem tj (R:Rel C F ρ m s)(x:∀a∈S,Shp s.heap a):∀L∈F.frs,L∉S:=fun L hL q=>by
 obtain ⟨_,_,o,h1,h2⟩:=R.out L hL
 obtain ⟨o2,g1,_,g2⟩:=x L q
 obtain rfl:=same h1 g1
 exact g2 h2
theorem Rel.side (R:Rel C F ρ m s)(ok:aU F)(x:cG C F ρ s.heap S)(y:fE S s s'):Rel C F ρ m s':=
 R.side0 ok (x.solids y) (fun a ha=>⟨(x a ha).1,(x a ha).2.1,(x a ha).2.2.1⟩) (tj R fun a ha=>(x a ha).2.2.2) y
theorem cG.step (x:cG C F ρ s.heap S)(st:aq F.W ρ s ρ' s'):cG C F ρ' s'.heap S∧∀a∈S,∀o,s.heap.get? a=some o→s'.heap.get? a=some o:=by
 have keep:∀a∈S,∀o,s.heap.get? a=some o→s'.heap.get? a=some o:=fun a ha o e=>by
  obtain ⟨h1,h2,h3,o',e',h4,h6⟩:=x a ha
  obtain rfl:=same e e'
  rcases st.keep a o e h1 (fun q=>h2 (List.mem_append_left _ q)) with q | ⟨q,_⟩
  ·exact q
  ·exact absurd q h6
 refine ⟨fun a ha=>?_,keep⟩
 obtain ⟨h1,h2,h3,o',e',h4,h6⟩:=x a ha
 refine ⟨fun q=>(st.new a q).elim h1 fun q=>?_,h2,h3,o',keep a ha _ e',h4,h6⟩
 exact aX q e'
theorem cG.shape {h h':Heap}(x:cG C F ρ h S)(y:∀a∈S,Shp h' a):cG C F ρ h' S:=fun a ha=>⟨(x a ha).1,(x a ha).2.1,(x a ha).2.2.1,y a ha⟩
structure mr (C:Glo)(A:Around)(target:Expr)(itv:Value)(items:List MV)(g:Gd)(S U:List Addr)(It:Nat→List Addr→Shared→Prop):Prop where
 shape:∀i ρ s,It i ρ s→∀a∈S,Shp s.heap a
 keep:∀i ρ ρ' s s',It i ρ s→ρ<+:ρ'→aZ s.heap s'.heap→(∀a∈S++U,∀o,s.heap.get? a=some o→s'.heap.get? a=some o)→It i ρ' s'
 item:∀i ρ hp s x,Hp C ρ hp s.heap→aQ g hp→It i ρ s→items[i]?=some x→∀(E:Value→Shared→Prop) (N:Shared→Prop) (P:Value→Shared→Prop),
  (∀v s₂,fE S s s₂→It (i+1) ρ s₂→Rep C ρ s₂.heap x v→P v s₂)→
   wpAny (mod C) A (pyNext itv) (fun r s₁=>match r with
    | none=>N s₁
    | some v=>wpAny (mod C) A (letOwnedTupleGo target itv v) (fun _ s₂=>P v s₂) E s₁) E s
 done:∀i ρ hp s,Hp C ρ hp s.heap→aQ g hp→It i ρ s→items[i]?=none→∀(E:Value→Shared→Prop) (P:Shared→Prop),
  (∀s₂,fE S s s₂→P s₂)→wpAny (mod C) A (pyNext itv) (fun r s₁=>r=none∧P s₁) E s
 self:∀i ρ s,It i ρ s→∀(E:Value→Shared→Prop) (P:Value→Shared→Prop),P itv s→wpAny (mod C) A (pyIter itv) P E s
theorem mL {h:Heap}{o:Obj}{a:Addr}(R:Rel C F ρ m s)(ha:s.heap.get? a=none)(e:h.get? a=some o)(h1:¬ gM o)(h3:¬ IsD o) :
  a∉ρ∧a∉F.W++F.V∧C.base.get? a=none∧Shp h a:=by
 refine ⟨fun q=>?_,fun q=>?_,bM R.hp ha,o,e,h1,h3⟩
 ·obtain ⟨o',e'⟩:=R.hp.there q;exact aX ha e'
 ·obtain ⟨_,_,o',e',_⟩:=R.w a q;exact aX ha e'
theorem d9 {T:String}{o:Obj}(hc:o.cls=.type T)(hT:T≠"tuple"):¬ gM o:=fun h=>by
 unfold gM at h
 rw [hc] at h
 have hs:∀d,gZ (.type T) d=true→T="tuple":=fun d h=>by
  cases d with
  | seq=>exact eq_of_beq h
  | _=>exact ff h
 exact hT (hs _ h)
theorem b9 {h:Heap}{a:Addr}{o:Obj}{T:String}(e:h.get? a=some o)(hc:o.cls=.type T)(hT:T≠"tuple")(hF:¬ IsD o):∀b∈[a],Shp h b:=by
 intro b hb
 have:b=a:=by exact List.mem_singleton.mp hb
 subst this
 exact ⟨o,e,d9 hc hT,hF⟩
noncomputable def Cj (it l:Addr)(r:Nat):Nat→List Addr→Shared→Prop:=fun i ρ s=>s.heap.IsListIter it l i∧ρ[r]?=some l
theorem ec {a:Addr}{h':Heap}{t:Nat}(hs:Heap.SameBut a s.heap h'):fE [a] s { s with heap:=h',toks:=t }:=⟨fun b o hb e=>(hs.2 b (by exact fun q=>hb (List.mem_singleton.mpr q))).trans e,rfl,rfl⟩
theorem fF {a:Addr}{h':Heap}{t:Nat}(hs:Heap.ExtBut a s.heap h'):fE [a] s { s with heap:=h',toks:=t }:=⟨fun b o hb e=>hs b o (by exact fun q=>hb (List.mem_singleton.mpr q)) e,rfl,rfl⟩
noncomputable def bm (e:Expr):Bool:=(dK e).isSome||(qg e).isSome
theorem cR {target:Expr}(ht:bm target=true){it:Addr}{v:Value}{o:Obj}{A:Around}{E:Value→Shared→Prop}{P:Unit→Shared→Prop}(e:s.heap.get? it=some o){T:String}(hc:o.cls=.type T)
  (hT:(["enumerate","zip","dict_itemiterator","dict_reverseitemiterator","odict_iterator","itertools.zip_longest","itertools.pairwise"].contains T)=false) (h:P () s):wpAny (mod C) A (letOwnedTupleGo target (.ref it) v) P E s:=by
 unfold bm at ht
 rw [Bool.or_eq_true,Option.isSome_iff_exists,Option.isSome_iff_exists] at ht
 rcases ht with ⟨x,hx⟩ | ⟨xs,hx⟩
 ·obtain ⟨p,rfl⟩:=bN hx
  exact wpAny_pure h
 ·obtain ⟨k,p,rfl⟩:=im hx
  unfold letOwnedTupleGo
  cases v with
  | ref a=>
   refine wpAny_bind (wpAny_load e ?_)
   rw [hc]
   cases o.data with
   | fields vs=>
    simp only [hT,Bool.false_and,Bool.false_eq_true,if_false]
    exact wpAny_pure h
   | _=>exact wpAny_pure h
  | _=>exact wpAny_pure h
theorem tq (hn:A.handled=none){target:Expr}(ht:bm target=true){it l:Addr}{r:Nat}{xs:List MV}:mr C A target (.ref it) xs (some (r,.list xs)) [it] [] (Cj it l r) where
 shape:=fun i ρ s h=>by obtain ⟨⟨o,e,hc,hd⟩,_⟩:=h;exact b9 e hc (by decide) (fun ⟨_,_,q⟩=>by rw [hd] at q;cases q)
 keep:=fun i ρ ρ' s s' h hp hs k=>by
  obtain ⟨⟨o,e,r1,r2⟩,e2⟩:=h
  exact ⟨⟨o,k it (by exact List.mem_singleton.mpr rfl) o e,r1,r2⟩,f9 hp e2⟩
 item:=fun i ρ hp s x R hg h hx E N P k=>by
  obtain ⟨hit,e2⟩:=h
  obtain ⟨items,c,gi,rl,z⟩:=R.objs _ _ _ hg e2
  obtain ⟨v,hv,rv⟩:=rl.get hx
  have sh:∀a∈[it],Shp s.heap a:=by obtain ⟨o,e,hc,hd⟩:=id hit;exact b9 e hc (by decide) (fun ⟨_,_,q⟩=>by rw [hd] at q;cases q)
  refine wpAny_pyNext_list_item hit ⟨_,gi,rfl,_,rfl⟩ (by exact (List.getElem?_toArray ..).trans hv) fun h' hit' hs=>?_
  have sd:=ec (t:=s.toks) hs
  obtain ⟨o,eo,hc,hd⟩:=id hit'
  refine cR ht (s:={ s with heap:=h' }) eo hc (by decide) (k v _ sd ⟨hit',e2⟩ (rv.up (dw sh sd) (List.prefix_refl _)))
 done:=fun i ρ hp s R hg h hx E P k=>by
  obtain ⟨hit,e2⟩:=h
  obtain ⟨items,c,gi,rl,z⟩:=R.objs _ _ _ hg e2
  refine wpAny_pyNext_list_end hn hit ⟨_,gi,rfl,_,rfl⟩ (i:=i) ?_ fun h' he=>⟨rfl,k _ (fF (t:=s.toks) he)⟩
  rw [List.getElem?_eq_none_iff] at hx
  simp [rl.length,hx]
 self:=fun i ρ s h E P hp=>wpAny_pyIter_listiter h.1 hp
noncomputable def Ex (C:Glo)(it t:Addr)(xs:List MV):Nat→List Addr→Shared→Prop:=
 fun i ρ s=>s.heap.IsTupleIter it t i∧∃items n,s.heap.get? t=some (mj items n)∧aD C ρ s.heap xs items
theorem wc (hn:A.handled=none){target:Expr}(ht:bm target=true){it t:Addr}{xs:List MV}:mr C A target (.ref it) xs none [it] [] (Ex C it t xs) where
 shape:=fun i ρ s h=>by obtain ⟨⟨o,e,hc,hd⟩,_⟩:=h;exact b9 e hc (by decide) (fun ⟨_,_,q⟩=>by rw [hd] at q;cases q)
 keep:=fun i ρ ρ' s s' h hp hs k=>by
  obtain ⟨⟨o,e,r1,r2⟩,items,n,e2,rl⟩:=h
  exact ⟨⟨o,k it (by exact List.mem_singleton.mpr rfl) o e,r1,r2⟩,items,n,hs _ _ e2 f7,rl.up hs hp⟩
 item:=fun i ρ hp s x R hg h hx E N P k=>by
  obtain ⟨hit,items,n,e2,rl⟩:=h
  obtain ⟨v,hv,rv⟩:=rl.get hx
  have sh:∀a∈[it],Shp s.heap a:=by obtain ⟨o,e,hc,hd⟩:=id hit;exact b9 e hc (by decide) (fun ⟨_,_,q⟩=>by rw [hd] at q;cases q)
  refine wpAny_pyNext_tuple_item hit ⟨_,e2,rfl,_,rfl⟩ (by exact (List.getElem?_toArray ..).trans hv) fun h' hit' hs=>?_
  have sd:=ec (t:=s.toks) hs
  have hsol:=dw sh sd
  obtain ⟨o,eo,hc,hd⟩:=id hit'
  refine cR ht (s:={ s with heap:=h' }) eo hc (by decide) (k v _ sd ⟨hit',items,n,hsol _ _ e2 f7,rl.up hsol (List.prefix_refl _)⟩ (rv.up hsol (List.prefix_refl _)))
 done:=fun i ρ hp s R hg h hx E P k=>by
  obtain ⟨hit,items,n,e2,rl⟩:=h
  refine wpAny_pyNext_tuple_end hn hit ⟨_,e2,rfl,_,rfl⟩ (i:=i) ?_ fun h' he=>⟨rfl,k _ (fF (t:=s.toks) he)⟩
  rw [List.getElem?_eq_none_iff] at hx
  simp [rl.length,hx]
 self:=fun i ρ s h E P hp=>wpAny_pyIter_tupleiter h.1 hp
noncomputable def y5 (it:Addr)(a:Int)(k:Nat):Nat→List Addr→Shared→Prop:=fun i ρ s=>IsRangeIter s.heap it (a+i) ((k:Int)-i) 1
theorem qn (hn:A.handled=none){target:Expr}(ht:bm target=true){it:Addr}{a:Int}{k:Nat}:mr C A target (.ref it) ((List.range k).map (fun (i:Nat)=>.int (a+i))) none [it] [] (y5 it a k) where
 shape:=fun i ρ s h=>b9 h rfl (by decide) (fun ⟨_,_,q⟩=>by cases q)
 keep:=fun i ρ ρ' s s' h hp hs k=>k it (by exact List.mem_singleton.mpr rfl) _ h
 item:=fun i ρ hp s x R hg hit hx E N P kk=>by
  simp only [List.getElem?_map,Option.map_eq_some_iff] at hx
  obtain ⟨j,hj,rfl⟩:=hx
  obtain ⟨hlt,hj⟩:=List.getElem?_eq_some_iff.mp hj
  simp at hj hlt;subst hj
  refine wpAny_pyNext_range_item hit (by lia) fun h' hit' hs=>?_
  have sd:=ec (t:=s.toks+1) hs
  have hit'':IsRangeIter h' it (a+((i+1:Nat):Int)) ((k:Int)-((i+1:Nat):Int)) 1:=by
   have e1:a+((i+1:Nat):Int)=a+i+1:=by lia
   have e2:(k:Int)-((i+1:Nat):Int)=k-i-1:=by lia
   rw [e1,e2];exact hit'
  exact cR ht (s:={ s with heap:=h',toks:=s.toks+1 }) hit' rfl (by decide) (kk _ _ sd hit'' (.int _ _))
 done:=fun i ρ hp s R hg hit hx E P kk=>by
  have hit:IsRangeIter s.heap it (a+i) ((k:Int)-i) 1:=hit
  rw [List.getElem?_eq_none_iff] at hx
  simp at hx
  exact wpAny_pyNext_range_end hn hit (by lia) fun h' he=>⟨rfl,kk _ (fF (t:=s.toks) he)⟩
 self:=fun i ρ s h E P hp=>wpAny_pyIter_rangeiter h hp
noncomputable def Ck (e it l:Addr)(r:Nat):Nat→List Addr→Shared→Prop:=
 fun i ρ s=>(∃old,IsEnum s.heap e it i old)∧s.heap.IsListIter it l i∧ρ[r]?=some l
theorem nN {h':Heap}{e it l:Addr}{i:Nat}{j:Int}{old:Value}(h1:IsEnum h' e it j old)(h2:h'.IsListIter it l i):∀a∈[e,it],Shp h' a:=by
 intro a ha
 have:a=e∨a=it:=by simpa using ha
 rcases this with rfl | rfl
 ·exact b9 h1 rfl (by decide) (fun ⟨_,_,q⟩=>by cases q) a (by exact List.mem_singleton.mpr rfl)
 ·obtain ⟨o,e1,e2,e3⟩:=h2
  exact b9 e1 e2 (by decide) (fun ⟨_,_,q⟩=>by rw [e3] at q;cases q) a (by exact List.mem_singleton.mpr rfl)
theorem tr (hn:A.handled=none){elts:List Expr}{x1}{pos:Pos}{e it l:Addr}{r:Nat}{xs:List MV}(hne:e≠it):mr C A (.Tuple elts x1 pos) (.ref e) (xs.zipIdx.map (fun p=>.tup [.int p.2,p.1])) (some (r,.list xs)) [e,it] [] (Ck e it l r) where
 shape:=fun i ρ s h=>by obtain ⟨⟨old,h1⟩,h2,_⟩:=h;exact nN h1 h2
 keep:=fun i ρ ρ' s s' h hp hs k=>by
  obtain ⟨⟨old,h1⟩,⟨o,e',r1,r2⟩,e2⟩:=h
  exact ⟨⟨old,k e (by exact List.mem_cons_self ..) _ h1⟩,⟨o,k it (by exact List.mem_cons_of_mem _ (List.mem_cons_self ..)) o e',r1,r2⟩,f9 hp e2⟩
 item:=fun i ρ hp s x R hg h hx E N P kk=>by
  obtain ⟨⟨old,h1⟩,hit,e2⟩:=h
  have sh:=nN h1 hit
  obtain ⟨items,c,gi,rl,z⟩:=R.objs _ _ _ hg e2
  simp only [List.getElem?_map,Option.map_eq_some_iff] at hx
  obtain ⟨⟨y,j⟩,hj,rfl⟩:=hx
  rw [List.getElem?_zipIdx] at hj
  simp only [Option.map_eq_some_iff,Nat.zero_add] at hj
  obtain ⟨y',hy,hj⟩:=hj
  cases hj
  obtain ⟨v,hv,rv⟩:=rl.get hy
  refine wpAny_pyNext_enum_item h1 hit ⟨_,gi,rfl,_,rfl⟩ (by exact (List.getElem?_toArray ..).trans hv) hne fun h' he hit' ht hsz hk=>?_
  refine wpAny_letOwnedTupleGo_enum (s:={ s with heap:=h',toks:=s.toks+1 }) he fun h2 he2 hs2=>?_
  have hlt:s.heap.objs.size≠e:=fun q=>absurd (Heap.lt_size h1) (by rw [←q];exact Nat.lt_irrefl _)
  have ht2:h2.get? s.heap.objs.size=some (mj [.int i s.toks,v] 0):=(hs2.2 _ hlt).trans ht
  have hit2:h2.IsListIter it l (i+1):=by
   obtain ⟨o,e1,r⟩:=hit'
   exact ⟨o,(hs2.2 it (fun q=>hne q.symm)).trans e1,r⟩
  have sd:fE [e,it] s { s with heap:=h2,toks:=s.toks+1 }:=⟨fun b o hb eb=>by
   simp at hb
   exact (hs2.2 b hb.1).trans (hk b o hb.1 hb.2 eb),rfl,rfl⟩
  refine kk _ _ sd ⟨⟨v,?_⟩,hit2,e2⟩ (.tup ht2 (.cons (.int _ _) (.cons (rv.up (dw sh sd) (List.prefix_refl _)) .nil)) (by unfold line;simp))
  have:(((i+1:Nat)):Int)=(i:Int)+1:=rfl
  rw [this];exact he2
 done:=fun i ρ hp s R hg h hx E P kk=>by
  obtain ⟨⟨old,h1⟩,hit,e2⟩:=h
  obtain ⟨items,c,gi,rl,z⟩:=R.objs _ _ _ hg e2
  rw [List.getElem?_eq_none_iff] at hx
  simp at hx
  refine wpAny_pyNext_enum_end hn h1 hit ⟨_,gi,rfl,_,rfl⟩ (by simp [rl.length,hx]) fun h' he=>⟨rfl,kk _ ⟨fun b o hb eb=>he b o (by simp at hb;exact hb.2) eb,rfl,rfl⟩⟩
 self:=fun i ρ s h E P hp=>by obtain ⟨⟨old,h1⟩,_⟩:=h;exact wpAny_pyIter_enum h1 hp
noncomputable def Ey (it:Addr)(x:List Nat)(t:Tok):Nat→List Addr→Shared→Prop:=fun i ρ s=>s.heap.IsStrIter it "str_ascii_iterator" (str x) t i
theorem we (hn:A.handled=none){target:Expr}(ht:bm target=true){it:Addr}{x:List Nat}{t:Tok}:mr C A target (.ref it) (x.map (fun c=>.str [c])) none [it] [] (Ey it x t) where
 shape:=fun i ρ s h=>by obtain ⟨o,e,hc,hd⟩:=h;exact b9 e hc (by decide) (fun ⟨_,_,q⟩=>by rw [hd] at q;cases q)
 keep:=fun i ρ ρ' s s' h hp hs k=>by
  obtain ⟨o,e,r⟩:=h
  exact ⟨o,k it (by exact List.mem_singleton.mpr rfl) _ e,r⟩
 item:=fun i ρ hp s y R hg hit hx E N P kk=>by
  simp only [List.getElem?_map,Option.map_eq_some_iff] at hx
  obtain ⟨j,hj,rfl⟩:=hx
  refine wpAny_pyNext_ascii_item hit (c:=j) (by exact (List.getElem?_toArray ..).trans hj) fun h' hit' hs=>?_
  have sd:=ec (t:=s.toks+1) hs
  obtain ⟨o,eo,hc,hd⟩:=id hit'
  exact cR ht (s:={ s with heap:=h',toks:=s.toks+1 }) eo hc (by decide) (kk _ _ sd hit' (.str [j] _ (by unfold line;simp)))
 done:=fun i ρ hp s R hg hit hx E P kk=>by
  rw [List.getElem?_eq_none_iff] at hx
  simp at hx
  exact wpAny_pyNext_ascii_end hn hit (by simp [hx]) fun h' he=>⟨rfl,kk _ (fF (t:=s.toks) he)⟩
 self:=fun i ρ s h E P hp=>wpAny_pyIter_striter_ascii h hp
end
end Internal
end
section
namespace Internal
open PySem PyProof.Rows
section
variable {C:Glo}{A:Around}
noncomputable def Cm (C:Glo)(it d:Addr)(kvs:List (Str × Value))(ep:Nat):Nat→List Addr→Shared→Prop:=fun i _ s=>s.heap.IsKeyIter it d i kvs.length ep∧s.heap.DictAt (strKind C.prog C.w) d kvs ep
theorem y6 {k:Str}{v:Value}(h:(strKind C.prog C.w).is k v=true):∃t,v=.str k t:=by
 cases v with
 | str x t=>exact ⟨t,by rw [show x=k from eq_of_beq h]⟩
 | _=>exact ff h
theorem wf {ρ:List Addr}{h:Heap}{es:List (List Nat × MV)}{kvs:List (Str × Value)}(r:dH C ρ h es kvs):kvs.map (·.1)=es.map (fun p=>str p.1)∧∀p∈es,p.1.length≤line:=by
 induction r with
 | nil=>exact ⟨rfl,fun _ h=>aC h⟩
 | cons h1 _ _ ih=>exact ⟨congrArg (_::·) ih.1,fun p hp=>(List.mem_cons.mp hp).elim (fun e=>by rw [e];exact h1) (ih.2 p)⟩
theorem tu (hn:A.handled=none){target:Expr}(ht:bm target=true){it d:Addr}{r ep:Nat}{es:List (List Nat × MV)}{kvs:List (Str × Value)}(hne:d≠it)(hk:kvs.map (·.1)=es.map (fun p=>str p.1))(hz:∀p∈es,p.1.length≤line) :
  mr C A target (.ref it) (es.map fun p=>.str p.1) (some (r,.dict es)) [it] [d] (Cm C it d kvs ep) where
 shape:=fun i ρ s h=>by obtain ⟨⟨o,e,hc,hd⟩,_⟩:=h;exact b9 e hc (by decide) (fun ⟨_,_,q⟩=>by rw [hd] at q;cases q)
 keep:=fun i ρ ρ' s s' h hp hs k=>⟨h.1.at (k it (.head _)),h.2.at' (k d (.tail _ (.head _)))⟩
 item:=fun i ρ hp s x R hg h hx E N P k=>by
  obtain ⟨p,hp1,rfl⟩:=Option.map_eq_some_iff.mp (List.getElem?_map ..▸hx)
  have e1:(kvs.map (·.1))[i]?=some (str p.1):=by rw [hk,List.getElem?_map,hp1];rfl
  rw [List.getElem?_map] at e1
  obtain ⟨⟨k',v'⟩,e2,e3⟩:=Option.map_eq_some_iff.mp e1
  obtain rfl:k'=str p.1:=e3
  refine wpAny_pyNext_dict_item h.1 h.2 e2 fun key h' hkey hit' hs=>?_
  obtain ⟨t,rfl⟩:=y6 hkey
  obtain ⟨o,eo,hc,hd⟩:=id hit'
  exact cR ht (s:={ s with heap:=h' }) eo hc (by decide) (k _ _ (ec (t:=s.toks) hs) ⟨hit',h.2.extBut hs.extBut hne⟩ (.str _ _ (hz p (List.mem_of_getElem? hp1))))
 done:=fun i ρ hp s R hg h hx E P k=>by
  refine wpAny_pyNext_dict_end hn h.1 h.2 ?_ fun h' he=>⟨rfl,k _ (fF (t:=s.toks) he)⟩
  rw [List.getElem?_eq_none_iff,List.length_map] at hx
  rw [List.getElem?_eq_none_iff]
  have:=congrArg List.length hk
  rw [List.length_map,List.length_map] at this
  rw [this];exact hx
 self:=fun i ρ s h E P hp=>wpAny_pyIter_keyiter h.1 hp
end
end Internal
end
section
namespace Internal
open PySem PyProof.Rows
noncomputable def SV (C:Glo)(X:XM)(n:Nat)(c:Cx)(F:Fm)(me:ME):Prop:=
 ∀(e:Expr),aO c me e=true→∀(Q:PQ) (m:MS),wpE (Call C) n me Q X m→WPv C F X (eval e F.env) Q m
section
variable {C:Glo}{F:Fm}{X:XM}{c:Cx}{n:Nat}{ρ ρ' ρ₀:List Addr}{m:MS}{s s' s₀:Shared}{A:Around}{E:Value→Shared→Prop}
theorem jC {t:List Nat}{many:Bool}{e:Expr}(h:mq c t many e=true):bm e=true:=by
 unfold bm
 cases many with
 | false=>obtain ⟨x,hx,_⟩:=ae h;rw [hx];rfl
 | true=>obtain ⟨x,hx,_⟩:=ae h;rw [hx];exact Bool.or_true _
theorem gu {t:List Nat}{e:Expr}(h:mq c t true e=true):∃elts k p,e=.Tuple elts k p∧dv c t elts=true:=by
 obtain ⟨elts,hx,h⟩:=ae h
 obtain ⟨k,p,e⟩:=im hx
 exact ⟨elts,k,p,e,h⟩
theorem kO {t:List Nat}{e:Expr}(h:mq c t false e=true):∃i x p,t=[i]∧e=.Name x p∧c.nm i=some x∧mK c x=true:=by
 obtain ⟨x,hx,h⟩:=ae h
 obtain ⟨i,hi,h⟩:=ae h
 obtain ⟨p,e⟩:=bN hx
 rw [Bool.and_eq_true,beq_iff_eq] at h
 exact ⟨i,x,p,bE hi,e,h.1,h.2⟩
inductive mu (kd:Bool)(C:Glo)(F:Fm)(target:Expr)(ρ:List Addr)(s:Shared)(P:List MV→Gd→MS→Prop)(itv:Value)(s₂:Shared):Prop
 | mk (ρ₂:List Addr) (m₂:MS) (items:List MV) (g:Gd) (S U:List Addr) (It:Nat→List Addr→Shared→Prop) (st:aq F.W ρ s ρ₂ s₂) (R:Rel C F ρ₂ m₂ s₂) (wk:mr C F.A target itv items g S U It) (h0:It 0 ρ₂ s₂) (as:cG C F ρ₂ s₂.heap S) (hS:∀a∈S,s.heap.get? a=none) (hl:items.length≤line) (hp:P items g m₂) (hU:kd=false→U=[]) (hUr:∀a∈U,a∈ρ₂):mu kd C F target ρ s P itv s₂
theorem cN {W:List Addr}(st:aq W ρ s ρ' s'){a:Addr}(h:s'.heap.get? a=none):s.heap.get? a=none:=by
 cases e:s.heap.get? a with
 | none=>rfl
 | some o=>obtain ⟨o',e'⟩:=st.alive a o e;exact aX h e'
theorem wg {kd:Bool}{U:List Addr}{target:Expr}{P:List MV→Gd→MS→Prop}{o:Obj}{items:List MV}{g:Gd}{It:Nat→List Addr→Shared→Prop}{T:String}(cx:au C c F n)(R:Rel C F ρ m s)(st₀:aq F.W ρ₀ s₀ ρ s)
  (hc:o.cls=.type T) (hT:T≠"tuple") (hF:¬ IsD o) (hf:o.isFreed=false) (wk:mr C F.A target (.ref s.heap.objs.size) items g [s.heap.objs.size] U It) (h0:∀s₂:Shared,s₂.heap=s.heap.push o→It 0 ρ s₂) (hl:items.length≤line) (hp:P items g m) (hU:kd=false→U=[]:=by exact fun _=>rfl) (hUr:∀a∈U,a∈ρ:=by exact fun _ h=>aC h) {tk:Nat} :
  mu kd C F target ρ₀ s₀ P (.ref s.heap.objs.size) { s with heap:=s.heap.push o,toks:=tk }:=by
 have hk:∀q ob,s.heap.get? q=some ob→(s.heap.push o).get? q=some ob:=fun q ob e=>Heap.get?_push_of_some _ e
 obtain ⟨R',st⟩:=R.grow (s':={ s with heap:=s.heap.push o,toks:=tk }) cx.fm hk rfl rfl
 have hnew:s.heap.get? s.heap.objs.size=none:=bk (Nat.le_refl _)
 refine ⟨ρ,m,items,g,_,U,It,st₀.trans st,R',wk,h0 _ rfl,?_,fun q hq=>?_,hl,hp,hU,hUr⟩
 ·intro q hq
  have:q=s.heap.objs.size:=by exact List.mem_singleton.mp hq
  subst this
  exact mL R hnew (Heap.get?_push_size _ hf) (d9 hc hT) hF
 ·have:q=s.heap.objs.size:=by exact List.mem_singleton.mp hq
  subst this
  exact cN st₀ hnew
theorem oV {kd:Bool}(cx:au C c F n)(hnh:c.nh=true)(R:Rel C F ρ m s)(st₀:aq F.W ρ₀ s₀ ρ s){target:Expr}(ht:bm target=true){a b:Int}{r:Addr}{t u v:Tok}(hr:IsRange s.heap r a b 1 t u v)
  (h1:-16777216≤a) (h2:a≤16777216) (h3:-16777216≤b) (h4:b≤16777216) (h5:(b-a).toNat≤line) {P:List MV→Gd→MS→Prop}(h:P ((List.range (b-a).toNat).map (fun (i:Nat)=>.int (a+i))) none m) :
  wpAny (mod C) A (pyIter (.ref r)) (mu kd C F target ρ₀ s₀ P) E s:=by
 refine wpAny_pyIter_range hr (small_one (by lia) (by lia) (by lia) (by lia)) ?_
 refine wg cx R st₀ (T:="range_iterator") rfl (by decide) (fun ⟨_,_,q⟩=>by cases q) rfl (qn (a:=a) (k:=(b-a).toNat) (cx.hn hnh) ht) (fun s₂ e=>?_) (by simpa using h5) h
 have e1:a+((0:Nat):Int)=a:=by lia
 have e2:(((b-a).toNat:Nat):Int)-((0:Nat):Int)=Builtin.Range.rangeSize a b 1:=by rw [rangeSize_one];split<;>lia
 show IsRangeIter _ _ _ _ _
 rw [e1,e2,e]
 exact Heap.get?_push_size _ rfl
theorem aV {e:ME}{es:List ME}{x:Expr}{xs:List Expr}(h:bi c (e::es) (x::xs)=true):(okX x=true∧aO c e x=true)∧bi c es xs=true:=by
 have h:(okX x&&aO c e x&&bi c es xs)=true:=h
 rwa [Bool.and_eq_true,Bool.and_eq_true] at h
theorem wj {src:List ME}{y:Expr}(h:bi c src [y]=true):∃a,src=[a]∧okX y=true∧aO c a y=true:=by
 cases src with
 | nil=>exact ff h
 | cons a r=>
  have h:=aV h
  cases r with
  | nil=>exact ⟨a,rfl,h.1⟩
  | cons=>cases h.2
theorem nP (G:GOk C)(cx:au C c F n):∀{es:List ME},(∀a∈es,SV C X n c F a)→∀(xs:List Expr),bi c es xs=true→∀(Q:List MV→MS→Prop) (m:MS),gJ (Call C) n es Q X m→∀pos,WPl C F X es.length (spliced (backTo pos (starEach xs F.env))) Q m
 | [],ih,xs,hc,Q,m,h,pos=>by
  cases xs with
  | nil=>intro s ρ R;exact wpAny_items_nil ⟨_,_,_,.refl _ _ _,R,.nil,rfl,h⟩
  | cons=>exact ff hc
 | e::es,ih,xs,hc,Q,m,h,pos=>by
  cases xs with
  | nil=>exact ff hc
  | cons x xs=>
   obtain ⟨⟨hx,he⟩,hes⟩:=aV hc
   intro s ρ R
   refine wpAny_items_cons ((ih e (by exact List.mem_cons_self ..) x he _ m h).go R (.refl _ _ _) fun ρ₁ s₁ m₁ x v st t1 R₁ rx h₁=>?_) (bp hx _ _)
   refine (nP G cx (fun a ha=>ih a (List.mem_cons_of_mem _ ha)) xs hes _ m₁ h₁ pos).go R₁ t1 fun ρ₂ s₂ m₂ ys vs st2 t2 R₂ rl el h₂=>?_
   exact ⟨_,_,_,t2,R₂,.cons (rx.step st2) rl,by simp [el],h₂⟩
theorem gv {es:List ME}{xs:List Expr}(h:bi c es xs=true)(hn:xs.isEmpty=false)(pos:Pos)(env:Env):backTo pos (starEach xs env)≠[]:=by
 cases xs with
 | nil=>exact tf hn
 | cons x xs=>
  cases es with
  | nil=>exact ff h
  | cons e es=>
   rw [bp (aV h).1.1]
   exact List.cons_ne_nil _ _
theorem mM {hp:List MO}{r:Nat}{f:List MV→Its}{q:List MV × Gd}(h:(match hp[r]? with
  | some (.list xs)=>f xs
  | _=>none)=some q):∃xs,hp[r]?=some (.list xs)∧f xs=some q:=by
 cases e:hp[r]? with
 | none=>rw [e] at h;exact aw h
 | some o=>
  rw [e] at h
  cases o with
  | list xs=>exact ⟨xs,rfl,h⟩
  | _=>exact aw h
theorem jj {α:Type}{b:Bool}{x y:α}(h:(match b with
  | true=>some x
  | false=>none)=some y):b=true∧x=y:=by
 cases b with
 | true=>exact ⟨rfl,Option.some.inj h⟩
 | false=>exact aw h
theorem wl {kd:Bool}(cx:au C c F n)(hnh:c.nh=true)(R:Rel C F ρ m s)(st₀:aq F.W ρ₀ s₀ ρ s){target:Expr}(ht:bm target=true){x:MV}{v:Value}(rx:Rep C ρ s.heap x v){items:List MV}{g:Gd}(hi:AU m.heap x=some (items,g))
  {P:List MV→Gd→MS→Prop}(h:P items g m):wpAny (mod C) A (pyIter v) (mu kd C F target ρ₀ s₀ P) E s:=by
 have noD:∀{o:Obj} {vs:Array Value},o.data=.fields vs→¬ IsD o:=fun e ⟨_,_,q⟩=>nomatch e.symm.trans q
 refine Classical.byContradiction fun hn=>?_
 cases x with
 | ref r=>
  obtain ⟨la,rfl,gr⟩:=rx.inv
  obtain ⟨xs,hj,e⟩:=mM (r:=r) (f:=fun xs=>some (xs,some (r,.list xs))) hi
  cases e
  obtain ⟨items,n',gi,rl,z⟩:=R.hp.objs _ _ _ hj gr
  refine hn (wpAny_pyIter_list ⟨_,gi,rfl,_,rfl⟩ ?_)
  exact wg cx R st₀ (T:="list_iterator") rfl (by decide) (noD rfl) rfl (tq (cx.hn hnh) ht) (fun s₂ e=>⟨⟨_,by rw [e];exact Heap.get?_push_size _ rfl,rfl,rfl⟩,gr⟩) z h
 | tup xs=>
  obtain ⟨ta,k,its,rfl,gi,rl,z⟩:=rx.inv
  cases hi
  refine hn (wpAny_pyIter_tuple ⟨_,gi,rfl,_,rfl⟩ ?_)
  have hk:∀q ob,s.heap.get? q=some ob→(s.heap.push { cls:=.type "tuple_iterator",data:=.fields #[.ref ta,.int 0 0] }).get? q=some ob:=fun q o e=>Heap.get?_push_of_some _ e
  exact wg cx R st₀ (T:="tuple_iterator") rfl (by decide) (noD rfl) rfl (wc (cx.hn hnh) ht) (fun s₂ e=>⟨⟨_,by rw [e];exact Heap.get?_push_size _ rfl,rfl,rfl⟩,_,_,by rw [e];exact hk _ _ gi,by rw [e];exact rl.up (fun a o e _=>hk a o e) (List.prefix_refl _)⟩) z h
 | str y=>
  obtain ⟨u,rfl,z⟩:=rx.inv
  obtain ⟨ha,e⟩:=jj hi
  cases e
  refine hn (wpAny_pyIter_ascii (by rw [←ha];simp) ?_)
  exact wg cx R st₀ (T:="str_ascii_iterator") rfl (by decide) (noD rfl) rfl (we (cx.hn hnh) ht) (fun s₂ e=>⟨_,by rw [e];exact Heap.get?_push_size _ rfl,rfl,rfl⟩) (by rw [List.length_map];exact z) h
 | _=>exact aw hi
noncomputable def qo:IK→Value
 | .enum=>.type "enumerate"
 | _=>.type "range"
theorem wm {x:MV}{q:List MV × Gd}(h:BF x=some q):∃i,x=.int i:=by
 cases x with
 | int i=>exact ⟨i,rfl⟩
 | _=>exact aw h
theorem y7 {kd:Bool}(cx:au C c F n)(hnh:c.nh=true)(R:Rel C F ρ m s)(st₀:aq F.W ρ₀ s₀ ρ s){target:Expr}(ht:bm target=true){x:MV}{v:Value}(rx:Rep C ρ s.heap x v){items:List MV}{g:Gd}(hi:BF x=some (items,g))
  {P:List MV→Gd→MS→Prop}(h:P items g m):wpAny (mod C) A (call (.type "range") [v]) (fun xv s₁=>wpAny (mod C) A (pyIter xv) (mu kd C F target ρ₀ s₀ P) E s₁) E s:=by
 obtain ⟨i,rfl⟩:=wm hi
 obtain ⟨t,rfl⟩:=rx.inv
 obtain ⟨hd,e⟩:=jj hi
 cases e
 have hd:=of_decide_eq_true hd
 refine call_range_1 ?_
 have hk:∀q o,s.heap.get? q=some o→(s.heap.push { cls:=.type "range",data:=.fields #[.int 0 s.toks,.int i t,.int 1 (s.toks+1)] }).get? q=some o:=fun q o e=>Heap.get?_push_of_some _ e
 obtain ⟨R',st'⟩:=R.grow (s':={ s with heap:=s.heap.push { cls:=.type "range",data:=.fields #[.int 0 s.toks,.int i t,.int 1 (s.toks+1)] },toks:=s.toks+1+1 }) cx.fm hk rfl rfl
 refine oV cx hnh R' (st₀.trans st') ht (IsRange.new _ _ _ _ _ _ _) (by decide) (by decide) hd.1 hd.2 (by unfold line;lia) ?_
 simpa using h
theorem qp {hp:List MO}{x:MV}{q:List MV × Gd}(h:p8 hp x=some q):∃i,x=.ref i:=by
 cases x with
 | ref i=>exact ⟨i,rfl⟩
 | _=>exact aw h
theorem tv {kd:Bool}(cx:au C c F n)(hnh:c.nh=true)(R:Rel C F ρ m s)(st₀:aq F.W ρ₀ s₀ ρ s){elts:List Expr}{k':Nat}{p':Pos}{x:MV}{v:Value}(rx:Rep C ρ s.heap x v){items:List MV}{g:Gd}(hi:p8 m.heap x=some (items,g))
  {P:List MV→Gd→MS→Prop}(h:P items g m):wpAny (mod C) A (call (.type "enumerate") [v]) (fun xv s₁=>wpAny (mod C) A (pyIter xv) (mu kd C F (.Tuple elts k' p') ρ₀ s₀ P) E s₁) E s:=by
 have hnew:s.heap.get? s.heap.objs.size=none:=bk (Nat.le_refl _)
 have hnew':s.heap.get? (s.heap.objs.size+1)=none:=bk (Nat.le_succ _)
 obtain ⟨r,rfl⟩:=qp hi
 obtain ⟨la,rfl,gr⟩:=rx.inv
 obtain ⟨xs,hj,e⟩:=mM (r:=r) (f:=fun xs=>some (xs.zipIdx.map (fun (p:MV × Nat)=>.tup [.int p.2,p.1]),some (r,.list xs))) hi
 cases e
 obtain ⟨items,n',gi,rl,z⟩:=R.hp.objs _ _ _ hj gr
 refine call_enumerate_1 gi fun h' he hit hsz hk=>?_
 obtain ⟨R',st'⟩:=R.grow (s':={ s with heap:=h' }) cx.fm hk rfl rfl
 refine wpAny_pyIter_enum he ?_
 have hne:s.heap.objs.size+1≠s.heap.objs.size:=Nat.succ_ne_self _
 have hmem:∀q∈[s.heap.objs.size+1,s.heap.objs.size],s.heap.get? q=none:=fun q hq=>by
  rcases List.mem_cons.mp hq with rfl | hq
  ·exact hnew'
  ·rw [List.mem_singleton.mp hq];exact hnew
 refine ⟨ρ,m,_,_,_,[],_,st₀.trans st',R',tr (e:=s.heap.objs.size+1) (it:=s.heap.objs.size) (cx.hn hnh) hne,⟨⟨_,he⟩,hit,gr⟩,fun q hq=>?_,fun q hq=>cN st₀ (hmem q hq),by rw [List.length_map,List.length_zipIdx];exact z,h,fun _=>rfl,fun _ h=>aC h⟩
 obtain ⟨o,e1,e2,e3⟩:=nN he hit q hq
 exact mL R (hmem q hq) e1 e2 e3
end
end Internal
end
section
namespace Internal
open PySem PyProof.Rows
section
variable {C:Glo}{F:Fm}{X:XM}{c:Cx}{n:Nat}{ρ ρ' ρ₀:List Addr}{m:MS}{s s' s₀:Shared}{A:Around}{E:Value→Shared→Prop}
theorem wn {x y:MV}{q:List MV × Gd}(h:BH x y=some q):∃i j,x=.int i∧y=.int j:=by
 cases x with
 | int i=>
  cases y with
  | int j=>exact ⟨i,j,rfl,rfl⟩
  | _=>exact aw h
 | _=>exact aw h
theorem y8 {kd:Bool}(cx:au C c F n)(hnh:c.nh=true)(R:Rel C F ρ m s)(st₀:aq F.W ρ₀ s₀ ρ s){target:Expr}(ht:bm target=true){x y:MV}{v w:Value}(rx:Rep C ρ s.heap x v)(ry:Rep C ρ s.heap y w){items:List MV}{g:Gd}(hi:BH x y=some (items,g))
  {P:List MV→Gd→MS→Prop}(h:P items g m):wpAny (mod C) A (call (.type "range") [v,w]) (fun xv s₁=>wpAny (mod C) A (pyIter xv) (mu kd C F target ρ₀ s₀ P) E s₁) E s:=by
 obtain ⟨i,j,rfl,rfl⟩:=wn hi
 obtain ⟨t,rfl⟩:=rx.inv
 obtain ⟨t',rfl⟩:=ry.inv
 obtain ⟨hd,e⟩:=jj hi
 cases e
 have hd:=of_decide_eq_true hd
 refine call_range_2 ?_
 have hk:∀q o,s.heap.get? q=some o→(s.heap.push { cls:=.type "range",data:=.fields #[.int i t,.int j t',.int 1 s.toks] }).get? q=some o:=fun q o e=>Heap.get?_push_of_some _ e
 obtain ⟨R',st'⟩:=R.grow (s':={ s with heap:=s.heap.push { cls:=.type "range",data:=.fields #[.int i t,.int j t',.int 1 s.toks] },toks:=s.toks+1 }) cx.fm hk rfl rfl
 exact oV cx hnh R' (st₀.trans st') ht (IsRange.new _ _ _ _ _ _ _) (Int.le_trans (by decide) hd.1.1) hd.1.2 (Int.le_trans (by decide) hd.2.1) hd.2.2 (by unfold line;lia) h
end
end Internal
end
section
namespace Internal
open PySem PyProof.Rows
section
variable {C:Glo}{F:Fm}{X:XM}{c:Cx}{n:Nat}{ρ ρ' ρ₀:List Addr}{m:MS}{s s' s₀:Shared}{A:Around}{E:Value→Shared→Prop}
theorem tw {hp:List MO}{r:Nat}{q:List MV × Gd}(h:(match hp[r]? with
  | some (.dict es)=>some (es.map (fun (p:List Nat × MV)=>MV.str p.1),some (r,MO.dict es))
  | _=>none)=some q):∃es,hp[r]?=some (.dict es)∧(es.map (fun (p:List Nat × MV)=>MV.str p.1),some (r,MO.dict es))=q:=by
 cases e:hp[r]? with
 | none=>rw [e] at h;exact aw h
 | some o=>
  rw [e] at h
  cases o with
  | dict es=>exact ⟨es,rfl,Option.some.inj h⟩
  | _=>exact aw h
theorem tx (G:GOk C)(cx:au C c F n)(hnh:c.nh=true)(R:Rel C F ρ m s)(st₀:aq F.W ρ₀ s₀ ρ s){target:Expr}(ht:bm target=true){x:MV}{v:Value}(rx:Rep C ρ s.heap x v){items:List MV}{g:Gd}(hi:cj .keys [x] m.heap=some (items,g))
  {P:List MV→Gd→MS→Prop}(h:P items g m):wpAny (mod C) A (pyIter v) (mu true C F target ρ₀ s₀ P) E s:=by
 refine Classical.byContradiction fun hn=>?_
 cases x with
 | ref r=>
  obtain ⟨a,rfl,gr⟩:=rx.inv
  obtain ⟨es,hj,e⟩:=tw (r:=r) hi
  cases e
  obtain ⟨kvs,dk,rk,z⟩:=R.hp.objs _ _ _ hj gr
  obtain ⟨ep,da⟩:=dk.dictAt
  obtain ⟨k1,k2⟩:=wf rk
  have ha:=List.mem_of_getElem? gr
  have lt:=Nat.ne_of_lt da.lt_size
  refine hn (wpAny_pyIter_dict (j7 G R.hp ha) da ?_)
  exact wg cx R st₀ (T:="dict_keyiterator") rfl (by decide) (fun ⟨_,_,q⟩=>by cases q) rfl (tu (cx.hn hnh) ht lt k1 k2) (fun s₂ e=>⟨⟨_,by rw [e];exact Heap.get?_push_size _ rfl,rfl,rfl⟩,by rw [e];exact da.push _⟩) (by rw [List.length_map];exact z) h (fun h=>tf h) (fun q hq=>by rw [List.mem_singleton.mp hq];exact ha)
 | _=>exact aw hi
end
end Internal
end
section
namespace Internal
open PySem PyProof.Rows
section
variable {C:Glo}{F:Fm}{X:XM}{c:Cx}{n:Nat}{ρ ρ' ρ₀:List Addr}{m:MS}{s s' s₀:Shared}{A:Around}{E:Value→Shared→Prop}
theorem tz {kd:Bool}(cx:au C c F n)(hnh:c.nh=true)(R:Rel C F ρ m s)(st₀:aq F.W ρ₀ s₀ ρ s){k:IK}(hk:rC k=false){target:Expr}(ht:bm target=true)(hm:kN k=true→∃elts k p,target=.Tuple elts k p∧True){xs:List MV}{vs:List Value}(rl:aD C ρ s.heap xs vs){items:List MV}{g:Gd}
  (hi:cj k xs m.heap=some (items,g)) {P:List MV→Gd→MS→Prop}(h:P items g m):wpAny (mod C) A (call (qo k) vs) (fun xv s₁=>wpAny (mod C) A (pyIter xv) (mu kd C F target ρ₀ s₀ P) E s₁) E s:=by
 refine Classical.byContradiction fun hn=>?_
 rcases xs with _ | ⟨x,_ | ⟨y,_ | ⟨z,r⟩⟩⟩
 ·exact aw hi
 ·obtain ⟨v,rfl,rx⟩:=rl.one
  cases k with
  | val=>exact tf hk
  | range1=>exact hn (y7 cx hnh R st₀ ht rx hi h)
  | range2=>exact aw hi
  | enum=>obtain ⟨_,_,_,rfl,_⟩:=hm rfl;exact hn (tv cx hnh R st₀ rx hi h)
  | keys=>exact tf hk
 ·obtain ⟨v,w,rfl,rx,ry⟩:=rl.two
  cases k with
  | range2=>exact hn (y8 cx hnh R st₀ ht rx ry hi h)
  | _=>exact aw hi
 ·exact aw hi
theorem Co {k:IK}(hk:rC k=false):(vy k,qo k)∈bZ:=by
 cases k with
 | val=>exact tf hk
 | range1=>exact bn 8 rfl
 | range2=>exact bn 8 rfl
 | enum=>exact bn 9 rfl
 | keys=>exact tf hk
theorem y9 (k:IK):∃T,qo k=.type T:=by
 cases k<;>exact ⟨_,rfl⟩
set_option tactic.hygienic true in
theorem rE (G:GOk C)(cx:au C c F n)(hnh:c.nh=true){k:IK}{src:List ME}{e target:Expr}(hsrc:∀a∈src,SV C X n c F a){xs:List Expr}(hxs:kM c k e=some xs)(hc:bi c src xs=true)(htt:bm target=true)
  (hm:kN k=true→∃elts k p,target=.Tuple elts k p∧True)
  {P:List MV→Gd→MS→Prop}(h:gJ (Call C) n src (fun vs m=>uN (cj k vs m.heap) fun items g=>P items g m) X m) (R:Rel C F ρ m s) :
  wpAny (mod C) F.A (eval e F.env) (fun xv s₁=>wpAny (mod C) F.A (pyIter xv) (mu (kL k) C F target ρ s P) (Er C F X ρ s) s₁) (Er C F X ρ s) s:=by
 unfold kM at hxs
 cases hv:rC k with
 | true=>
  rw [hv] at hxs
  obtain rfl:=Option.some.inj hxs
  obtain ⟨a,rfl,hx,hc⟩:=wj hc
  refine (hsrc a (.head _) e hc _ m h).go R (.refl _ _ _) fun ρ₁ s₁ m₁ x v st t1 R₁ rx h₁=>?_
  obtain ⟨items,g,hi,hp⟩:=ow h₁
  cases k with
  | val=>exact wl cx hnh R₁ t1 htt rx hi hp
  | keys=>exact tx G cx hnh R₁ t1 htt rx hi hp
  | _=>exact ff hv
 | false=>
  rw [hv] at hxs
  obtain ⟨⟨x,ys,pos⟩,hx,hq⟩:=Option.bind_eq_some_iff.mp hxs
  obtain ⟨px,rfl⟩:=g6 hx
  split at hq
  ·rename_i hg
   obtain rfl:=Option.some.inj hq
   simp only [Bool.and_eq_true,beq_iff_eq,Bool.not_eq_true'] at hg
   obtain ⟨⟨hg,rfl⟩,hne⟩:=hg
   refine PyProof.Rows.Call_Name rfl (cr cx R (Co hv) (aP hg).1 (aP hg).2 ?_)
   refine d8 (.inr (y9 k)) (bO hc _ _) (gv hc hne _ _) ?_
   refine (nP G cx hsrc _ hc _ m h pos).go R (.refl _ _ _) fun ρ₁ s₁ m₁ xs vs st t1 R₁ rl el h₁=>?_
   obtain ⟨items,g,hi,hp⟩:=ow h₁
   exact tz cx hnh R₁ t1 hv htt hm rl hi hp
  ·exact aw hq
end
end Internal
end
section
set_option backward.match.sparseCases true
namespace Internal
open PySem PyProof.Rows
section
variable {C:Glo}{F:Fm}{X:XM}{c:Cx}{n:Nat}
theorem eO {Q:Bool→MS→Prop}{x:MV}{m:MS}(h:cp Q x m):∃b,x=.bool b∧Q b m:=by
 cases x with
 | bool b=>exact ⟨b,rfl,h⟩
 | _=>exact h.elim
theorem rF {K:KT}{i:Nat}{Q:PQ}{m:MS}(h:wpE K n (.var i) Q X m):∃v,m.get i=some v∧Q v m:=by
 have h:(match m.get i with | some v=>Q v m | none=>False):=h
 cases hv:m.get i with
 | some v=>rw [hv] at h;exact ⟨v,rfl,h⟩
 | none=>rw [hv] at h;exact h.elim
theorem svO (G:GOk C)(cx:au C c F n):∀{o:Option ME},(∀a,o=some a→SV C X n c F a)→∀(x:Option Expr),Ce c o x=true→∀(Q:Option MV→MS→Prop) (m:MS),wpO (Call C) n o Q X m→∀(s:Shared) (ρ:List Addr),Rel C F ρ m s→
  ∀(s₀:Shared) (ρ₀:List Addr) (P:Value→Shared→Prop),aq F.W ρ₀ s₀ ρ s→(∀ρ₁ s₁ m₁ x v,aq F.W ρ s ρ₁ s₁→aq F.W ρ₀ s₀ ρ₁ s₁→Rel C F ρ₁ m₁ s₁→iq C ρ₁ s₁.heap x v→Q x m₁→P v s₁)→
   wpAny (mod C) F.A (evalPart x F.env) P (Er C F X ρ₀ s₀) s
 | none,ih,x,hc,Q,m,h,s,ρ,R,s₀,ρ₀,P,st,k=>by
  cases x with
  | none=>rw [evalPart_none];exact wpAny_pure (k ρ s m none .none (.refl _ _ _) st R rfl h)
  | some=>exact ff hc
 | some e,ih,x,hc,Q,m,h,s,ρ,R,s₀,ρ₀,P,st,k=>by
  cases x with
  | some x=>
   rw [evalPart_some]
   exact (ih e rfl _ hc _ m h).go R st fun ρ₁ s₁ m₁ x v st1 t1 R₁ rx h₁=>k ρ₁ s₁ m₁ (some x) v st1 t1 R₁ rx h₁
  | none=>exact ff hc
theorem A9 (G:GOk C)(cx:au C c F n):∀{es:List ME},(∀a∈es,SV C X n c F a)→∀(xs:List Expr),bi c es xs=true→∀(Q:PQ) (m:MS),oG (Call C) n es Q X m→∀pos,WPv C F X (boolOp pos .And (evalEach xs F.env)) Q m
 | [],ih,xs,hc,Q,m,h,pos=>h.elim
 | [e],ih,xs,hc,Q,m,h,pos=>by
  cases xs with
  | nil=>exact ff hc
  | cons x xs=>
   replace hc:=aV hc
   cases xs with
   | nil=>exact ih e (by simp) x hc.1.2 Q m h
   | cons=>cases hc.2
 | e::e'::es,ih,xs,hc,Q,m,h,pos=>by
  cases xs with
  | nil=>exact ff hc
  | cons x xs=>
   replace hc:=aV hc
   cases xs with
   | nil=>cases hc.2
   | cons x' xs=>
    intro s ρ R
    show wpAny (mod C) F.A (do let v ←eval x F.env;standAt pos;let t ←holding [v] (truthy v);match BoolOp.And,t with | .And,false | .Or,true=>pure v | _,_=>boolOp pos .And (evalEach (x'::xs) F.env)) _ _ s
    refine wpAny_bind ((ih e (by simp) x hc.1.2 _ m h).go R (.refl _ _ _) fun ρ₁ s₁ m₁ y v st t1 R₁ rx h₁=>?_)
    obtain ⟨b,rfl,h₁⟩:=eO h₁
    ·obtain rfl:=rx.inv
     refine wpAny_bind (wpAny_standAt (wpAny_bind (wpAny_holding (wpAny_truthy_bool ?_))))
     cases b with
     | true=>exact wpAny_mono (A9 G cx (fun a ha=>ih a (List.mem_cons_of_mem _ ha)) (x'::xs) hc.2 Q m₁ h₁ pos s₁ ρ₁ R₁) (Out.back t1) (Er.back t1)
     | false=>exact wpAny_pure (Out.back t1 _ _ (bS R₁ (.bool _) h₁))
theorem Ez (G:GOk C)(cx:au C c F n):∀{es:List ME},(∀a∈es,SV C X n c F a)→∀(xs:List Expr),bi c es xs=true→∀(Q:PQ) (m:MS),yC (Call C) n es Q X m→∀pos,WPv C F X (boolOp pos .Or (evalEach xs F.env)) Q m
 | [],ih,xs,hc,Q,m,h,pos=>h.elim
 | [e],ih,xs,hc,Q,m,h,pos=>by
  cases xs with
  | nil=>exact ff hc
  | cons x xs=>
   replace hc:=aV hc
   cases xs with
   | nil=>exact ih e (by simp) x hc.1.2 Q m h
   | cons=>cases hc.2
 | e::e'::es,ih,xs,hc,Q,m,h,pos=>by
  cases xs with
  | nil=>exact ff hc
  | cons x xs=>
   replace hc:=aV hc
   cases xs with
   | nil=>cases hc.2
   | cons x' xs=>
    intro s ρ R
    show wpAny (mod C) F.A (do let v ←eval x F.env;standAt pos;let t ←holding [v] (truthy v);match BoolOp.Or,t with | .And,false | .Or,true=>pure v | _,_=>boolOp pos .Or (evalEach (x'::xs) F.env)) _ _ s
    refine wpAny_bind ((ih e (by simp) x hc.1.2 _ m h).go R (.refl _ _ _) fun ρ₁ s₁ m₁ y v st t1 R₁ rx h₁=>?_)
    obtain ⟨b,rfl,h₁⟩:=eO h₁
    ·obtain rfl:=rx.inv
     refine wpAny_bind (wpAny_standAt (wpAny_bind (wpAny_holding (wpAny_truthy_bool ?_))))
     cases b with
     | false=>exact wpAny_mono (Ez G cx (fun a ha=>ih a (List.mem_cons_of_mem _ ha)) (x'::xs) hc.2 Q m₁ h₁ pos s₁ ρ₁ R₁) (Out.back t1) (Er.back t1)
     | true=>exact wpAny_pure (Out.back t1 _ _ (bS R₁ (.bool _) h₁))
theorem Cp (G:GOk C)(cx:au C c F n){v:MV} :SV C X n c F (.cst v):=by
 intro e hc Q m h
 replace hc:=ae hc
 obtain ⟨k,hx,hc⟩:=hc
 obtain ⟨_,_,rfl⟩:=jh hx
 intro s ρ R;exact wb R cx.fm hc h
theorem Cq (G:GOk C)(cx:au C c F n){i:Nat} :SV C X n c F (.var i):=by
 intro e hc Q m h
 replace hc:=ae hc
 obtain ⟨x,hx,hc⟩:=hc
 obtain ⟨_,rfl⟩:=bN hx
 simp only [Bool.and_eq_true,beq_iff_eq,Bool.not_eq_true'] at hc
 obtain ⟨v,hv,h⟩:=rF h
 intro s ρ R;exact vh cx R hc.1 hv hc.2 h
theorem za (G:GOk C)(cx:au C c F n){g:Nat}{v:MV} :SV C X n c F (.glob g v):=by
 intro e hc Q m h
 replace hc:=ae hc
 obtain ⟨x,hx,hc⟩:=hc
 obtain ⟨_,rfl⟩:=bN hx
 simp only [Bool.and_eq_true] at hc
 obtain ⟨h1,h2⟩:=hc
 unfold Eu at h2
 replace h2:=ae h2
 obtain ⟨⟨y,w⟩,hg,h2⟩:=h2
 rw [Bool.and_eq_true] at h2
 obtain ⟨h3,h4⟩:=h2
 obtain ⟨a,ha,h4⟩:=ae h4
 cases eq_of_beq h3
 have e:v=w:=(oU (eq_of_beq h4)).trans (oU ha).symm
 subst e
 intro s ρ R;exact yU cx R hg (aP h1).1 (aP h1).2 h
theorem Cr (G:GOk C)(cx:au C c F n){op:Op}{a:ME}{b:ME}(ia:SV C X n c F a)(ib:SV C X n c F b):SV C X n c F (.bin op a b):=by
 intro e hc Q m h
 replace hc:=ae hc
 obtain ⟨⟨l,o,r⟩,hx,hc⟩:=hc
 obtain ⟨p,rfl⟩:=yI hx
 simp only [Bool.and_eq_true,beq_iff_eq] at hc
 obtain ⟨⟨rfl,ha⟩,hb⟩:=hc
 intro s ρ R
 refine wpAny_BinOp ((ia l ha _ m h).go R (.refl _ _ _) fun ρ₁ s₁ m₁ x v st t1 R₁ rx h₁=>?_)
 refine (ib r hb _ m₁ h₁).go R₁ t1 fun ρ₂ s₂ m₂ y w st' t2 R₂ ry h₂=>?_
 exact wpAny_mono (BN R₂ cx.fm (rx.step st') ry h₂) (Out.back t2) fun _ _ x=>x
theorem Cs (G:GOk C)(cx:au C c F n){a:ME}(ia:SV C X n c F a):SV C X n c F (.neg a):=by
 intro e hc Q m h
 replace hc:=ae hc
 obtain ⟨⟨o,x⟩,hx,hc⟩:=hc
 obtain ⟨p,rfl⟩:=nG hx
 simp only [Bool.and_eq_true,beq_iff_eq] at hc
 obtain ⟨rfl,hc⟩:=hc
 intro s ρ R
 refine wpAny_UnaryOp ((ia _ hc _ m h).go R (.refl _ _ _) fun ρ₁ s₁ m₁ x v st t1 R₁ rx h₁=>?_)
 obtain ⟨i,rfl,h₁⟩:=nu h₁
 obtain ⟨t,rfl⟩:=rx.inv
 exact PyProof.Rows.neg_int (Out.back t1 _ _ (bD R₁ cx.fm (.int _ _) h₁))
theorem Ct (G:GOk C)(cx:au C c F n){a:ME}(ia:SV C X n c F a):SV C X n c F (.not a):=by
 intro e hc Q m h
 replace hc:=ae hc
 obtain ⟨⟨o,x⟩,hx,hc⟩:=hc
 obtain ⟨p,rfl⟩:=nG hx
 simp only [Bool.and_eq_true,beq_iff_eq] at hc
 obtain ⟨rfl,hc⟩:=hc
 intro s ρ R
 refine wpAny_UnaryOp ((ia _ hc _ m h).go R (.refl _ _ _) fun ρ₁ s₁ m₁ x v st t1 R₁ rx h₁=>?_)
 obtain ⟨b,rfl,h₁⟩:=eO h₁
 obtain rfl:=rx.inv
 exact not_value (wpAny_truthy_bool (Out.back t1 _ _ (bS R₁ (.bool _) h₁)))
theorem Cu (G:GOk C)(cx:au C c F n){es:List ME}(ies:∀a∈es,SV C X n c F a):SV C X n c F (.and es):=by
 intro e hc Q m h
 replace hc:=ae hc
 obtain ⟨⟨o,xs⟩,hx,hc⟩:=hc
 obtain ⟨p,rfl⟩:=il hx
 simp only [Bool.and_eq_true,beq_iff_eq] at hc
 obtain ⟨rfl,hc⟩:=hc
 exact A9 G cx ies _ hc Q m h _
theorem EA (G:GOk C)(cx:au C c F n){es:List ME}(ies:∀a∈es,SV C X n c F a):SV C X n c F (.or es):=by
 intro e hc Q m h
 replace hc:=ae hc
 obtain ⟨⟨o,xs⟩,hx,hc⟩:=hc
 obtain ⟨p,rfl⟩:=il hx
 simp only [Bool.and_eq_true,beq_iff_eq] at hc
 obtain ⟨rfl,hc⟩:=hc
 exact Ez G cx ies _ hc Q m h _
theorem nQ (G:GOk C)(cx:au C c F n){op:Cmp}{x y:MV}{v w:Value}{ρ ρ₀:List Addr}{s s₀:Shared}{m:MS}{A:Around}(hA:A.units+1001<cLine){E:Value→Shared→Prop}{P:Bool→MS→Prop}{Q:Value→Shared→Prop}(R:Rel C F ρ m s)(t:aq F.W ρ₀ s₀ ρ s)(rx:Rep C ρ s.heap x v)(ry:Rep C ρ s.heap y w)(h:ij op x y P m)
  (k:∀b ρ' m' s',aq F.W ρ s ρ' s'→aq F.W ρ₀ s₀ ρ' s'→Rel C F ρ' m' s'→P b m'→Q (.bool b) s'):wpAny (mod C) A (compareOp (gO op) v w) Q E s:=
 wpAny_mono (uX G R.hp rx ry hA h) (fun v s' hv=>by
  obtain ⟨b,rfl,m',st,R',hq⟩:=wa R cx.fm hv
  exact k b _ m' s' st (t.trans st) R' hq) fun _ _ x=>x
theorem mO (G:GOk C)(cx:au C c F n){op:Cmp}{a b:ME}(ia:SV C X n c F a)(ib:SV C X n c F b){l r:Expr}(ha:aO c a l=true)(hb:aO c b r=true){P:Bool→MS→Prop}{m:MS}{s:Shared}{ρ:List Addr}(R:Rel C F ρ m s)
  (h:wpE (Call C) n a (fun x m=>wpE (Call C) n b (fun y m=>ij op x y P m) X m) X m) {Q:Value→Shared→Prop}(k:∀b ρ' m' s',aq F.W ρ s ρ' s'→Rel C F ρ' m' s'→P b m'→Q (.bool b) s') :
  wpAny (mod C) F.A (eval l F.env) (fun v s₁=>wpAny (mod C) F.A (eval r F.env) (fun w s₂=>wpAny (mod C) F.A (compareOp (gO op) v w) Q (Er C F X ρ s) s₂) (Er C F X ρ s) s₁) (Er C F X ρ s) s:=by
 refine (ia l ha _ m h).go R (.refl _ _ _) fun ρ₁ s₁ m₁ x v st t1 R₁ rx h₁=>?_
 refine (ib r hb _ m₁ h₁).go R₁ t1 fun ρ₂ s₂ m₂ y w st' t2 R₂ ry h₂=>?_
 exact nQ G cx cx.u R₂ t2 (rx.step st') ry h₂ fun b ρ' m' s' _ st R' hq=>k b ρ' m' s' st R' hq
theorem Cv (G:GOk C)(cx:au C c F n){op:Cmp}{a:ME}{b:ME}(ia:SV C X n c F a)(ib:SV C X n c F b):SV C X n c F (.cmp op a b):=by
 intro e hc Q m h
 replace hc:=ae hc
 obtain ⟨⟨l,os,rs⟩,hxx,hc⟩:=hc
 replace hc:=ae hc
 obtain ⟨o,ho,hc⟩:=hc
 replace hc:=ae hc
 obtain ⟨r,hr,hc⟩:=hc
 cases bE ho
 cases bE hr
 obtain ⟨p,rfl⟩:=gh hxx
 simp only [Bool.and_eq_true,beq_iff_eq] at hc
 obtain ⟨⟨⟨rfl,hx⟩,ha⟩,hb⟩:=hc
 intro s ρ R
 exact wpAny_Compare1 (mO G cx ia ib ha hb R h fun b ρ' m' s' st R' hq=>⟨_,_,_,st,R',.bool b,hq⟩) (dZ hx _)
theorem zb {p:Bool}{ρ:List Addr}{h:Heap}{x:MV}{v:Value}(rx:Rep C ρ h x v):uQ p x=(if p then (v==Value.none) else !(v==Value.none)):=by
 cases p with
 | true=>exact Rep.casesOn (motive_1:=fun x v _=>uQ true x=(v==Value.none)) rx rfl (fun _=>rfl) (fun _ _=>rfl) (fun _ _ _=>rfl) (fun _ _ _=>rfl) (fun _=>rfl) (fun _ _ _=>rfl) (fun _ _ _ _=>rfl) (fun _ _ _=>rfl) (fun _ _ _=>rfl)
 | false=>exact Rep.casesOn (motive_1:=fun x v _=>uQ false x=!(v==Value.none)) rx rfl (fun _=>rfl) (fun _ _=>rfl) (fun _ _ _=>rfl) (fun _ _ _=>rfl) (fun _=>rfl) (fun _ _ _=>rfl) (fun _ _ _ _=>rfl) (fun _ _ _=>rfl) (fun _ _ _=>rfl)
theorem oW (G:GOk C)(cx:au C c F n){p:Bool}{a:ME}(ia:SV C X n c F a){l:Expr}(ha:aO c a l=true){P:Bool→MS→Prop}{m:MS}{s:Shared}{ρ:List Addr}(R:Rel C F ρ m s)(h:wpE (Call C) n a (fun x m=>P (uQ p x) m) X m){Q:Value→Shared→Prop}
  (k:∀b ρ' m' s',aq F.W ρ s ρ' s'→Rel C F ρ' m' s'→P b m'→Q (.bool b) s') {j:Nat}{q:Pos} :
  wpAny (mod C) F.A (eval l F.env) (fun v s₁=>wpAny (mod C) F.A (eval (.Constant .none j q) F.env) (fun w s₂=>wpAny (mod C) F.A (compareOp (if p then .Is else .IsNot) v w) Q (Er C F X ρ s) s₂) (Er C F X ρ s) s₁) (Er C F X ρ s) s:=by
 refine (ia l ha _ m h).go R (.refl _ _ _) fun ρ₁ s₁ m₁ x v st t1 R₁ rx h₁=>wpAny_Constant_none ?_
 rw [zb rx] at h₁
 have h₂:=k _ ρ₁ m₁ s₁ t1 R₁ h₁
 cases p with
 | true=>exact is_none h₂
 | false=>exact isNot_none h₂
theorem Cw (G:GOk C)(cx:au C c F n){p:Bool}{a:ME}(ia:SV C X n c F a):SV C X n c F (.isN p a):=by
 intro e hc Q m h
 replace hc:=ae hc
 obtain ⟨⟨l,os,rs⟩,hxx,hc⟩:=hc
 replace hc:=ae hc
 obtain ⟨o,ho,hc⟩:=hc
 replace hc:=ae hc
 obtain ⟨r,hr,hc⟩:=hc
 cases bE ho
 cases bE hr
 obtain ⟨p2,rfl⟩:=gh hxx
 simp only [Bool.and_eq_true,beq_iff_eq] at hc
 obtain ⟨⟨rfl,hn⟩,ha⟩:=hc
 obtain ⟨_,_,rfl⟩:=jh hn
 intro s ρ R
 exact wpAny_Compare1 (oW (P:=fun b m=>Q (.bool b) m) G cx ia ha R h fun b ρ' m' s' st R' hq=>⟨_,_,_,st,R',.bool b,hq⟩) rfl
theorem zc (G:GOk C)(cx:au C c F n){f:Nat}{args:List ME}(iargs:∀a∈args,SV C X n c F a):SV C X n c F (.call f args):=by
 intro e hc Q m h
 replace hc:=ae hc
 obtain ⟨⟨x,ys,pos⟩,hx,hc⟩:=hc
 obtain ⟨px,rfl⟩:=g6 hx
 simp only [Bool.and_eq_true,beq_iff_eq,Bool.not_eq_true'] at hc
 obtain ⟨⟨⟨⟨hg,hf⟩,hne⟩,hnh⟩,ha⟩:=hc
 have hh:F.A.handled=none∨C.hf f=true:=by
  rcases Bool.or_eq_true_iff.mp hnh with q | q
  ·exact .inl (cx.hn q)
  ·exact .inr (cx.hf▸q)
 intro s ρ R
 refine PyProof.Rows.Call_Name rfl (yT cx R hf (aP hg).1 (aP hg).2 fun a hfa=>?_)
 have ha':=nP G cx iargs ys ha _ m h pos
 have hp:=bO ha pos F.env
 have hn:=gv ha hne pos F.env
 obtain ⟨⟨b,t⟩,trees,et⟩:=List.exists_cons_of_ne_nil hn
 rw [et] at ha' hp ⊢
 simp only [List.any_cons,Bool.or_eq_false_iff] at hp
 obtain ⟨rfl,hp⟩:=hp
 obtain ⟨o,fd,ho,hd⟩:=G.fns f a hfa
 refine Calls.callWith_function (o:=o) (fd:=fd) (Calls.evalArgs_plain (ha'.go R (.refl _ _ _) fun ρ₁ s₁ m₁ xs vs st t1 R₁ rl el h₁=>⟨⟨R₁.hp.base _ _ ho,hd⟩,?_⟩))
 refine wpAny_mono (h₁ F m₁ s₁ ρ₁ vs a cx.fm hh rfl R₁ rl cx.room cx.units hfa) (fun v s₂ hv=>?_) fun e s' x=>Er.back t1 e s' (Er.mono (fun k m' ⟨q1,q2⟩=>by rw [←q1] at q2;exact q2) e s' x)
 obtain ⟨ρ₂,m₂,x,st2,R₂,rx,e,hq⟩:=hv
 refine ⟨ρ₂,m₂,x,t1.trans st2,R₂,rx,?_⟩
 rw [←e] at hq;exact hq
theorem Cy (G:GOk C)(cx:au C c F n){k:Me}{o:ME}{args:List ME}(io:SV C X n c F o)(iargs:∀a∈args,SV C X n c F a):SV C X n c F (.mth k o args):=by
 intro e hc Q m h
 replace hc:=ae hc
 obtain ⟨⟨⟨ov,name,apos⟩,ys,pos⟩,hx,hc⟩:=hc
 have ee:=oK hx
 subst ee
 simp only [Bool.and_eq_true,beq_iff_eq,decide_eq_true_eq] at hc
 obtain ⟨⟨⟨⟨⟨hn,h0⟩,hl⟩,hz⟩,ho⟩,ha⟩:=hc
 intro s ρ R
 have hp:=bO ha pos F.env
 refine wpAny_Call_method_late (ml h0 _ _) ?_ (by simp [hl]) rfl ((io ov ho _ m h).go R (.refl _ _ _) fun ρ₁ s₁ m₁ x v st t1 R₁ rx h₁=>?_)
 ·rw [Bool.and_eq_true,Bool.and_eq_true]
  refine ⟨⟨?_,rfl⟩,?_⟩
  ·rw [List.all_eq_true];intro q hq
   rw [List.any_eq_false] at hp
   simpa using hp q hq
  ·simp;exact Nat.le_trans hz (nb rfl)
 ·obtain ⟨hm,h₁⟩:=hZ h₁
  refine Cc G cx.fm hn t1 R₁ rx hm hp ?_
  exact (nP G cx iargs ys ha _ m₁ h₁ pos).go R₁ t1 fun ρ₂ s₂ m₂ xs vs st2 t2 R₂ rl _ h₂=>⟨ρ₂,m₂,xs,st2,R₂,rl,h₂⟩
theorem Cz (G:GOk C)(cx:au C c F n){o:ME}{i:ME}(io:SV C X n c F o)(ii:SV C X n c F i):SV C X n c F (.idx o i):=by
 intro e hc Q m h
 replace hc:=ae hc
 obtain ⟨⟨v,sl⟩,hxx,hc⟩:=hc
 obtain ⟨p,rfl⟩:=j8 hxx
 simp only [Bool.and_eq_true] at hc
 obtain ⟨⟨hx,ho⟩,hi⟩:=hc
 intro s ρ R
 refine PyProof.Rows.Subscript_ ((io v ho _ m h).go R (.refl _ _ _) fun ρ₁ s₁ m₁ x v st t1 R₁ rx h₁=>?_)
 refine (ii sl hi _ m₁ h₁).go R₁ t1 fun ρ₂ s₂ m₂ y w st' t2 R₂ ry h₂=>?_
 exact wpAny_mono (u5 G R₂ (rx.step st') ry hx h₂) (fun v s' o=>Out.back t2 v s' (o.out R₂ cx.fm)) fun _ _ x=>x
theorem EB (G:GOk C)(cx:au C c F n){o:ME}{lo:Option ME}{hi:Option ME}(io:SV C X n c F o)(ilo:∀a,lo=some a→SV C X n c F a)(ihi:∀a,hi=some a→SV C X n c F a):SV C X n c F (.sl o lo hi):=by
 intro e hc Q m h
 replace hc:=ae hc
 obtain ⟨⟨v,sl⟩,hxx,hc⟩:=hc
 replace hc:=ae hc
 obtain ⟨⟨l,u,stp⟩,hx,hc⟩:=hc
 obtain ⟨p1,rfl⟩:=sS hx
 obtain ⟨p2,rfl⟩:=j8 hxx
 simp only [Bool.and_eq_true] at hc
 obtain ⟨⟨⟨hs,ho⟩,hlo⟩,hhi⟩:=hc
 cases stp with
 | some=>exact ff hs
 | none=>
 intro s ρ R
 refine PyProof.Rows.Subscript_ ((io v ho _ m h).go R (.refl _ _ _) fun ρ₁ s₁ m₁ x v st t1 R₁ rx h₁=>?_)
 refine wpAny_Slice ?_
 refine (svO G cx ilo l hlo _ m₁ h₁) s₁ ρ₁ R₁ _ _ _ t1 fun ρ₂ s₂ m₂ a va st2 t2 R₂ ra h₂=>?_
 refine (svO G cx ihi u hhi _ m₂ h₂) s₂ ρ₂ R₂ _ _ _ t2 fun ρ₃ s₃ m₃ b vb st3 t3 R₃ rb h₃=>?_
 rw [evalPart_none]
 refine wpAny_pure ?_
 have ra':iq C ρ₃ s₃.heap a va:=by
  cases a with
  | none=>exact ra
  | some a=>exact ra.step st3
 exact wpAny_mono (En R₃ cx.fm ((rx.step st2).step st3) ra' rb h₃) (Out.back t3) fun _ _ x=>x
theorem zd (G:GOk C)(cx:au C c F n){es:List ME}(ies:∀a∈es,SV C X n c F a):SV C X n c F (.list es):=by
 intro e hc Q m h
 replace hc:=ae hc
 obtain ⟨xs,hxx,hc⟩:=hc
 obtain ⟨p,rfl⟩:=u2 hxx
 simp only [Bool.and_eq_true,decide_eq_true_eq] at hc
 intro s ρ R
 refine wpAny_List ((nP G cx ies xs hc.2 _ m h _).go R (.refl _ _ _) fun ρ₁ s₁ m₁ xs vs st t1 R₁ rl el h₁=>?_)
 have hz:xs.length≤line:=el▸Nat.le_trans hc.1 (by decide)
 exact ⟨by rw [rl.length];exact hz,Out.back t1 _ _ (nC R₁ cx.fm rl hz h₁)⟩
theorem CA (G:GOk C)(cx:au C c F n){es:List ME}(ies:∀a∈es,SV C X n c F a):SV C X n c F (.tup es):=by
 intro e hc Q m h
 replace hc:=ae hc
 obtain ⟨xs,hxx,hc⟩:=hc
 obtain ⟨k,p,rfl⟩:=im hxx
 simp only [Bool.and_eq_true,decide_eq_true_eq] at hc
 intro s ρ R
 refine wpAny_Tuple ((nP G cx ies xs hc.2 _ m h _).go R (.refl _ _ _) fun ρ₁ s₁ m₁ xs vs st t1 R₁ rl el h₁=>?_)
 have hz:xs.length≤line:=el▸Nat.le_trans hc.1 (by decide)
 exact ⟨by rw [rl.length];exact hz,Out.back t1 _ _ (nA R₁ cx.fm rl hz h₁)⟩
theorem wo (G:GOk C)(cx:au C c F n)  :SV C X n c F (.dict0):=by
 intro e hc Q m h
 replace hc:=ae hc
 obtain ⟨⟨ks,vs⟩,hxx,hc⟩:=hc
 obtain ⟨p,rfl⟩:=u3 hxx
 simp only [Bool.and_eq_true,List.isEmpty_iff] at hc
 obtain ⟨rfl,rfl⟩:=hc
 intro s ρ R
 refine wpAny_Dict_empty ?_
 have hk:∀a o,s.heap.get? a=some o→(s.heap.push { cls:=.type "dict",data:=.dict #[] }).get? a=some o:=fun a o e=>Heap.get?_push_of_some _ e
 obtain ⟨R',st⟩:=R.alloc (s':={ s with heap:=s.heap.push { cls:=.type "dict",data:=.dict #[] } }) cx.fm hk rfl rfl (o:=.dict []) (a:=s.heap.objs.size) (bk (Nat.le_refl _))
  ⟨[],Heap.DictOf.new _,.nil,Nat.zero_le _⟩
 exact ⟨_,_,_,st,R',.ref (i:=m.heap.length) (by rw [←R.hp.len,List.getElem?_append_right (Nat.le_refl _)];simp),h⟩
end
end Internal
end
section
namespace Internal
theorem ka:∀(a b:List Nat),slt a b=true↔a<b
 | [],[]=>⟨fun h=>ff h,fun h=>absurd h (List.lt_irrefl _)⟩
 | [],_::_=>⟨fun _=>List.nil_lt_cons ..,fun _=>rfl⟩
 | _::_,[]=>⟨fun h=>ff h,fun h=>absurd h (List.not_lt_nil _)⟩
 | a::x,b::y=>by
  rw [List.cons_lt_cons_iff]
  show (match decide (a<b),a==b with
   | true,_=>true
   | false,true=>slt x y
   | false,false=>false)=true↔_
  by_cases h:a<b
  ·rw [decide_eq_true h];exact ⟨fun _=>.inl h,fun _=>rfl⟩
  ·rw [decide_eq_false h]
   by_cases e:a=b
   ·subst e
    rw [beq_self_eq_true]
    exact ⟨fun q=>.inr ⟨rfl,(ka x y).mp q⟩,fun q=>q.elim (fun q=>absurd q h) fun q=>(ka x y).mpr q.2⟩
   ·rw [beq_false_of_ne e]
    exact ⟨fun q=>ff q,fun q=>q.elim (fun q=>absurd q h) fun q=>absurd q.1 e⟩
theorem kP {s x:List Nat}:∀{l:List (List Nat)},x∈pW s l↔x=s∨x∈l
 | []=>⟨fun h=>.inl (List.mem_singleton.mp h),fun h=>h.elim (fun h=>List.mem_singleton.mpr h) fun h=>aC h⟩
 | t::r=>by
  show x∈(match slt s t,s==t with
   | true,_=>s::t::r
   | false,true=>t::r
   | false,false=>t::pW s r)↔_
  cases h1:slt s t with
  | true=>simp
  | false=>
   cases h2:s==t with
   | true=>
    have:s=t:=by simpa using h2
    subst this
    simp
   | false=>
    simp only [List.mem_cons,kP (l:=r)]
    constructor
    ·rintro (h | h | h)
     ·exact .inr (.inl h)
     ·exact .inl h
     ·exact .inr (.inr h)
    ·rintro (h | h | h)
     ·exact .inr (.inl h)
     ·exact .inl h
     ·exact .inr (.inr h)
theorem aE {x:List Nat}:∀{l:List (List Nat)},x∈aS l↔x∈l
 | []=>Iff.rfl
 | s::r=>by show x∈pW s (aS r)↔_;rw [kP,aE,List.mem_cons]
theorem rG {s:List Nat}:∀{l:List (List Nat)},l.Pairwise (· < ·)→(pW s l).Pairwise (· < ·)
 | [],_=>List.pairwise_singleton _ _
 | t::r,h=>by
  obtain ⟨h1,h2⟩:=List.pairwise_cons.mp h
  show (match slt s t,s==t with
   | true,_=>s::t::r
   | false,true=>t::r
   | false,false=>t::pW s r).Pairwise (· < ·)
  cases e1:slt s t with
  | true=>
   have hst:=(ka s t).mp e1
   exact List.pairwise_cons.mpr ⟨fun x hx=>by
    rcases List.mem_cons.mp hx with rfl | hx
    ·exact hst
    ·exact List.lt_trans hst (h1 x hx),h⟩
  | false=>
   cases e2:s==t with
   | true=>exact h
   | false=>
    have hne:s≠t:=by simpa using e2
    have hle:¬ s<t:=fun q=>by rw [(ka s t).mpr q] at e1;exact tf e1
    have hts:t<s:=by
     rcases Classical.em (t<s) with q | q
     ·exact q
     ·exact absurd (List.le_antisymm (List.not_lt.mp q) (List.not_lt.mp hle)) hne
    refine List.pairwise_cons.mpr ⟨fun x hx=>?_,rG h2⟩
    rcases kP.mp hx with rfl | hx
    ·exact hts
    ·exact h1 x hx
theorem kb:∀(l:List (List Nat)),(aS l).Pairwise (· < ·)
 | []=>.nil
 | s::r=>rG (kb r)
theorem Ba:∀{l m:List (List Nat)},l.Pairwise (· < ·)→m.Pairwise (· < ·)→(∀x,x∈l↔x∈m)→l=m
 | [],[],_,_,_=>rfl
 | [],b::m,_,_,h=>by have:=(h b).mpr (List.mem_cons_self ..);exact aC this
 | a::l,[],_,_,h=>by have:=(h a).mp (List.mem_cons_self ..);exact aC this
 | a::l,b::m,hl,hm,h=>by
  obtain ⟨l1,l2⟩:=List.pairwise_cons.mp hl
  obtain ⟨m1,m2⟩:=List.pairwise_cons.mp hm
  have hab:a=b:=by
   rcases List.mem_cons.mp ((h a).mp (List.mem_cons_self ..)) with q | q
   ·exact q
   ·rcases List.mem_cons.mp ((h b).mpr (List.mem_cons_self ..)) with q' | q'
    ·exact q'.symm
    ·exact absurd (List.lt_trans (m1 a q) (l1 b q')) (List.lt_irrefl _)
  subst hab
  congr 1
  refine Ba l2 m2 fun x=>⟨fun hx=>?_,fun hx=>?_⟩
  ·rcases List.mem_cons.mp ((h x).mp (List.mem_cons_of_mem _ hx)) with q | q
   ·subst q;exact absurd (l1 _ hx) (List.lt_irrefl _)
   ·exact q
  ·rcases List.mem_cons.mp ((h x).mpr (List.mem_cons_of_mem _ hx)) with q | q
   ·subst q;exact absurd (m1 _ hx) (List.lt_irrefl _)
   ·exact q
end Internal
end
section
set_option maxRecDepth 100000
namespace Internal
open PySem PyProof.Rows
noncomputable abbrev fG (es:Array (Int × Value)) (ep:Nat) (t:SetTable):Obj:={ cls:=.type "set",dict:=none,data:=.set es ep t,slots:=#[] }
noncomputable abbrev bV (w:World):Bool:=w.params.followText "set-order"
theorem tC (t:SetTable)(j:Nat):(t.put j).1.led=t.led∧(t.put j).1.plain=t.plain:=by cases t;exact ⟨rfl,rfl⟩
theorem bx (t:SetTable)(n:Nat):(t.standIn n).led=t.led∧(t.standIn n).plain=false:=by cases t;exact ⟨rfl,rfl⟩
theorem jX (t:SetTable)(n:Nat):(t.orStandIn n).led=t.led∧((t.orStandIn n).plain=true→t.plain=true):=by
 unfold SetTable.orStandIn
 split
 ·exact ⟨rfl,id⟩
 ·exact ⟨(bx t n).1,fun h=>by rw [(bx t n).2] at h;exact ff h⟩
set_option tactic.hygienic true in
theorem qq (t:SetTable)(es:Array (Int × Value))(h:Int)(x:Value):(layNew t es h x).2.1.led=t.led:=by
 unfold layNew
 split
 ·rename_i slot wd _
  show ((t.put slot).1.orStandIn _).led=_
  rw [(jX _ _).1,(tC t slot).1]
 ·exact (bx t _).1
theorem nR {t t':SetTable}{hs:Array Int}{w:Nat}{o:Array Nat}(h:t.relaid hs w=some (t',o)):t'.led=t.led∧t'.plain=t.plain:=by
 unfold SetTable.relaid SetTable.laid at h
 simp only [Option.bind_eq_bind,Option.bind_eq_some_iff,Option.pure_def,Option.some.injEq,Prod.mk.injEq] at h
 obtain ⟨_,_,rfl,_⟩:=h
 exact ⟨rfl,rfl⟩
set_option tactic.hygienic true in
theorem kQ (t:SetTable)(es:Array (Int × Value))(n:Nat):(relayAll t es n).2.1.led=t.led∧((relayAll t es n).2.1.plain=true→t.plain=true):=by
 unfold relayAll
 split
 ·rename_i t' order h
  obtain ⟨h1,h2⟩:=nR h
  dsimp only
  split
  ·exact ⟨h1,fun h=>by rw [←h2];exact h⟩
  ·exact ⟨(bx t _).1,fun h=>by rw [show _=false from (bx t _).2] at h;exact ff h⟩
 ·exact ⟨(bx t _).1,fun h=>by rw [show _=false from (bx t _).2] at h;exact ff h⟩
noncomputable def g7 (prog:Program)(w:World)(h:Heap)(a:Addr)(ks:List Str):Prop:=
 ∃es ep t,h.get? a=some (fG es ep t)∧t.fits es.size=true∧t.led=!bV w∧(es.size=0∨t.plain=false)∧ElemsOf (PySem.strKind prog w) es.toList∧(es.toList.map (fun e=>strOf e.2)).Perm ks∧ks.Nodup
noncomputable def iu (ks:List Str)(k:Str):List Str:=if k∈ks then ks else ks++[k]
theorem wq (ks:List Str)(k:Str):(iu ks k).length≤ks.length+1:=by unfold iu;split<;>simp
section
variable {prog:Program}{w:World}{A:Around}{E:Value→Shared→Prop}{s:Shared}{a:Addr}
theorem oX {l:List (Int × Value)}(h:ElemsOf (PySem.strKind prog w) l):∀e∈l,∃k t,e.2=.str k t:=fun e he=>by
 obtain ⟨⟨k,hk,_⟩,_⟩:=h e he
 obtain ⟨t,ht⟩:=Value.isStrOf_shape hk
 exact ⟨k,t,ht⟩
theorem oY {l:List (Int × Value)}(h:ElemsOf (PySem.strKind prog w) l)(k:Str):(∃e∈l,(PySem.strKind prog w).is k e.2=true)↔k∈l.map (fun e=>strOf e.2):=by
 constructor
 ·rintro ⟨e,he,hk⟩
  obtain ⟨t,ht⟩:=Value.isStrOf_shape hk
  exact List.mem_map.mpr ⟨e,he,by rw [ht];rfl⟩
 ·intro hk
  obtain ⟨e,he,hk⟩:=List.mem_map.mp hk
  obtain ⟨x,t,ht⟩:=oX h e he
  refine ⟨e,he,?_⟩
  rw [ht] at hk ⊢
  subst hk
  exact strKind_is _ _ _ _
theorem rH {es:Array (Int × Value)}{ep:Nat}{t:SetTable}{es':Array (Int × Value)}{t':SetTable}(ho:s.heap.get? a=some (fG es ep t)) :
  (s.heap.update a (Obj.putSet es' t')).get? a=some (fG es' (ep+1) t'):=by
 have:=Heap.get?_update_self (Obj.putSet es' t') ho (by rw [putSet_of es' t' rfl];rfl)
 rw [putSet_of es' t' rfl] at this;exact this
theorem mP {g:Bool→Sem Unit}(hg:∀(b:Bool) (s₁:Shared) (Q':Unit→Shared→Prop),Q' () s₁→wpAny (model prog w) A (g b) Q' E s₁)
  {es:Array (Int × Value)}{ep:Nat}{t:SetTable}(ho:s.heap.get? a=some (fG es ep t)) {es1:Array (Int × Value)}{t2:SetTable}{ks:List Str}(hel1:ElemsOf (PySem.strKind prog w) es1.toList) (hb1:es1.size<scanBound) (hf2:t2.fits es1.size=true)
  (hled:t2.led=!bV w) (hpl:t2.plain=false) (hp1:(es1.toList.map (fun e=>strOf e.2)).Perm ks) (hn:ks.Nodup) {wasDummy:Bool}{R:Option Bool→Shared→Prop}
  (h:∀h',Heap.SameBut a s.heap h'→g7 prog w h' a ks→R (some true) { s with heap:=h' }) :
  wpAny (model prog w) A (do
    storeSet a es1 t2
    if (!wasDummy&&t2.tooFull)=true then do
      g (relayAll t2 es1 (SetTable.grown es1.size)).2.2
      storeSet a (relayAll t2 es1 (SetTable.grown es1.size)).1 (relayAll t2 es1 (SetTable.grown es1.size)).2.1
      pure (some true)
     else pure (some true)) R E s:=by
 refine wpAny_bind (wpAny_storeSet_of ho rfl ?_ (fits_of_scanBound hb1))
 have ho1:=rH (s:=s) (es':=es1) (t':=t2) ho
 have hsb1:=Heap.SameBut.update s.heap a (Obj.putSet es1 t2)
 split
 ·have hp:=relayAll_perm t2 es1 (SetTable.grown es1.size)
  have hfr:=relayAll_fits t2 es1 (SetTable.grown es1.size)
  have hmk:=kQ t2 es1 (SetTable.grown es1.size)
  generalize relayAll t2 es1 (SetTable.grown es1.size)=Rl at hp hfr hmk ⊢
  obtain ⟨es2,t3,gave2⟩:=Rl
  dsimp only at hp hfr hmk ⊢
  have hsz:es2.size=es1.size:=by rw [←Array.length_toList,hp.length_eq,Array.length_toList]
  refine wpAny_bind (hg _ _ _ (wpAny_bind (wpAny_storeSet_of ho1 rfl ?_ (fits_of_scanBound (by rw [hsz];exact hb1)))))
  have ho2:=rH (s:={ s with heap:=s.heap.update a (Obj.putSet es1 t2) }) (es':=es2) (t':=t3) ho1
  refine wpAny_pure (h _ (hsb1.trans (Heap.SameBut.update _ a _)) ⟨es2,_,t3,ho2,hfr,hmk.1.trans hled,.inr ?_,hel1.perm hp,(hp.map _).trans hp1,hn⟩)
  cases q:t3.plain with
  | false=>rfl
  | true=>rw [hpl] at hmk;exact absurd (hmk.2 q) (by decide)
 ·exact wpAny_pure (h _ hsb1 ⟨es1,_,t2,ho1,hf2,hled,.inr hpl,hel1,hp1,hn⟩)
set_option tactic.hygienic true in
theorem EC {ks:List Str}{k:Str}{tk:Tok}{Q:Bool→Shared→Prop}(hS:g7 prog w s.heap a ks)(hroom:ks.length+1<scanBound)
  (h:∀b h',Heap.SameBut a s.heap h'→g7 prog w h' a (iu ks k)→Q b { s with heap:=h' }):wpAny (model prog w) A (setAddHashed a (.str k tk) ((PySem.strKind prog w).hash k)) Q E s:=by
 obtain ⟨es,ep,t,ho,hf,hled,hpl,hel,hp,hn⟩:=hS
 have hlen:es.size=ks.length:=by rw [←hp.length_eq,List.length_map,Array.length_toList]
 have hb:es.size<scanBound:=by rw [hlen];exact n1 hroom (by simp +arith only)
 have hkey:(PySem.strKind prog w).is k (.str k tk)=true:=strKind_is _ _ _ _
 unfold setAddHashed setAddHashedIn
 refine wpAny_holding (wpAny_bind (wpAny_setState_of ho rfl hf ?_))
 dsimp only
 rw [byScan_of (knd:=PySem.strKind prog w) (x:=.str k tk) rfl hb hel]
 simp only [↓reduceIte]
 unfold setAddByScan
 refine wpAny_bind (wpAny_bind (wpAny_rule (wpAny_bind (wpAny_setScan_of hkey ho rfl hf hel ?_))))
 cases hr:List.findIdx? (fun e=>(PySem.strKind prog w).is k e.2) es.toList with
 | some j=>
  dsimp only
  obtain ⟨hj,hpj,_⟩:=List.findIdx?_eq_some_iff_getElem.mp hr
  have hk:k∈ks:=hp.mem_iff.mp ((oY hel k).mp ⟨_,List.getElem_mem hj,hpj⟩)
  refine wpAny_pure (wpAny_pure ?_)
  have:=h false s.heap (Heap.SameBut.refl a s.heap) (by rw [iu,if_pos hk];exact ⟨es,ep,t,ho,hf,hled,hpl,hel,hp,hn⟩)
  cases s;exact this
 | none=>
  dsimp only
  have hk:k∉ks:=fun q=>by
   obtain ⟨e,he,hpe⟩:=(oY hel k).mpr (hp.mem_iff.mpr q)
   have:=List.findIdx?_eq_none_iff.mp hr e he
   rw [hpe] at this;cases this
  have hgw:∀(b:Bool) {s₁:Shared} {Q':Unit→Shared→Prop},Q' () s₁→wpAny (model prog w) A (match b with | true=>rule "set.scan.the-table-gave-way" | false=>pure ()) Q' E s₁:=
   fun b s₁ Q' hq=>by cases b<;>first | exact wpAny_pure hq | exact wpAny_rule hq
  have hperm:=layNew_perm t es ((PySem.strKind prog w).hash k) (.str k tk)
  have hfits:=layNew_fits t es ((PySem.strKind prog w).hash k) (.str k tk)
  have hll:=qq t es ((PySem.strKind prog w).hash k) (.str k tk)
  generalize layNew t es ((PySem.strKind prog w).hash k) (.str k tk)=L at hperm hfits hll ⊢
  obtain ⟨es1,t1,wasDummy,gave⟩:=L
  dsimp only at hperm hfits hll ⊢
  rw [Array.toList_push] at hperm
  have hel1:ElemsOf (PySem.strKind prog w) es1.toList:=(hel.push hkey rfl).perm hperm
  have hb1':es1.size<scanBound:=by rw [←Array.length_toList,hperm.length_eq,List.length_append,Array.length_toList,hlen];exact hroom
  have hp1:(es1.toList.map (fun e=>strOf e.2)).Perm (ks++[k]):=(hperm.map _).trans (by rw [List.map_append];exact hp.append_right _)
  have hn1:(ks++[k]).Nodup:=by
   rw [List.nodup_append]
   exact ⟨hn,by simp,fun x hx y hy=>by
    have:y=k:=by exact List.mem_singleton.mp hy
    subst this;intro q;subst q;exact hk hx⟩
  have hend:∀h',Heap.SameBut a s.heap h'→g7 prog w h' a (ks++[k])→Q true { s with heap:=h' }:=fun h' hsb hS'=>h true h' hsb (by rw [iu,if_neg hk];exact hS')
  refine wpAny_bind (hgw _ ?_)
  split
  ·refine wpAny_bind ?_
   rw [hashByValue_scannable 8 rfl]
   refine wpAny_pure ?_
   refine mP (t2:={ t1 with plain:=false }) ?_ ho hel1 hb1' (SetTable.fits_plain_off hfits) (hll.trans hled) rfl hp1 hn1 ?_
   ·intro b s₁ Q' hq;cases b<;>first | exact wpAny_pure hq | exact wpAny_rule hq
   ·intro h' hsb hS';dsimp only;exact wpAny_pure (hend h' hsb hS')
  ·rename_i hpf
   refine wpAny_bind (wpAny_pure ?_)
   simp only [↓reduceIte]
   refine mP ?_ ho hel1 hb1' hfits (hll.trans hled) (by simpa using hpf) hp1 hn1 ?_
   ·intro b s₁ Q' hq;cases b<;>first | exact wpAny_pure hq | exact wpAny_rule hq
   ·intro h' hsb hS';dsimp only;exact wpAny_pure (hend h' hsb hS')
end
end Internal
end
section
set_option maxRecDepth 100000
namespace Internal
open PySem PyProof.Rows
noncomputable def bP (ss:List Str):List Str:=ss.foldl iu []
set_option tactic.hygienic true in
theorem wu {ks:List Str}{k x:Str}:x∈iu ks k↔x∈ks∨x=k:=by
 unfold iu
 split
 ·rename_i h
  exact ⟨.inl,fun q=>q.elim id fun e=>e▸h⟩
 ·simp
theorem mQ {x:Str}:∀{ss ks:List Str},x∈ss.foldl iu ks↔x∈ks∨x∈ss
 | [],ks=>by simp
 | s::r,ks=>by
  rw [List.foldl_cons,mQ,wu,List.mem_cons,or_assoc]
theorem dy {x:Str}{ss:List Str}:x∈bP ss↔x∈ss:=by unfold bP;rw [mQ];simp
theorem mR:∀(ss ks:List Str),(ss.foldl iu ks).length≤ks.length+ss.length
 | [],ks=>by simp
 | s::r,ks=>by
  rw [List.foldl_cons]
  have:=mR r (iu ks s)
  have:=wq ks s
  simp only [List.length_cons];lia
section
variable {prog:Program}{w:World}{A:Around}{R:Result→Shared→Prop}{E:Value→Shared→Prop}{s:Shared}
theorem kR {h h':Heap}{S:Addr}{ks:List Str}(x:g7 prog w h S ks)(k:∀o,h.get? S=some o→h'.get? S=some o):g7 prog w h' S ks:=by
 obtain ⟨es,ep,t,ho,r⟩:=x
 exact ⟨es,ep,t,k _ ho,r⟩
theorem oZ {I:Addr}{fp wr:List Addr}{G:Array GenState→Array GenState→Prop}{n:Nat}{P:Nat→Value→Prop}{St:Nat→Shared→Prop}(W:WalksS prog w A.in1 I fp wr G n P St)(S:Addr)(hSf:S∉fp)
  (ss:List Str) (hlen:ss.length=n) (hval:∀i v,P i v→∃x t,ss[i]?=some x∧v=.str x t) (hb:n+1<scanBound) :
  ∀(k i:Nat) (s:Shared),n-i=k→i≤n→St i s→g7 prog w s.heap S (bP (ss.take i))→
   (∀s',Moved (S::wr) G s s'→g7 prog w s'.heap S (bP ss)→R (.ok (.ret .none)) s')→
   codeAny (model prog w) A (.builtin "set.update.loop" ⟨[.ref S,.ref I],[]⟩) R s:=by
 have hSw:S∉wr:=fun h=>hSf (W.sub _ h)
 have hsub:∀b∈wr,b∈S::wr:=fun b hb=>List.mem_cons_of_mem _ hb
 intro k
 induction k with
 | zero=>
  intro i s hk hi hst hS hR
  have hin:i=n:=Nat.le_antisymm hi (Nat.le_of_sub_eq_zero hk)
  subst hin
  refine codeAny_builtin PyProof.Rows.F.entry_set_update_loop ?_
  rw [Around.under_plainId PyProof.Rows.F.plain_set_update_loop _]
  show wpAny _ A.in1 (pyNext (.ref I) >>= _) _ _ s
  refine wpAny_bind (W.done s _ _ hst fun s' hm=>?_)
  show wpAny _ A.in1 (ret Value.none) _ _ s'
  rw [List.take_of_length_le (n1 (Nat.le_of_eq hlen) (by simp +arith only))] at hS
  exact wpAny_pure (hR s' (hm.mono hsub) (kR hS fun o e=>hm.heap S _ hSw e))
 | succ k ih=>
  intro i s hk hi hst hS hR
  have hlt:i<n:=Nat.lt_of_sub_eq_succ hk
  refine codeAny_builtin PyProof.Rows.F.entry_set_update_loop ?_
  rw [Around.under_plainId PyProof.Rows.F.plain_set_update_loop _]
  show wpAny _ A.in1 (pyNext (.ref I) >>= _) _ _ s
  refine wpAny_bind (W.item i s _ _ hlt hst fun v s' hP hst' hm=>?_)
  obtain ⟨x,t,hx,rfl⟩:=hval i v hP
  have hS':=kR (h':=s'.heap) hS fun o e=>hm.heap S _ hSw e
  show wpAny _ A.in1 (holding [Value.str x t] (setAdd S (.str x t)) >>= _) _ _ s'
  refine wpAny_bind (wpAny_holding ?_)
  unfold setAdd
  refine wpAny_holding (wpAny_bind ((PySem.strKind prog w).pyHash (k:=x) (strKind_is _ _ _ _) ?_))
  have hroom:(bP (ss.take i)).length+1<scanBound:=by
   have:=mR (ss.take i) []
   unfold bP
   rw [List.length_take] at this
   simp at this;lia
  refine EC (s:={ s' with toks:=s'.toks+1 }) hS' hroom fun b h' hsb hS2=>?_
  have e:iu (bP (ss.take i)) x=bP (ss.take (i+1)):=by
   obtain ⟨hl,hx⟩:=List.getElem?_eq_some_iff.mp hx
   unfold bP
   rw [List.take_succ_eq_append_getElem hl,List.foldl_append,hx];rfl
  rw [e] at hS2
  refine wpAny_pure ⟨plainId_quiet PyProof.Rows.F.plain_set_update_loop _,ih (i+1) _ (by rw [Nat.sub_succ,hk];rfl) hlt (W.frame _ s' _ _ hst' (Nat.le_succ _) fun b hb o e=>?_) hS2 fun s'' hm'' hS''=>?_⟩
  ·rw [hsb.2 b (fun h:b=S=>hSf (by rw [←h];exact hb))];exact e
  ·refine hR s'' (Moved.trans W.gtrans ((hm.mono hsub).then_heap (Nat.le_succ _) fun b o hb e=>?_) hm'') hS''
   rw [hsb.2 b (fun h:b=S=>hb (by rw [h];exact List.mem_cons_self))];exact e
theorem ED (a:Value){Q₁:Value→Shared→Prop}
  (h:Q₁ (.ref s.heap.objs.size) { s with heap:=s.heap.push { cls:=.type "set",dict:=none,data:=.set #[] 0 (.fresh 0 0 (!bV w)) } }) :
  codeAny (model prog w) A (.call (.builtin "set.__new__") ⟨[.type "set",a],[]⟩) (wants Q₁ E) s:=by
 refine codeAny_of_tree ?_
 show wpAny _ A.in1 (do checkBuiltinCall "set.__new__" ⟨[.type "set",a],[]⟩;again (.builtin "set.__new__" ⟨[.type "set",a],[]⟩)) _ _ s
 refine wpAny_bind (wpAny_of_eq (PySem.F.newCall_set_1 a) (wpAny_pure ⟨plainId_quiet PySem.F.plain_set_new _,codeAny_builtin PySem.F.entry_set_new ?_⟩))
 rw [Around.under_plainId PySem.F.plain_set_new _]
 unfold Builtin.«set.__new__» Builtin.Frozenset.newClass
 have hsub:=sub_set_self
 obtain ⟨hp,g,d,tk,os⟩:=s
 dsimp only
 wp_walk
 refine wpAny_askSetting (wpAny_pure ?_)
 dsimp only
 simp only [newObj]
 refine wpAny_bind (wpAny_alloc (wpAny_pure ?_))
 exact wpAny_pure h
end
end Internal
end
section
namespace Internal
open PySem PyProof.Rows
section
variable {prog:Program}{w:World}{A:Around}{E:Value→Shared→Prop}{s:Shared}
theorem ze {vs:List Value}{ss:List Str}(r:StrsAre vs ss)(i:Nat)(v:Value)(h:vs[i]?=some v):∃x t,ss[i]?=some x∧v=.str x t:=by
 induction r generalizing i with
 | nil=>exact aw h
 | cons x t r ih=>
  cases i with
  | zero=>exact ⟨x,t,rfl,(Option.some.inj h).symm⟩
  | succ i=>exact ih i h
theorem kT {vs:List Value}{ss:List Str}(r:StrsAre vs ss):ss.length=vs.length:=by
 induction r with
 | nil=>rfl
 | cons x t r ih=>exact congrArg (·+1) ih
theorem qr {l S:Addr}{items:Array Value}{ss:List Str}{Q:Fin→Shared→Prop}(hh:A.handled=none)(hl:s.heap.IsList l items)(hi:StrsAre items.toList ss)(hb:items.size+1<scanBound)(hSe:s.heap.get? S=some (fG #[] 0 (.fresh 0 0 (!bV w))))
  (h:∀h' tk,g7 prog w h' S (bP ss)→(∀b o,b≠S→s.heap.get? b=some o→h'.get? b=some o)→Q (.done (.ret .none)) { s with heap:=h',toks:=tk }) :
  wpAny (model prog w) A.in1 (Builtin.«set.__init__» ⟨[.ref S,.ref l],[]⟩) Q E s:=by
 obtain ⟨ol,hol,hcl,nl,hdl⟩:=id hl
 obtain ⟨ocls,odict,odata,oslots⟩:=ol
 simp only at hcl hdl
 subst hcl;subst hdl
 have hsls:=PySem.F.sub_list_set
 have hslf:=PySem.F.sub_list_frozenset
 have hne:(Value.type "list"==Value.type "dict")=false:=by decide
 have hT:s.TypeIs (.ref S) "set":=⟨_,hSe,rfl⟩
 unfold Builtin.«set.__init__» noKeywords Builtin.Frozenset.updateFrom
 generalize hPI:pyIter=PI
 wp_walk
 subst hPI
 refine wpAny_pyIter_list hl ?_
 refine wpAny_bind (wpAny_runValue ?_)
 have hlS:l<s.heap.objs.size:=Heap.lt_size hol
 have hSS:S<s.heap.objs.size:=Heap.lt_size hSe
 have hlneS:l≠S:=fun q=>by
  rw [q,hSe] at hol
  have:=congrArg Obj.cls (Option.some.inj hol)
  simp at this
 have hh3:A.in1.in1.handled=none:=by simp [hh]
 have hSf:S∉[s.heap.objs.size,l]:=by
  simp only [List.mem_cons,List.not_mem_nil,or_false,not_or]
  exact ⟨Nat.ne_of_lt hSS,fun q=>hlneS q.symm⟩
 have hk:∀b o,s.heap.get? b=some o→(s.heap.push { cls:=.type "list_iterator",data:=.fields #[.ref l,.int 0 0] }).get? b=some o:=fun b o e=>Heap.get?_push_of_some _ e
 refine oZ ((Walks.list hh3 _ l (Nat.ne_of_lt hlS) items).toS) S hSf ss (by rw [kT hi,Array.length_toList]) (fun i v hv=>ze hi i v (by rw [Array.getElem?_toList];exact hv)) hb (items.size-0) 0 { s with heap:=s.heap.push { cls:=.type "list_iterator",data:=.fields #[.ref l,.int 0 0] } } (rfl) (Nat.zero_le _)
  ⟨⟨_,Heap.get?_push_size _ rfl,rfl,rfl⟩,hl.push _⟩ ?hS0 ?hR
 case hS0=>exact ⟨#[],0,_,hk _ _ hSe,rfl,rfl,.inl rfl,fun e he=>(by simp at he),List.Perm.refl _,List.nodup_nil⟩
 case hR=>
  intro s' hm hS'
  obtain ⟨h',g',d',tk',os'⟩:=s'
  have eg:g'=s.gens:=hm.gens
  have ed:d'=s.drawn:=hm.drawn
  have eo:os'=s.os:=hm.os
  subst eg;subst ed;subst eo
  show wpAny _ _ _ _ _ _
  refine wpAny_pure ?_
  show wpAny _ _ (ret Value.none) _ _ _
  refine wpAny_pure (h h' tk' hS' fun b o hb e=>hm.heap b o ?_ (hk b o e))
  simp only [List.mem_cons,List.not_mem_nil,or_false,not_or]
  exact ⟨hb,Nat.ne_of_lt (Heap.lt_size e)⟩
set_option maxRecDepth 100000 in
set_option maxHeartbeats 3200000 in
theorem qt {l:Addr}{items:Array Value}{ss:List Str}{Q:Value→Shared→Prop}(hh:A.handled=none)(hl:s.heap.IsList l items)(hi:StrsAre items.toList ss)(hb:items.size+1<scanBound)
  (h:∀h' tk,g7 prog w h' s.heap.objs.size (bP ss)→(∀b o,s.heap.get? b=some o→h'.get? b=some o)→Q (.ref s.heap.objs.size) { s with heap:=h',toks:=tk }) :
  wpAny (model prog w) A (call (.type "set") [.ref l]) Q E s:=by
 obtain ⟨c,tl,hmro⟩:=PySem.F.called_set.mro
 have hmade:=PySem.F.called_set.made
 have hsub:=PySem.F.called_set.sub
 refine wpAny_call (codeAny_of_tree ?_)
 show wpAny _ _ (callAny (.type "set") _) _ _ _
 refine wpAny_pure ⟨Code.quiet_builtin _ (by decide +kernel),codeAny_builtin PySem.F.entry_type_call ?_⟩
 rw [Around.under_plain (weight_type_call_type "set" [.ref l] []) rfl]
 have h1:=PySem.F.called_set.notType
 have h2:=PySem.F.called_set.canCreate
 have hct:=PySem.F.typeCall_set_1 (.ref l)
 repeat (any_goals (first | assumption | wp_step))
 refine codeAny_mono (ED (w:=w) (.ref l) (E:=E) (Q₁:=fun obj s₁=>obj=.ref s.heap.objs.size∧s₁={ s with heap:=s.heap.push { cls:=.type "set",dict:=none,data:=.set #[] 0 (.fresh 0 0 (!bV w)) } }) ⟨rfl,rfl⟩) fun r s₁ hr=>?_
 cases r with
 | error e=>exact hr
 | ok fl=>
  cases fl with
  | ret obj=>
   obtain ⟨rfl,rfl⟩:=hr
   have hS:(s.heap.push { cls:=.type "set",dict:=none,data:=.set #[] 0 (.fresh 0 0 (!bV w)) }).get? s.heap.objs.size=some (fG #[] 0 (.fresh 0 0 (!bV w))):=Heap.get?_push_size _ rfl
   have hT:Shared.TypeIs { s with heap:=s.heap.push { cls:=.type "set",dict:=none,data:=.set #[] 0 (.fresh 0 0 (!bV w)) } } (.ref s.heap.objs.size) "set":=⟨_,hS,rfl⟩
   have hli:=PySem.F.called_set.init.lookup
   have hbi:=PySem.F.called_set.init.bind (.ref s.heap.objs.size)
   repeat (any_goals (first | assumption | wp_step))
   refine codeAny_mono (codeAny_call_builtin (R:=wants (fun r s₂=>r=.none∧∃h' tk,s₂={ s with heap:=h',toks:=tk }∧g7 prog w h' s.heap.objs.size (bP ss)∧(∀b o,s.heap.get? b=some o→h'.get? b=some o)) E)
    PySem.F.called_set.init.plain PySem.F.entry_set_init (check_set_init_1 hT ?_)) fun r₂ s₂ hr₂=>?_
   ·refine qr (by simp [hh]) (hl.push _) hi hb hS fun h' tk hS' hk'=>⟨rfl,h',tk,rfl,hS',fun b o e=>hk' b o (Nat.ne_of_lt (Heap.lt_size e)) (Heap.get?_push_of_some _ e)⟩
   ·cases r₂ with
    | error e=>exact hr₂
    | ok fl₂=>
     cases fl₂ with
     | ret r=>
      obtain ⟨rfl,h',tk,rfl,hS',hk'⟩:=hr₂
      repeat (any_goals (first | assumption | wp_step))
      exact h _ _ hS' hk'
     | _=>exact hr₂.elim
  | _=>exact hr.elim
end
end Internal
end
section
set_option maxRecDepth 100000
namespace Internal
open PySem
theorem aH:Slot "set_iterator" "__next__" "set_iterator.__next__":=
 .of (owner:="set_iterator") (n:="__next__") (by rw [typeLookup_type,builtinLookup_eq_fast];kernel_rfl) (by decide +kernel) (by decide +kernel) (by decide +kernel)
  (by first | exact .inl (by decide +kernel) | exact .inr (by decide +kernel)) (by rw [isSubtype_type];kernel_rfl)
theorem dM:Slot "set_iterator" "__iter__" "set_iterator.__iter__":=
 .of (owner:="set_iterator") (n:="__iter__") (by rw [typeLookup_type,builtinLookup_eq_fast];kernel_rfl) (by decide +kernel) (by decide +kernel) (by decide +kernel)
  (by first | exact .inl (by decide +kernel) | exact .inr (by decide +kernel)) (by rw [isSubtype_type];kernel_rfl)
theorem bG:entryFor table "set_iterator.__next__"=some Builtin.«set_iterator.__next__»:=entryFor_of_tree (by kernel_rfl)
theorem g8:entryFor table "set_iterator.__iter__"=some Builtin.«dict_keyiterator.__iter__»:=
 entryFor_alias (id':="dict_keyiterator.__iter__") (by kernel_rfl) rfl (by decide +kernel) (by kernel_rfl)
theorem kU:entryFor table "set.__iter__"=some Builtin.«frozenset.__iter__»:=
 entryFor_alias (id':="frozenset.__iter__") (by kernel_rfl) rfl (by decide +kernel) (by kernel_rfl)
theorem gP:Manifest.owners.lookup (String.ofList ['r','o','t','a','r','e','t','i','_','t','e','s'].reverse)=some Manifest.sig_set_iterator:=by kernel_rfl
theorem bK (a:Value):argsOk "set_iterator.__next__" ⟨[a],[]⟩:=by
 unfold argsOk;rw [signature?_of (id:="set_iterator.__next__") (n:=['_','_','t','x','e','n','_','_']) (o:=['r','o','t','a','r','e','t','i','_','t','e','s']) (by kernel_rfl) gP];kernel_rfl
theorem iw (a:Value):argsOk "set_iterator.__iter__" ⟨[a],[]⟩:=by
 unfold argsOk;rw [signature?_of (id:="set_iterator.__iter__") (n:=['_','_','r','e','t','i','_','_']) (o:=['r','o','t','a','r','e','t','i','_','t','e','s']) (by kernel_rfl) gP];kernel_rfl
end Internal
end
section
set_option maxRecDepth 100000
namespace Internal
open PySem PyProof.Rows
noncomputable abbrev jY (first:Value) (i:Nat) (S:Addr) (n ep:Nat):Obj:={ cls:=.type "set_iterator",data:=.fields #[first,.int i 0,.ref S,.int n 0,.int ep 0] }
section
variable {prog:Program}{w:World}{A:Around}{E:Value→Shared→Prop}{s:Shared}{I S:Addr}{es:Array (Int × Value)}{ep:Nat}{t:SetTable}{i:Nat}{Q:Option Value→Shared→Prop}
theorem wv {slot slot':Nat}{x:Value}(hI:s.heap.get? I=some (jY (.int slot 0) i S es.size ep))(hS:s.heap.get? S=some (fG es ep t))(hf:t.fits es.size=true)
  (hnext:∀(A:Around) (Q:Option (Value × Nat)→Shared→Prop) (E:Value→Shared→Prop),Q (some (x,slot')) s→wpAny (model prog w) A (setNext S slot i ep) Q E s)
  (hQ:∀h',h'.get? I=some (jY (.int slot' 0) (i+1) S es.size ep)→Heap.SameBut I s.heap h'→Q (some x) { s with heap:=h' }):wpAny (model prog w) A (pyNext (.ref I)) Q E s:=by
 have hT:s.TypeIs (.ref I) "set_iterator":=⟨_,hI,rfl⟩
 unfold pyNext
 refine wpAny_bind (wpAny_attempt (wpAny_callSpecial?_slot (name:=Str.ofString "__next__") hT aH (wpAny_call_entry aH hT bG ?_ (bK _))))
 unfold Builtin.«set_iterator.__next__»
 refine wpAny_bind (wpAny_pure ?_)
 refine wpAny_bind (wpAny_fieldsOf hI rfl ?_)
 dsimp only
 refine wpAny_bind (wpAny_setEntries_of hS rfl hf ?_)
 rw [if_neg (by simp)]
 refine wpAny_bind ?_
 simp only [Int.toNat_natCast]
 refine hnext _ _ _ ?_
 dsimp only
 refine wpAny_bind (wpAny_setField hI rfl (by simp) ?_)
 have hI1:(s.heap.update I (Obj.mapFields (·.setIfInBounds 0 (rawInt slot')))).get? I=some (jY (.int slot' 0) i S es.size ep):=Heap.get?_update_self _ hI rfl
 refine wpAny_bind (wpAny_setField (s:={ s with heap:=s.heap.update I (Obj.mapFields (·.setIfInBounds 0 (rawInt slot'))) }) hI1 rfl (by simp) (wpAny_pure ⟨x,rfl,wpAny_pure (hQ _ ?_ ((Heap.SameBut.update ..).trans (Heap.SameBut.update ..)))⟩))
 exact Heap.get?_update_self _ hI1 rfl
theorem ww {k:Nat}(hh:A.handled=none){first:Value}(hI:s.heap.get? I=some (jY first i S es.size ep))(hk:k<5)(hQ:∀h',Heap.ExtBut I s.heap h'→Q none { s with heap:=h' }) :
  wpAny (model prog w) A.in1 (do
   setField (.ref I) k Value.none
   let e ←newExc (Value.type "StopIteration") []
   raiseNew e:Sem PySem.Fin) (fun fin s'=>∃v,fin=Fin.done (Flow.ret v)∧wpAny (model prog w) A (pure (some v)) Q E s') (fun e s'=>
   wpAny (model prog w) A (do
     let b ←isInstance e (Value.type "StopIteration")
     if b=true then pure none else throw e) Q E s') s:=by
 refine wpAny_bind (wpAny_setField hI rfl (by simpa using hk) ?_)
 refine wpAny_bind ?_
 simp only [newExc,newTuple]
 refine wpAny_bind (wpAny_newObj_type ?_ (by size_fits))
 refine wpAny_bind (m:=firstArgMember _ _) (wpAny_of_eq (a:=Value.none) (by first | rfl | (simp only [firstArgMember];rfl)) ?_)
 refine wpAny_newObj_type ?_ (by size_fits)
 refine wpAny_raiseNew_none (show A.in1.handled=none from hh) ?_
 refine wpAny_bind (wpAny_isInstance (T:="StopIteration") (b:=true) ⟨_,Heap.get?_push_size _ rfl,rfl⟩ isSubtype_stop ?_)
 exact wpAny_pure (hQ _ (((Heap.SameBut.update ..).extBut.push _).push _))
theorem wx {slot:Nat}(hh:A.handled=none)(hI:s.heap.get? I=some (jY (.int slot 0) i S es.size ep))(hS:s.heap.get? S=some (fG es ep t))(hf:t.fits es.size=true)
  (hnext:∀(A:Around) (Q:Option (Value × Nat)→Shared→Prop) (E:Value→Shared→Prop),Q none s→wpAny (model prog w) A (setNext S slot i ep) Q E s)
  (hQ:∀h',Heap.ExtBut I s.heap h'→Q none { s with heap:=h' }):wpAny (model prog w) A (pyNext (.ref I)) Q E s:=by
 have hT:s.TypeIs (.ref I) "set_iterator":=⟨_,hI,rfl⟩
 unfold pyNext
 refine wpAny_bind (wpAny_attempt (wpAny_callSpecial?_slot (name:=Str.ofString "__next__") hT aH (wpAny_call_entry aH hT bG ?_ (bK _))))
 unfold Builtin.«set_iterator.__next__»
 refine wpAny_bind (wpAny_pure ?_)
 refine wpAny_bind (wpAny_fieldsOf hI rfl ?_)
 dsimp only
 refine wpAny_bind (wpAny_setEntries_of hS rfl hf ?_)
 rw [if_neg (by simp)]
 refine wpAny_bind ?_
 simp only [Int.toNat_natCast]
 refine hnext _ _ _ ?_
 dsimp only
 exact ww hh hI (by decide) hQ
theorem qu {T:Addr}{places:List Value}{k:Nat}{h:Int}{x:Value}{n':Nat}(hI:s.heap.get? I=some (jY (.ref T) i S es.size ep))(hS:s.heap.get? S=some (fG es ep t))(hf:t.fits es.size=true)
  (hTT:s.heap.get? T=some { cls:=.type "tuple",dict:=none,data:=.seq places.toArray n',slots:=#[] }) (hp:places[i]?=some (.int k 0)) (hx:es[k]?=some (h,x))
  (hQ:∀h',h'.get? I=some (jY (.ref T) (i+1) S es.size ep)→Heap.SameBut I s.heap h'→Q (some x) { s with heap:=h' }):wpAny (model prog w) A (pyNext (.ref I)) Q E s:=by
 have hT:s.TypeIs (.ref I) "set_iterator":=⟨_,hI,rfl⟩
 unfold pyNext
 refine wpAny_bind (wpAny_attempt (wpAny_callSpecial?_slot (name:=Str.ofString "__next__") hT aH (wpAny_call_entry aH hT bG ?_ (bK _))))
 unfold Builtin.«set_iterator.__next__»
 refine wpAny_bind (wpAny_pure ?_)
 refine wpAny_bind (wpAny_fieldsOf hI rfl ?_)
 dsimp only
 refine wpAny_bind (wpAny_setEntries_of hS rfl hf ?_)
 rw [if_neg (by simp)]
 refine wpAny_bind (wpAny_seqItems hTT rfl ?_)
 dsimp only
 have hp':places.toArray[(i:Int).toNat]?=some (.int k 0):=by simpa using hp
 rw [hp']
 dsimp only
 unfold setNextDrawn
 refine wpAny_bind (wpAny_bind (wpAny_setState_of hS rfl hf ?_))
 dsimp only
 rw [if_neg (by simp)]
 simp only [Int.toNat_natCast,hx]
 refine wpAny_pure ?_
 refine wpAny_bind (wpAny_setField hI rfl (by simp) (wpAny_pure ⟨x,rfl,wpAny_pure (hQ _ ?_ (Heap.SameBut.update ..))⟩))
 exact Heap.get?_update_self _ hI rfl
theorem qv {T:Addr}{places:List Value}{n':Nat}(hh:A.handled=none)(hI:s.heap.get? I=some (jY (.ref T) i S es.size ep))(hS:s.heap.get? S=some (fG es ep t))(hf:t.fits es.size=true)
  (hTT:s.heap.get? T=some { cls:=.type "tuple",dict:=none,data:=.seq places.toArray n',slots:=#[] }) (hp:places[i]?=none)
  (hQ:∀h',Heap.ExtBut I s.heap h'→Q none { s with heap:=h' }):wpAny (model prog w) A (pyNext (.ref I)) Q E s:=by
 have hT:s.TypeIs (.ref I) "set_iterator":=⟨_,hI,rfl⟩
 unfold pyNext
 refine wpAny_bind (wpAny_attempt (wpAny_callSpecial?_slot (name:=Str.ofString "__next__") hT aH (wpAny_call_entry aH hT bG ?_ (bK _))))
 unfold Builtin.«set_iterator.__next__»
 refine wpAny_bind (wpAny_pure ?_)
 refine wpAny_bind (wpAny_fieldsOf hI rfl ?_)
 dsimp only
 refine wpAny_bind (wpAny_setEntries_of hS rfl hf ?_)
 rw [if_neg (by simp)]
 refine wpAny_bind (wpAny_seqItems hTT rfl ?_)
 dsimp only
 have hp':places.toArray[(i:Int).toNat]?=none:=by simpa using hp
 rw [hp']
 dsimp only
 refine wpAny_bind (wpAny_setField hI rfl (by simp) ?_)
 have hI1:(s.heap.update I (Obj.mapFields (·.setIfInBounds 0 (rawInt 0)))).get? I=some (jY (.int 0 0) i S es.size ep):=Heap.get?_update_self _ hI rfl
 exact ww (s:={ s with heap:=s.heap.update I (Obj.mapFields (·.setIfInBounds 0 (rawInt 0))) }) hh hI1 (by decide) fun h' he=>hQ h' fun b o hb e=>he b o hb (((Heap.SameBut.update ..).2 b hb).trans e)
end
end Internal
end
section
set_option maxRecDepth 100000
namespace Internal
open PySem PyProof.Rows
section
variable {prog:Program}{w:World}{A:Around}{E:Value→Shared→Prop}{s:Shared}
theorem zf {M:Model}{src:Source}{n:Nat}{Q:Nat→Shared→Prop}(hn:n≠0)(h:∀k d,k<n→Q k { s with drawn:=d }):wpAny M A (choose src n) Q E s:=fun _ _ _=>by
 show Sem.wp _ _ (.choose src n _) _ _ _ _
 rw [Sem.wp_choose]
 exact ⟨hn,h _ _ (Nat.mod_lt _ (Nat.pos_of_ne_zero hn))⟩
theorem g9 {α:Type}:∀{xs:List α}{i:Nat}{x:α},xs[i]?=some x→(x::xs.eraseIdx i).Perm xs
 | [],_,_,h=>by simp at h
 | a::r,0,x,h=>by simp at h;subst h;simp
 | a::r,i+1,x,h=>by
  simp at h
  have:=g9 h
  simp only [List.eraseIdx_cons_succ]
  exact (List.Perm.swap a x _).trans (this.cons a)
theorem kW {α:Type}{M:Model}:∀(n:Nat) (xs:List α) (s:Shared) {Q:List α→Shared→Prop},xs.length=n→(∀ys d,ys.Perm xs→Q ys { s with drawn:=d })→wpAny M A (drawOrder n xs) Q E s
 | 0,[],s,Q,_,h=>wpAny_pure (h [] s.drawn (.refl _))
 | 0,_::_,_,_,hl,_=>by cases hl
 | n+1,[],_,_,hl,_=>by cases hl
 | n+1,x::xs,s,Q,hl,h=>by
  refine wpAny_bind (zf (by simp) fun k d hk=>?_)
  have hy:=List.getElem?_eq_getElem hk
  simp only [hy]
  refine wpAny_bind (kW n _ _ ?_ fun ys d' hp=>wpAny_pure ?_)
  ·rw [List.length_eraseIdx_of_lt hk];simp at hl ⊢;exact hl
  ·exact h _ d' ((hp.cons _).trans (g9 hy))
theorem rI {α:Type}(next:Nat→Nat):∀(fuel k:Nat) (left:List α) (out:Array α),left.length=fuel→(pickOrder.go next fuel k left out).toList.Perm (out.toList++left)
 | 0,k,[],out,_=>by rw [List.append_nil];exact .refl _
 | 0,k,_::_,out,h=>by cases h
 | n+1,k,left,out,h=>by
  show (match left[next k % left.length]? with
   | some x=>pickOrder.go next n (k+1) (left.eraseIdx (next k % left.length)) (out.push x)
   | none=>out).toList.Perm _
  have hlt:next k % left.length<left.length:=Nat.mod_lt _ (n1 (Nat.le_of_eq h.symm) (by simp +arith only))
  have hy:=List.getElem?_eq_getElem hlt
  rw [hy]
  refine (rI next n (k+1) _ _ (by rw [List.length_eraseIdx_of_lt hlt];lia)).trans ?_
  rw [Array.toList_push,List.append_assoc]
  exact (g9 hy).append_left _
theorem mS {α:Type}(next:Nat→Nat)(xs:Array α):(pickOrder next xs).toList.Perm xs.toList:=by
 have:=rI next xs.size 0 xs.toList #[] (by exact rfl)
 simpa [pickOrder] using this
theorem wy {I S:Addr}{first:Value}{i n ep:Nat}{Q:Value→Shared→Prop}(hI:s.heap.get? I=some (jY first i S n ep))(h:Q (.ref I) s):wpAny (model prog w) A (pyIter (.ref I)) Q E s:=by
 have hT:s.TypeIs (.ref I) "set_iterator":=⟨_,hI,rfl⟩
 refine wpAny_pyIter_slot hT dM (wpAny_call_entry dM hT g8 ?_ (iw _))
 show wpAny _ _ (ret (.ref I)) _ _ s
 exact wpAny_pure ⟨_,rfl,"set_iterator",_,hT,aH.lookup,h⟩
theorem kX {I:Addr}{h':Heap}(hs:Heap.SameBut I s.heap h'):Moved [I] (fun a b=>b=a) s { s with heap:=h' }:=⟨fun b o hb e=>(hs.2 b (by exact fun q=>hb (List.mem_singleton.mpr q))).trans e,rfl,rfl,rfl,Nat.le_refl _⟩
theorem mT {I:Addr}{h':Heap}(hs:Heap.ExtBut I s.heap h'):Moved [I] (fun a b=>b=a) s { s with heap:=h' }:=⟨fun b o hb e=>hs b o (by exact fun q=>hb (List.mem_singleton.mpr q)) e,rfl,rfl,rfl,Nat.le_refl _⟩
theorem o0 {I S:Addr}{es:Array (Int × Value)}{ep:Nat}{t:SetTable}{vs:List Value}{sl:Nat→Nat}(hh:A.handled=none)(hIS:I≠S)(hf:t.fits es.size=true)(hlen:vs.length=es.size)
  (hn:∀(s:Shared),s.heap.get? S=some (fG es ep t)→∀i v,vs[i]?=some v→∀(A:Around) (Q:Option (Value × Nat)→Shared→Prop) (E:Value→Shared→Prop),Q (some (v,sl (i+1))) s→wpAny (model prog w) A (setNext S (sl i) i ep) Q E s)
  (hd:∀(s:Shared),s.heap.get? S=some (fG es ep t)→∀(A:Around) (Q:Option (Value × Nat)→Shared→Prop) (E:Value→Shared→Prop),Q none s→wpAny (model prog w) A (setNext S (sl vs.length) vs.length ep) Q E s) :
  WalksS prog w A I [I,S] [I] (fun a b=>b=a) vs.length (fun i v=>vs[i]?=some v) (fun i s=>s.heap.get? I=some (jY (.int (sl i) 0) i S es.size ep)∧s.heap.get? S=some (fG es ep t)) where
 sub:=fun b hb=>by simp at hb;subst hb;simp
 grefl:=fun _=>rfl
 gtrans:=fun _ _ _ h1 h2=>h2.trans h1
 frame:=fun i s h' tk st _ hk=>⟨hk I (by exact List.mem_cons_self ..) _ st.1,hk S (by exact List.mem_cons_of_mem _ (List.mem_cons_self ..)) _ st.2⟩
 item:=fun i s Q E hi st hQ=>by
  have hv:=List.getElem?_eq_getElem hi
  exact wv st.1 st.2 hf (hn s st.2 i _ hv) fun h' hI' hs=>hQ _ _ hv ⟨hI',(hs.2 S (Ne.symm hIS)).trans st.2⟩ (kX hs)
 done:=fun s Q E st hQ=>wx hh st.1 st.2 hf (hd s st.2) fun h' he=>hQ _ (mT he)
 self:=fun i s Q E st hQ=>wy st.1 hQ
theorem qw {I S T:Addr}{es:Array (Int × Value)}{ep n':Nat}{t:SetTable}{vs:List Value}{ks:List Nat}(hh:A.handled=none)(hIS:I≠S)(hIT:I≠T)(hf:t.fits es.size=true)(hlen:ks.length=vs.length)
  (hn:∀(i:Nat) (v:Value),vs[i]?=some v→∃(k:Nat) (h:Int),ks[i]?=some k∧es[k]?=some (h,v)) :
  WalksS prog w A I [I,S,T] [I] (fun a b=>b=a) vs.length (fun i v=>vs[i]?=some v) (fun i s=>s.heap.get? I=some (jY (.ref T) i S es.size ep)∧s.heap.get? S=some (fG es ep t)∧
   s.heap.get? T=some { cls:=.type "tuple",dict:=none,data:=.seq (ks.map (fun (k:Nat)=>rawInt k)).toArray n',slots:=#[] }) where
 sub:=fun b hb=>by simp at hb;subst hb;simp
 grefl:=fun _=>rfl
 gtrans:=fun _ _ _ h1 h2=>h2.trans h1
 frame:=fun i s h' tk st _ hk=>⟨hk I (by exact List.mem_cons_self ..) _ st.1,hk S (by exact List.mem_cons_of_mem _ (List.mem_cons_self ..)) _ st.2.1,hk T (by simp) _ st.2.2⟩
 item:=fun i s Q E hi st hQ=>by
  have hv:=List.getElem?_eq_getElem hi
  obtain ⟨k,h,hk,hx⟩:=hn i _ hv
  exact qu (k:=k) st.1 st.2.1 hf st.2.2 (by rw [List.getElem?_map,hk];rfl) hx fun h' hI' hs=>hQ _ _ hv ⟨hI',(hs.2 S (Ne.symm hIS)).trans st.2.1,(hs.2 T (Ne.symm hIT)).trans st.2.2⟩ (kX hs)
 done:=fun s Q E st hQ=>qv hh st.1 st.2.1 hf st.2.2 (by rw [List.getElem?_map,List.getElem?_eq_none (n1 (Nat.le_of_eq hlen) (by simp +arith only))];rfl) fun h' he=>hQ _ (mT he)
 self:=fun i s Q E st hQ=>wy st.1 hQ
end
end Internal
end
section
set_option backward.match.sparseCases true
set_option maxRecDepth 100000
namespace Internal
open PySem PyProof.Rows
section
variable {prog:Program}{w:World}{A:Around}{E:Value→Shared→Prop}{s:Shared}
theorem mU {S:Addr}{es:Array (Int × Value)}{ep:Nat}{t:SetTable}(hb:bV w=true)(hS:s.heap.get? S=some (fG es ep t))(hf:t.fits es.size=true){slot i:Nat}{Q:Option (Value × Nat)→Shared→Prop}
  (h:Q (((pickOrder (w.params.setOrder S ep) es)[i]?).map fun e=>(e.2,slot)) s):wpAny (model prog w) A (setNext S slot i ep) Q E s:=by
 unfold setNext
 refine wpAny_bind (wpAny_setState_of hS rfl hf ?_)
 dsimp only
 unfold setsByText
 refine wpAny_bind (wpAny_bind (wpAny_askSetting (wpAny_pure ?_)))
 show wpAny _ _ (if bV w=true then _ else _) _ _ _
 rw [hb,if_pos rfl]
 rw [if_neg (by simp)]
 unfold setWalk
 refine wpAny_bind (wpAny_bind (wpAny_setState_of hS rfl hf ?_))
 dsimp only
 unfold setsByText
 refine wpAny_bind (wpAny_bind (wpAny_askSetting (wpAny_pure ?_)))
 show wpAny _ _ (if bV w=true then _ else _) _ _ _
 rw [hb,if_pos rfl]
 refine wpAny_bind (wpAny_askSetting (wpAny_pure (wpAny_pure ?_)))
 exact h
theorem o4 {S:Addr}{es:Array (Int × Value)}{ep:Nat}{t:SetTable}(hb:bV w=false)(hS:s.heap.get? S=some (fG es ep t))(hf:t.fits es.size=true)(hl:t.led=true)(h1:es.size≤1){slot i:Nat}{Q:Option (Value × Nat)→Shared→Prop}
  (h:Q (match es[SetTable.below t.place slot]?,t.place[SetTable.below t.place slot]? with
   | some (_,x),some j=>some (x,j+1)
   | _,_=>none) s):wpAny (model prog w) A (setNext S slot i ep) Q E s:=by
 unfold setNext
 refine wpAny_bind (wpAny_setState_of hS rfl hf ?_)
 dsimp only
 unfold setsByText
 refine wpAny_bind (wpAny_bind (wpAny_askSetting (wpAny_pure ?_)))
 show wpAny _ _ (if bV w=true then _ else _) _ _ _
 rw [hb,if_neg (by decide)]
 show wpAny _ _ (if (!t.plain&&decide (es.size > 1))=true then _ else _) _ _ _
 rw [if_neg (by simp;intro _;exact h1)]
 refine wpAny_bind ?_
 show wpAny _ _ (if (!t.led&&!es.isEmpty)=true then _ else _) _ _ _
 rw [if_neg (by rw [hl];simp)]
 exact wpAny_pure (wpAny_pure h)
theorem mV (j slot:Nat):SetTable.below #[j] slot=if j<slot then 1 else 0:=by
 unfold SetTable.below
 unfold SetTable.below.go
 simp
 split
 ·unfold SetTable.below.go;rfl
 ·unfold SetTable.below.go;rfl
theorem zg {l:List (Int × Value)}(h:ElemsOf (PySem.strKind prog w) l):∀v∈l.map (·.2),∃x t,v=.str x t:=fun v hv=>by
 obtain ⟨e,he,rfl⟩:=List.mem_map.mp hv
 obtain ⟨k,t,e⟩:=oX h e he
 exact ⟨k,t,e⟩
theorem CB {S:Addr}{ks:List Str}{Q:Value→Shared→Prop}(hS:g7 prog w s.heap S ks)(hz:ks.length<scanBound)
  (h:∀(I:Addr) (vs:List Value) (ss:List Str) (h':Heap) d,StrsAre vs ss→ss.Perm ks→(∀b o,s.heap.get? b=some o→h'.get? b=some o)→s.heap.get? I=none→
   (∀A:Around,A.handled=none→∃fp St,WalksS prog w A I fp [I] (fun a b=>b=a) vs.length (fun i v=>vs[i]?=some v) St∧St 0 { s with heap:=h',drawn:=d }∧(∀b∈fp,b=S∨s.heap.get? b=none)∧I∈fp)→
   Q (.ref I) { s with heap:=h',drawn:=d }):wpAny (model prog w) A (pyIter (.ref S)) Q E s:=by
 obtain ⟨es,ep,t,ho,hf,hled,hpl,hel,hp,hn⟩:=hS
 have hT:s.TypeIs (.ref S) "set":=⟨_,ho,rfl⟩
 have hlen:es.size=ks.length:=by rw [←hp.length_eq,List.length_map,Array.length_toList]
 have hS0:S<s.heap.objs.size:=Heap.lt_size ho
 have key:∀vs:List Value,vs.Perm (es.toList.map (·.2))→StrsAre vs (vs.map strOf)∧(vs.map strOf).Perm ks:=fun vs hv=>
  ⟨strsAre_map vs fun v hm=>zg hel v (hv.mem_iff.mp hm),(hv.map strOf).trans (by rw [List.map_map];exact hp)⟩
 refine wpAny_pyIter_slot hT PySem.F.slot_set_iter (wpAny_call_entry PySem.F.slot_set_iter hT kU ?_ (PySem.F.args_set_iter_1 _))
 unfold Builtin.«frozenset.__iter__» Builtin.Frozenset.slot0 slotArgs
 simp only [List.isEmpty_nil,Bool.not_true,Bool.false_eq_true,↓reduceIte,bind_assoc,List.length_nil,bne_self_eq_false]
 unfold Builtin.Frozenset.addrOf Builtin.Frozenset.sizeOf
 refine wpAny_bind (wpAny_pure ?_)
 try dsimp only
 refine wpAny_bind (wpAny_pure ?_)
 refine wpAny_bind (wpAny_bind (wpAny_setEntries_of ho rfl hf (wpAny_pure ?_)))
 unfold setDrawn
 refine wpAny_bind (wpAny_bind (wpAny_setState_of ho rfl hf ?_))
 dsimp only
 unfold setsByText
 refine wpAny_bind (wpAny_bind (wpAny_askSetting (wpAny_pure ?_)))
 refine wpAny_pure ?_
 show wpAny _ _ (if (!bV w&&(!t.plain&&decide (es.size > 1)))=true then _ else _) _ _ _
 have stay:∀(o:Obj) (h₁:Heap),(∀b ob,s.heap.get? b=some ob→h₁.get? b=some ob)→∀b ob,s.heap.get? b=some ob→(h₁.push o).get? b=some ob:=fun o h₁ k b ob e=>Heap.get?_push_of_some _ (k b ob e)
 have nosz:∀a,s.heap.objs.size≤a→s.heap.get? a=none:=fun a ha=>by
  cases e:s.heap.get? a with
  | none=>rfl
  | some o=>exact absurd (Heap.lt_size e) (Nat.not_lt.mpr ha)
 by_cases hd:(!bV w&&(!t.plain&&decide (es.size > 1)))=true
 ·rw [if_pos hd]
  refine wpAny_bind (kW es.size (List.range es.size) s (by simp) fun ps d hps=>?_)
  have hpl:ps.length=es.size:=by rw [hps.length_eq];simp
  refine wpAny_bind (wpAny_newTuple ?_ (by rw [List.length_map,hpl,hlen];exact fits_of_scanBound hz))
  have k1:∀b ob,s.heap.get? b=some ob→(s.heap.push { cls:=.type "tuple",data:=.seq (ps.map (fun (i:Nat)=>rawInt i)).toArray }).get? b=some ob:=fun b ob e=>Heap.get?_push_of_some _ e
  refine wpAny_bind (wpAny_setEpoch_of (s:={ s with heap:=s.heap.push { cls:=.type "tuple",data:=.seq (ps.map (fun (i:Nat)=>rawInt i)).toArray },drawn:=d }) (k1 _ _ ho) rfl hf ?_)
  refine wpAny_bind (wpAny_newObj_type ?_)
  have hsz:(s.heap.push { cls:=.type "tuple",data:=.seq (ps.map (fun (i:Nat)=>rawInt i)).toArray }).objs.size=s.heap.objs.size+1:=Heap.size_push ..
  have hps':∀k∈ps,k<es.size:=fun k hk=>by simpa using hps.mem_iff.mp hk
  have hvp:(ps.map (fun k=>(es.toList.map (·.2)).getD k .none)).Perm (es.toList.map (·.2)):=by
   have e1:(List.range es.size).map (fun k=>(es.toList.map (·.2)).getD k .none)=es.toList.map (·.2):=by
    apply List.ext_getElem?
    intro i
    rw [List.getElem?_map]
    by_cases hi:i<es.size
    ·rw [List.getElem?_range hi];simp [List.getD,hi]
    ·rw [List.getElem?_eq_none (by simpa using hi),List.getElem?_eq_none (by simpa using hi)];rfl
   have:=hps.map (fun k=>(es.toList.map (·.2)).getD k .none)
   rwa [e1] at this
  obtain ⟨kv1,kv2⟩:=key _ hvp
  have hI:∀(o:Obj),o.isFreed=false→((s.heap.push { cls:=.type "tuple",data:=.seq (ps.map (fun (i:Nat)=>rawInt i)).toArray }).push o).get? (s.heap.objs.size+1)=some o:=fun o hf=>by rw [←hsz];exact Heap.get?_push_size _ hf
  refine wpAny_pure ⟨_,rfl,"set_iterator",_,⟨_,Heap.get?_push_size _ rfl,rfl⟩,aH.lookup,?_⟩
  show Q (.ref (s.heap.push _).objs.size) _
  rw [hsz]
  refine h (s.heap.objs.size+1) _ _ _ d kv1 kv2 (stay _ _ k1) (by
   cases e:s.heap.get? (s.heap.objs.size+1) with
   | none=>rfl
   | some o=>exact absurd (Heap.lt_size e) (Nat.not_lt.mpr (Nat.le_succ _))) fun A hh=>⟨_,_,qw (I:=s.heap.objs.size+1) (S:=S) (T:=s.heap.objs.size) (es:=es) (ep:=ep) (t:=t) (n':=0) (ks:=ps) hh (Nat.ne_of_gt (Nat.lt_succ_of_lt hS0)) (Nat.succ_ne_self _) hf (by simp) fun i v hv=>?_,
    ⟨hI _ rfl,Heap.get?_push_of_some _ (k1 _ _ ho),Heap.get?_push_of_some _ (Heap.get?_push_size _ rfl)⟩,?_,by simp⟩
  ·rw [List.getElem?_map] at hv
   cases hk:ps[i]? with
   | none=>rw [hk] at hv;cases hv
   | some k=>
    rw [hk] at hv
    have hlt:=hps' k (List.mem_of_getElem? hk)
    have hv:(es.toList.map (·.2)).getD k .none=v:=Option.some.inj hv
    refine ⟨k,es[k].1,rfl,?_⟩
    rw [Array.getElem?_eq_getElem hlt]
    simp [List.getD,hlt] at hv
    rw [←hv]
  ·intro b hb
   simp at hb
   rcases hb with rfl | rfl | rfl
   ·exact .inr (nosz _ (Nat.le_succ _))
   ·exact .inl rfl
   ·exact .inr (nosz _ (Nat.le_refl _))
 ·rw [if_neg hd]
  refine wpAny_bind (wpAny_pure ?_)
  refine wpAny_bind (wpAny_setEpoch_of ho rfl hf ?_)
  refine wpAny_bind (wpAny_newObj_type ?_)
  refine wpAny_pure ⟨_,rfl,"set_iterator",_,⟨_,Heap.get?_push_size _ rfl,rfl⟩,aH.lookup,?_⟩
  have hI0:s.heap.get? s.heap.objs.size=none:=by
   cases e:s.heap.get? s.heap.objs.size with
   | none=>rfl
   | some o=>exact absurd (Heap.lt_size e) (Nat.lt_irrefl _)
  have hfp:∀b∈[s.heap.objs.size,S],b=S∨s.heap.get? b=none:=fun b hb=>by
   simp at hb
   rcases hb with rfl | rfl
   ·exact .inr hI0
   ·exact .inl rfl
  cases hb:bV w with
  | true=>
   have hvp:((pickOrder (w.params.setOrder S ep) es).toList.map (·.2)).Perm (es.toList.map (·.2)):=(mS _ es).map _
   obtain ⟨kv1,kv2⟩:=key _ hvp
   refine h s.heap.objs.size _ _ _ s.drawn kv1 kv2 (stay _ _ fun b ob e=>e) hI0 fun A hh=>⟨_,_,o0 (I:=s.heap.objs.size) (S:=S) (es:=es) (ep:=ep) (t:=t) (sl:=fun _=>0) hh (Nat.ne_of_gt hS0) hf (by rw [List.length_map,(mS _ es).length_eq];simp) (fun s' hs' i v hv A Q E hq=>mU hb hs' hf ?_) (fun s' hs' A Q E hq=>mU hb hs' hf ?_),
    ⟨Heap.get?_push_size _ rfl,Heap.get?_push_of_some _ ho⟩,hfp,by simp⟩
   ·rw [List.getElem?_map,Array.getElem?_toList] at hv
    cases he:(pickOrder (w.params.setOrder S ep) es)[i]? with
    | none=>rw [he] at hv;cases hv
    | some e=>rw [he] at hv;cases hv;exact hq
   ·rw [List.length_map,Array.length_toList,Array.getElem?_eq_none (Nat.le_refl _)];exact hq
  | false=>
   have hl1:t.led=true:=by rw [hled,hb];rfl
   have hsz1:es.size≤1:=by
    rw [hb] at hd
    rcases hpl with q | q
    ·exact n1 (Nat.le_of_eq q) (by simp +arith only)
    ·rw [q] at hd;simp at hd;exact hd
   have hpsz:t.place.size=es.size:=by
    simp only [SetTable.fits,Bool.and_eq_true,beq_iff_eq] at hf;exact hf.1
   obtain ⟨kv1,kv2⟩:=key (es.toList.map (·.2)) (.refl _)
   refine h s.heap.objs.size _ _ _ s.drawn kv1 kv2 (stay _ _ fun b ob e=>e) hI0 fun A hh=>⟨_,_,o0 (I:=s.heap.objs.size) (S:=S) (es:=es) (ep:=ep) (t:=t) (sl:=fun i=>if i=0 then 0 else t.place.getD 0 0+1) hh (Nat.ne_of_gt hS0) hf (by exact List.length_map ..) (fun s' hs' i v hv A Q E hq=>o4 hb hs' hf hl1 hsz1 ?_) (fun s' hs' A Q E hq=>o4 hb hs' hf hl1 hsz1 ?_),
    ⟨Heap.get?_push_size _ rfl,Heap.get?_push_of_some _ ho⟩,hfp,by simp⟩
   ·rw [List.getElem?_map,Array.getElem?_toList] at hv
    have hi:i=0:=by
     rcases Nat.lt_or_ge i es.size with q | q
     ·lia
     ·rw [Array.getElem?_eq_none q] at hv;exact aw hv
    subst hi
    have h1:es.size=1:=by
     rcases Nat.lt_or_ge 0 es.size with q | q
     ·lia
     ·rw [Array.getElem?_eq_none q] at hv;exact aw hv
    obtain ⟨j,hj⟩:∃j,t.place=#[j]:=Array.size_eq_one_iff.mp (by rw [hpsz,h1])
    rw [hj,mV]
    simp only [if_true,Nat.not_lt_zero,if_false]
    cases he:es[0]? with
    | none=>rw [he] at hv;cases hv
    | some e=>
     rw [he] at hv;cases hv
     have hj':t.place.getD 0 0=j:=by rw [hj];rfl
     simp only [Nat.add_eq_zero_iff,Nat.one_ne_zero,and_false,if_false,hj'] at hq
     exact hq
   ·have e0:∀k,es.size≤k→es[k]?=none:=fun k hk=>Array.getElem?_eq_none hk
    rcases Nat.eq_zero_or_pos es.size with q | q
    ·rw [e0 _ (n1 (Nat.le_of_eq q) (by simp +arith only))];exact hq
    ·have h1:es.size=1:=by lia
     obtain ⟨j,hj⟩:∃j,t.place=#[j]:=Array.size_eq_one_iff.mp (by rw [hpsz,h1])
     have hj':t.place.getD 0 0=j:=by rw [hj];rfl
     rw [hj,mV,hj.symm,hj']
     have hvl:(es.toList.map (fun x=>x.2)).length=1:=by (rw [List.length_map];exact h1)
     rw [hvl]
     simp only [Nat.one_ne_zero,if_false,Nat.lt_succ_self,if_true]
     rw [e0 _ (hsz1)];exact hq
end
end Internal
end
section
set_option maxRecDepth 100000
namespace Internal
open PySem PyProof.Rows
section
variable {prog:Program}{w:World}{A:Around}{E:Value→Shared→Prop}{s:Shared}
theorem CC {S:Addr}{es:Array (Int × Value)}{ep:Nat}{t:SetTable}{Q:Bool→Shared→Prop}(ho:s.heap.get? S=some (fG es ep t))(h:Q false s):wpAny (model prog w) A (Builtin.List.listLengthHint (.ref S)) Q E s:=by
 have hT:s.TypeIs (.ref S) "set":=⟨_,ho,rfl⟩
 unfold Builtin.List.listLengthHint
 refine wpAny_bind (wpAny_specialOf hT PySem.F.slot_set_len.lookup ?_)
 (generalize hid:("set.__len__":String)=id0;(fail_if_success (clear hid id0));wp_delta;rw [show splitId id0=some ("set","__len__") from by subst hid;decide +kernel];subst hid)
 refine wpAny_bind (wpAny_isInstance (b:=true) hT (by rw [isSubtype_type];kernel_rfl) ?_)
 refine wpAny_bind (wpAny_typeOf hT ?_)
 exact wpAny_pure h
structure zh (s s':Shared):Prop where
 heap:∀b o,s.heap.get? b=some o→s'.heap.get? b=some o
 gens:s'.gens=s.gens
 os:s'.os=s.os
theorem tD {S:Addr}{ks:List Str}{Q:List Value→Shared→Prop}(hh:A.handled=none)(hS:g7 prog w s.heap S ks)(hz:ks.length<scanBound)
  (h:∀vs ss s',StrsAre vs ss→ss.Perm ks→zh s s'→Q vs s'):wpAny (model prog w) A (collect (.ref S)) Q E s:=by
 obtain ⟨es,ep,t,ho,hrest⟩:=id hS
 unfold collect
 refine wpAny_bind (wpAny_runValue (codeAny_builtin PySem.F.entry_proto_collect ?_))
 rw [Around.under_plainId PySem.F.plain_proto_collect _]
 show wpAny _ A.in1 (newList [] >>= fun l=>again (.builtin "list.__iadd__" ⟨[l,.ref S],[]⟩)) _ _ s
 refine wpAny_bind (wpAny_newObj_type ?_)
 refine wpAny_pure ⟨plainId_quiet PySem.F.plain_list_iadd _,codeAny_builtin PySem.F.entry_list_iadd ?_⟩
 rw [Around.under_plainId PySem.F.plain_list_iadd _]
 show wpAny _ A.in1 (Builtin.List.listExtendWith (.ref s.heap.objs.size) (.ref S) (.ref s.heap.objs.size)) _ _ _
 unfold Builtin.List.listExtendWith
 have k1:∀b o,s.heap.get? b=some o→(s.heap.push { cls:=.type "list",data:=.seq ([]:List Value).toArray }).get? b=some o:=fun b o e=>Heap.get?_push_of_some _ e
 have hS1:g7 prog w (s.heap.push { cls:=.type "list",data:=.seq ([]:List Value).toArray }) S ks:=kR hS fun o e=>k1 S o e
 have hL1:(s.heap.push { cls:=.type "list",data:=.seq ([]:List Value).toArray }).get? s.heap.objs.size=some { cls:=.type "list",data:=.seq ([]:List Value).toArray }:=Heap.get?_push_size _ rfl
 have hSne:S≠s.heap.objs.size:=Nat.ne_of_lt (Heap.lt_size ho)
 refine wpAny_bind (wpAny_typeOf (T:="set") ⟨_,k1 _ _ ho,rfl⟩ ?_)
 rw [if_neg (by simp [Builtin.List.listSameRef,Ne.symm hSne])]
 refine wpAny_bind (CB (s:={ s with heap:=s.heap.push { cls:=.type "list",data:=.seq ([]:List Value).toArray } }) hS1 hz fun I vs ss h' d hst hperm hk hI0 hw=>?_)
 refine wpAny_bind (wpAny_holding (CC (es:=es) (ep:=ep) (t:=t) (hk _ _ (k1 _ _ ho)) ?_))
 rw [if_pos (by decide)]
 refine wpAny_bind (wpAny_rule ?_)
 have hL2:=hk _ _ hL1
 refine wpAny_bind ?_
 show wpAny _ A.in1 (updateSeq s.heap.objs.size (·.push .none) >>= fun _=>updateSeq s.heap.objs.size (·.pop)) _ _ _
 refine wpAny_bind (wpAny_updateSeq hL2 rfl ?_)
 have hL3:=Heap.get?_update_self (Obj.mapSeq (·.push Value.none)) hL2 rfl
 refine wpAny_updateSeq hL3 rfl ?_
 have hL4:=Heap.get?_update_self (Obj.mapSeq (·.pop)) hL3 rfl
 have oth:∀b o,b≠s.heap.objs.size→h'.get? b=some o→((h'.update s.heap.objs.size (Obj.mapSeq (·.push Value.none))).update s.heap.objs.size (Obj.mapSeq (·.pop))).get? b=some o:=
  fun b o hb e=>(Heap.get?_update_other _ _ (Ne.symm hb)).trans ((Heap.get?_update_other _ _ (Ne.symm hb)).trans e)
 obtain ⟨fp,St,W,st0,hfp,hIf⟩:=hw A.in1 hh
 have hLf:s.heap.objs.size∉fp:=fun q=>by
  rcases hfp _ q with e | e
  ·exact hSne e.symm
  ·rw [show (s.heap.push { cls:=.type "list",data:=.seq ([]:List Value).toArray }).get? s.heap.objs.size=_ from hL1] at e;exact pT e
 have hvl:vs.length≤sizeLine:=by
  rw [←kT hst,hperm.length_eq];exact fits_of_scanBound hz
 refine wpAny_pure ⟨plainId_quiet PySem.F.plain_extend_loop _,codeAny_extend_loopS W hvl _ hLf _ vs.length 0 _ _ _ rfl (Nat.zero_le _)
  (W.frame 0 { s with heap:=h',drawn:=d } ((h'.update s.heap.objs.size (Obj.mapSeq (·.push Value.none))).update s.heap.objs.size (Obj.mapSeq (·.pop))) s.toks st0 (Nat.le_refl _) fun b hb o e=>oth b o (fun q=>hLf (q▸hb)) e) hL4 (ItemsOf.nil _) fun s' acc' c' hm hS' hacc=>?_⟩
 show wpAny _ A (load s.heap.objs.size >>= _) _ _ s'
 refine wpAny_bind (wpAny_load hS' ?_)
 have hacc':acc'.toList=vs:=by
  apply List.ext_getElem?
  intro i
  rcases Nat.lt_or_ge i vs.length with q | q
  ·have hi:i<acc'.size:=by rw [hacc.1];exact q
   have:=hacc.2 i acc'[i] (Array.getElem?_eq_getElem hi)
   rw [this,Array.getElem?_toList,Array.getElem?_eq_getElem hi]
  ·rw [List.getElem?_eq_none q,List.getElem?_eq_none (by rw [Array.length_toList,hacc.1];exact q)]
 show wpAny _ A (pure acc'.toList) _ _ s'
 rw [hacc']
 refine wpAny_pure (h vs ss s' hst hperm ⟨fun b o e=>?_,hm.gens,hm.os⟩)
 have hb1:b≠s.heap.objs.size:=Nat.ne_of_lt (Heap.lt_size e)
 refine hm.heap b o ?_ (oth b o hb1 (hk b o (k1 b o e)))
 simp only [List.mem_cons,List.not_mem_nil,or_false,not_or]
 refine ⟨hb1,fun q=>?_⟩
 rw [q] at e
 rw [k1 _ _ e] at hI0;exact pT hI0
theorem o6 {h:Heap}{vs:List Value}{out:Array Value}{b:Addr}{o:Obj}(e:h.get? b=some o):(sortedHeap (h.push (seqObj "list" vs.toArray 0)) h.objs.size vs out).get? b=some o:=by
 have hlt:=Heap.lt_size e
 rw [sortedHeap_old (Nat.ne_of_lt hlt) (by rw [Heap.size_push];exact Nat.lt_succ_of_lt hlt)]
 exact Heap.get?_push_of_some _ e
theorem wz {S:Addr}{ks:List Str}{Q:Value→Shared→Prop}(hh:A.handled=none)(hz:ks.length<64)
  (hc:∀{A:Around}{E:Value→Shared→Prop}{Q:List Value→Shared→Prop},A.handled=none→(∀vs ss s',StrsAre vs ss→ss.Perm ks→zh s s'→Q vs s')→wpAny (model prog w) A (collect (.ref S)) Q E s)
  (h:∀a s' (out:Array Value) ss e,zh s s'→s.heap.get? a=none→s'.heap.get? a=some (seqObj "list" out e)→StrsAre out.toList ss→ss.Perm ks→sortedS ss=true→Q (.ref a) s') :
  wpAny (model prog w) A (call (.builtin "sorted") [.ref S]) Q E s:=by
 refine Calls.call_function_entry kind_sorted plain_sorted entry_sorted (args_sorted1 _) ?_
 unfold Builtin.«sorted»
 refine wpAny_bind (m:=checkCount "sorted" 1 1 _) (wpAny_pure ?_)
 refine wpAny_bind (hc hh fun vs ss s' hst hperm hsm=>?_)
 have hvl:vs.length<64:=by rw [←kT hst,hperm.length_eq];exact hz
 refine wpAny_bind (wpAny_newList ?_ (by have:=sizeLine_eq;exact n2 (Nat.le_of_eq this.symm) hvl (by simp +arith only)))
 have hoL:(s'.heap.push (seqObj "list" vs.toArray 0)).get? s'.heap.objs.size=some (seqObj "list" vs.toArray 0):=Heap.get?_push_size _ rfl
 refine wpAny_bind (wpAny_holding (wpAny_call_entry (s:={ s' with heap:=s'.heap.push (seqObj "list" vs.toArray 0) }) slot_list_sort ⟨_,hoL,rfl⟩ entry_list_sort (list_sort_treeK strKind_oneLt hoL hst.keysOf (fun v₁ v₂ rest e=>keyKind_strs (by rw [←e];exact hst)) hvl fun st' a1 a2=>⟨_,rfl,?_⟩) (args_list_sort _)))
 obtain ⟨ss',h1,h2,h3⟩:=sorted_out_str hst a1 a2
 obtain ⟨e,he⟩:=sortedHeap_at (out:=(arrOf st').map (·.2)) hoL
 refine wpAny_pure ⟨_,rfl,h _ _ _ ss' e ⟨fun b o eb=>?_,hsm.gens,hsm.os⟩ ?_ he h1 (h2.trans hperm) h3⟩
 ·exact o6 (hsm.heap b o eb)
 ·cases q:s.heap.get? s'.heap.objs.size with
  | none=>rfl
  | some o=>exact absurd (Heap.lt_size (hsm.heap _ o q)) (Nat.lt_irrefl _)
theorem wA {S:Addr}{ks:List Str}{Q:Value→Shared→Prop}(hh:A.handled=none)(hS:g7 prog w s.heap S ks)(hz:ks.length<64)
  (h:∀a s' (out:Array Value) ss e,zh s s'→s.heap.get? a=none→s'.heap.get? a=some (seqObj "list" out e)→StrsAre out.toList ss→ss.Perm ks→sortedS ss=true→Q (.ref a) s') :
  wpAny (model prog w) A (call (.builtin "sorted") [.ref S]) Q E s:=wz hh hz (fun hh h=>tD hh hS (by unfold scanBound;exact Nat.le_trans hz (nb rfl)) h) h
end
end Internal
end
section
namespace Internal
open PySem PyProof.Rows
theorem mW:∀(p:Str) (l:List Str),risingS p l=true→(p::l).Nodup→((p::l).map (fun x=>x.cps.toList)).Pairwise (· < ·)
 | p,[],_,_=>by simp
 | p,x::r,h,hn=>by
  unfold risingS at h
  simp only [Bool.and_eq_true,Bool.not_eq_true',ltCps_eq,decide_eq_false_iff_not] at h
  obtain ⟨hn1,hn2⟩:=List.nodup_cons.mp hn
  have ih:=mW x r h.2 hn2
  have hne:p.cps.toList≠x.cps.toList:=fun q=>hn1 (by
   have:p=x:=by
    obtain ⟨⟨a⟩⟩:=p;obtain ⟨⟨b⟩⟩:=x;simp at q;subst q;rfl
   rw [this];exact List.mem_cons_self ..)
  have hpx:p.cps.toList<x.cps.toList:=by
   rcases Classical.em (p.cps.toList<x.cps.toList) with q | q
   ·exact q
   ·exact absurd (List.le_antisymm (List.not_lt.mp h.1) (List.not_lt.mp q)) hne
  rw [List.map_cons]
  refine List.pairwise_cons.mpr ⟨fun y hy=>?_,ih⟩
  rw [List.map_cons] at hy ih
  obtain ⟨i1,_⟩:=List.pairwise_cons.mp ih
  rcases List.mem_cons.mp hy with rfl | hy
  ·exact hpx
  ·exact List.lt_trans hpx (i1 y hy)
theorem tE {l:List Str}(h:sortedS l=true)(hn:l.Nodup):(l.map (fun x=>x.cps.toList)).Pairwise (· < ·):=by
 cases l with
 | nil=>simp
 | cons p r=>exact mW p r h hn
set_option tactic.hygienic true in
theorem iz (ss:List Str):(bP ss).Nodup:=by
 have:∀(ss ks:List Str),ks.Nodup→(ss.foldl iu ks).Nodup:=by
  intro ss
  induction ss with
  | nil=>intro ks h;exact h
  | cons s r ih=>
   intro ks h
   refine ih _ ?_
   unfold iu
   split
   ·exact h
   ·rename_i hk
    rw [List.nodup_append]
    exact ⟨h,by simp,fun x hx y hy=>by
     have:y=s:=by simpa using hy
     subst this;intro q;subst q;exact hk hx⟩
 exact this ss [] List.nodup_nil
theorem zi {ss:List (List Nat)}{ss':List Str}(hp:ss'.Perm (bP (ss.map (fun x=>(⟨x.toArray⟩:Str)))))(hs:sortedS ss'=true):ss'.map (fun x=>x.cps.toList)=aS ss:=by
 have hn:ss'.Nodup:=hp.nodup_iff.mpr (iz _)
 refine Ba (tE hs hn) (kb ss) fun x=>?_
 rw [aE]
 constructor
 ·intro h
  obtain ⟨y,hy,rfl⟩:=List.mem_map.mp h
  have:=dy.mp (hp.mem_iff.mp hy)
  obtain ⟨z,hz,rfl⟩:=List.mem_map.mp this
  simpa using hz
 ·intro h
  refine List.mem_map.mpr ⟨⟨x.toArray⟩,hp.mem_iff.mpr (dy.mpr (List.mem_map.mpr ⟨x,h,rfl⟩)),by simp⟩
theorem wB {ss:List (List Nat)}:(bP (ss.map (fun x=>(⟨x.toArray⟩:Str)))).length=(aS ss).length:=by
 have:∀(l m:List (List Nat)),l.Nodup→m.Nodup→(∀x,x∈l↔x∈m)→l.length=m.length:=fun l m h1 h2 h=>((List.perm_ext_iff_of_nodup h1 h2).mpr h).length_eq
 have hn:((bP (ss.map (fun x=>(⟨x.toArray⟩:Str)))).map (fun x=>x.cps.toList)).Nodup:=by
  refine List.pairwise_map.mpr ((iz _).imp fun {p x} hne q=>hne ?_)
  obtain ⟨⟨a⟩⟩:=p;obtain ⟨⟨b⟩⟩:=x;simp at q;subst q;rfl
 have:=this _ (aS ss) hn ((kb ss).imp fun h q=>by subst q;exact List.lt_irrefl _ h) fun x=>by
  rw [aE]
  constructor
  ·intro h
   obtain ⟨y,hy,rfl⟩:=List.mem_map.mp h
   obtain ⟨z,hz,rfl⟩:=List.mem_map.mp (dy.mp hy)
   simpa using hz
  ·intro h
   exact List.mem_map.mpr ⟨⟨x.toArray⟩,dy.mpr (List.mem_map.mpr ⟨x,h,rfl⟩),by simp⟩
 simpa using this
end Internal
end
section
set_option backward.match.sparseCases true
namespace Internal
open PySem PyProof.Rows
section
variable {C:Glo}{F:Fm}{X:XM}{c:Cx}{n:Nat}
theorem wC {ρ:List Addr}{h:Heap}{ss:List (List Nat)}{items:List Value}(r:aD C ρ h (ss.map .str) items):StrsAre items (ss.map (fun x=>(⟨x.toArray⟩:Str)))∧∀x∈ss,x.length≤line:=by
 induction ss generalizing items with
 | nil=>rw [r.inv];exact ⟨.nil,fun x hx=>aC hx⟩
 | cons x ss ih=>
  obtain ⟨v,ws,rfl,a,b⟩:=r.inv
  obtain ⟨t,rfl,z⟩:=a.inv
  obtain ⟨h1,h2⟩:=ih b
  exact ⟨.cons _ t h1,fun y hy=>(List.mem_cons.mp hy).elim (fun e=>e▸z) (h2 y)⟩
theorem wD {ρ:List Addr}{h:Heap}{items:List Value}{ss:List Str}(r:StrsAre items ss)(hz:∀x∈ss,x.cps.toList.length≤line):aD C ρ h ((ss.map (fun x=>x.cps.toList)).map .str) items:=by
 induction r with
 | nil=>exact .nil
 | cons x t r ih=>exact .cons (.str x.cps.toList t (hz x (List.mem_cons_self ..))) (ih fun y hy=>hz y (List.mem_cons_of_mem _ hy))
set_option tactic.hygienic true in
theorem zj (cx:au C c F n){b:Bi}{args:List ME}(iargs:∀a∈args,SV C X n c F a){e z:Expr}(hz:xSS c b e=some z)(hc:bi c args [z]=true){x y:Str}{f g:Value}(hb:∀{x' y':Str},Cd b x' y'=true→x'=x∧y'=y)(hm1:(x,f)∈bZ)(hm2:(y,g)∈bZ)(hf:(∃id,f=.builtin id)∨∃T,f=.type T)(hg:(∃id,g=.builtin id)∨∃T,g=.type T){Q:PQ}{m:MS}(h:gJ (Call C) n args (fun vs m=>mD b vs Q m) X m)
  (hk:∀{ρ:List Addr}{s:Shared}{m:MS}{x:MV}{v:Value},Rel C F ρ m s→Rep C ρ s.heap x v→eI b x Q m→∀{E:Value→Shared→Prop},wpAny (mod C) F.A (call g [v]) (fun u s'=>wpAny (mod C) F.A (call f [u]) (Out C F ρ s Q) E s') E s):WPv C F X (eval e F.env) Q m:=by
 unfold xSS at hz
 replace hz:=Option.bind_eq_some_iff.mp hz
 obtain ⟨⟨x',ys,pos⟩,hx,hz⟩:=hz
 replace hz:=Option.bind_eq_some_iff.mp hz
 obtain ⟨y',hy,hz⟩:=hz
 replace hz:=Option.bind_eq_some_iff.mp hz
 obtain ⟨⟨x'',zs,pos'⟩,hx',hz⟩:=hz
 cases bE hy
 obtain ⟨px,rfl⟩:=g6 hx
 obtain ⟨px',rfl⟩:=g6 hx'
 split at hz
 rotate_left
 ·exact aw hz
 rename_i hA
 cases bE hz
 obtain ⟨hA,g2⟩:=aj hA
 obtain ⟨hA,g1⟩:=aj hA
 obtain ⟨rfl,rfl⟩:=hb hA
 obtain ⟨a,rfl,hz,ha⟩:=wj hc
 intro s ρ R
 refine PyProof.Rows.Call_Name rfl (cr cx R hm1 (aP g1).1 (aP g1).2 ?_)
 refine d8 hf (by rw [bp (by rfl)];rfl) (by rw [bp (by rfl)];exact List.cons_ne_nil _ _) ?_
 rw [bp (by rfl)]
 refine Calls.spliced_cons (PyProof.Rows.Call_Name rfl (cr cx R hm2 (aP g2).1 (aP g2).2 ?_))
 refine d8 hg (by rw [bp hz];rfl) (by rw [bp hz];exact List.cons_ne_nil _ _) ?_
 rw [bp hz]
 refine Calls.spliced_cons ((iargs a (.head _) z ha _ m h).go R (.refl _ _ _) fun ρ₁ s₁ m₁ x v st t1 R₁ rx h₁=>Calls.spliced_nil ?_)
 refine wpAny_mono (hk R₁ rx h₁) (fun u s' q=>Calls.spliced_nil (wpAny_mono q (Out.back t1) fun _ _ x=>x)) fun _ _ x=>x
theorem EE (G:GOk C)(cx:au C c F n){args:List ME}(iargs:∀a∈args,SV C X n c F a){e z:Expr}(hz:xSS c .sortedSet e=some z)(hnh:c.nh=true)(hc:bi c args [z]=true){Q:PQ}{m:MS}(h:gJ (Call C) n args (fun vs m=>mD .sortedSet vs Q m) X m):WPv C F X (eval e F.env) Q m:=by
 refine zj cx iargs hz hc (x:="sorted") (y:="set") (f:=.builtin "sorted") (g:=.type "set") (fun q=>?_) (bn 10 rfl) (bn 11 rfl) (.inl ⟨_,rfl⟩) (.inr ⟨_,rfl⟩) h fun {ρ₁ s₁ m₁ x v} R₁ rx h₁ {E}=>?_
 ·obtain ⟨q,q2⟩:=aj q
  obtain ⟨_,q1⟩:=aj q
  exact ⟨eq_of_beq q1,eq_of_beq q2⟩
 replace h₁:eI .sortedSet x Q m₁:=h₁
 obtain ⟨r,rfl,h₁⟩:=dI h₁
 obtain ⟨la,rfl,g⟩:=rx.inv
 obtain ⟨xs,hi,ss,rfl,h64,h4000,hq⟩:=bX h₁
 obtain ⟨items,n',gi,rl,zz⟩:=R₁.hp.objs _ _ _ hi g
 obtain ⟨hst,hll⟩:=wC rl
 have hil:items.length<4000:=by rw [rl.length];simpa using h4000
 refine qt (cx.hn hnh) (items:=items.toArray) ⟨_,gi,rfl,_,rfl⟩ hst (by rw [List.size_toArray];unfold scanBound;exact n1 hil (by simp +arith only)) fun h' tk hS hk=>?_
 obtain ⟨R₂,st₂⟩:=R₁.grow (s':={ s₁ with heap:=h',toks:=tk }) cx.fm hk rfl rfl
 refine (wA (cx.hn hnh) (s:={ s₁ with heap:=h',toks:=tk }) hS (by rw [wB];exact h64) fun a s' out ss' e hsm ha hout hst' hperm hsrt=>?_)
 have hset:=zi hperm hsrt
 obtain ⟨R₃,st₃⟩:=R₂.alloc (s':=s') cx.fm hsm.heap hsm.gens hsm.os (o:=.list ((aS ss).map .str)) (a:=a) ha
  ⟨out.toList,e,hout,by
   rw [←hset]
   refine wD hst' fun y hy=>?_
   have:y∈bP (ss.map (fun x=>(⟨x.toArray⟩:Str))):=hperm.mem_iff.mp hy
   obtain ⟨w,hw,rfl⟩:=List.mem_map.mp (dy.mp this)
   simpa using hll w hw,by rw [List.length_map];unfold line;lia⟩
 exact ⟨_,_,_,st₂.trans st₃,R₃,.ref (i:=m₁.heap.length) (by rw [←R₂.hp.len,List.getElem?_append_right (Nat.le_refl _)];simp),hq⟩
end
end Internal
end
section
namespace Internal
open PySem PyProof.Rows
theorem CD {c:Cx}{b:Bi}{e z:Expr}(hb:∀x y,Cd b x y=false){P:Prop}(h:xSS c b e=some z):P:=by
 obtain ⟨q,_,h⟩:=Option.bind_eq_some_iff.mp h
 obtain ⟨y,_,h⟩:=Option.bind_eq_some_iff.mp h
 obtain ⟨r,_,h⟩:=Option.bind_eq_some_iff.mp h
 rw [hb] at h
 exact aw h
section
variable {C:Glo}{F:Fm}{X:XM}{ρ:List Addr}{m:MS}{s:Shared}{Q:PQ}{E:Value→Shared→Prop}{A:Around}{h:Heap}{c:Cx}{n:Nat}
theorem CE (cx:au C c F n){args:List ME}(iargs:∀a∈args,SV C X n c F a){e z:Expr}(hz:xSS c .listRev e=some z)(hnh:c.nh=true)(hc:bi c args [z]=true){Q:PQ}{m:MS}(h:gJ (Call C) n args (fun vs m=>mD .listRev vs Q m) X m):WPv C F X (eval e F.env) Q m:=CD (fun _ _=>rfl) hz
theorem zn (G:GOk C)(R:Rel C F ρ m s)(ok:aU F){b:Bi}(hh:j9 b=true∨A.handled=none){xs:List MV}{vs:List Value}(hl:aD C ρ s.heap xs vs){n:Str}{f:Value}(hb:mo b=some (n,f))(h:mD b xs Q m):wpAny (mod C) A (call f vs) (Out C F ρ s Q) E s:=by
 by_cases q:b=.sorted
 ·subst q;exact aw hb
 ·exact B8 G R ok hh hl hb q h
end
end Internal
end
section
namespace Internal
open PySem PyProof.Rows
theorem CF {C:Glo}{F:Fm}{X:XM}{c:Cx}{n:Nat}(G:GOk C)(cx:au C c F n){b:Bi}{args:List ME}(iargs:∀a∈args,SV C X n c F a):SV C X n c F (.blt b args):=by
 intro e hc Q m h
 cases hb:y4 b with
 | true=>
  have hb':b=.sortedSet∨b=.listRev:=by cases b<;>first | exact .inl rfl | exact .inr rfl | exact ff hb
  rcases hb' with rfl | rfl
  ·replace hc:=ae hc
   obtain ⟨z,hz,hc⟩:=hc
   obtain ⟨hnh,hc⟩:=Bool.and_eq_true_iff.mp hc
   exact EE G cx iargs hz hnh hc h
  ·replace hc:=ae hc
   obtain ⟨z,hz,hc⟩:=hc
   obtain ⟨hnh,hc⟩:=Bool.and_eq_true_iff.mp hc
   exact CE cx iargs hz hnh hc h
 | false=>
  replace hc:(if y4 b=true then _ else _)=true:=hc
  rw [hb] at hc
  replace hc:=ae hc
  obtain ⟨⟨x,ys,pos⟩,hx,hc⟩:=hc
  obtain ⟨px,rfl⟩:=g6 hx
  simp only [Bool.and_eq_true,Bool.not_eq_true'] at hc
  obtain ⟨⟨⟨⟨hnh,hg⟩,hf⟩,hne⟩,ha⟩:=hc
  have hh:j9 b=true∨F.A.handled=none:=by
   rcases Bool.or_eq_true_iff.mp hnh with q | q
   ·exact .inr (cx.hn q)
   ·exact .inl q
  replace hf:=ae hf
  obtain ⟨⟨z,f⟩,hb,hf⟩:=hf
  cases eq_of_beq hf
  intro s ρ R
  refine PyProof.Rows.Call_Name rfl (cr cx R (Cg hb) (aP hg).1 (aP hg).2 ?_)
  refine d8 (Ci hb) (bO ha _ _) (gv ha hne _ _) ?_
  refine (nP G cx iargs ys ha _ m h pos).go R (.refl _ _ _) fun ρ₁ s₁ m₁ xs vs st t1 R₁ rl el h₁=>?_
  exact wpAny_mono (zn G R₁ cx.fm hh rl hb h₁) (Out.back t1) fun _ _ x=>x
end Internal
end
section
namespace Internal
open PySem PyProof.Rows
theorem o8 {x:Str}(h:cM.contains x=true):typeLookup (.type "object") x=pure none:=by
 have key:∀y∈cM,typeLookup (.type "object") y=pure none:=by
  intro y hy
  simp only [cM,List.mem_cons,List.not_mem_nil,or_false] at hy
  rcases hy with rfl | rfl | rfl | rfl | rfl | rfl<;>(rw [typeLookup_type,builtinLookup_eq_fast];kernel_rfl)
 exact key x (by simpa using h)
theorem wF {x:Str}(h:d7.contains x=true):typeLookup (.type "object") x=pure none:=by
 have key:∀y∈d7,typeLookup (.type "object") y=pure none:=by
  intro y hy
  simp only [d7,List.mem_cons,List.not_mem_nil,or_false] at hy
  rcases hy with rfl | rfl | rfl | rfl | rfl | rfl | rfl | rfl<;>(rw [typeLookup_type,builtinLookup_eq_fast];kernel_rfl)
 exact key x (by simpa using h)
theorem qx {x:Str}{y:List Nat}(h:(x.cps.toList==y)=true):x=str y:=by
 rw [←eq_of_beq h]
section
variable {C:Glo}{F:Fm}{X:XM}{c:Cx}{n:Nat}{ρ:List Addr}{m:MS}{s:Shared}{E:Value→Shared→Prop}{A:Around}
inductive Fp (h:Heap)(K N:Addr):Prop
 | mk (nm q:Str) (bs:List Value) (sn:List Str) (sub:List Value) (col:Option Bool) (dd:Option Addr) (k0 k1 k2 k3 k5:Option Value) (e:h.get? K=some (excClassObj nm q K N bs [.type "object"] true sn sub false col dd k0 k1 k2 k3 k5 "object.__new__"))
theorem kY {h:Heap}{K N:Addr}{m:Str→Option Value}(x:ClsAt h K N m):Fp h K N:=by
 obtain ⟨nm,q,bs,sn,sub,col,dd,k0,k1,k2,k3,k5,e⟩:=x.obj
 exact ⟨nm,q,bs,sn,sub,col,dd,k0,k1,k2,k3,k5,e⟩
inductive EF (C:Glo)(ρ:List Addr)(h:Heap)(k i:Nat)(es:List (List Nat × MV))(v:Value):Prop
 | mk (a K N d:Addr) (mA:Str→Option Value) (ev:v=.ref a) (hc:C.ca k=some K) (hN:ClsAt h K N (C.cm k)) (hao:h.get? a=some (jz K d)) (hρ:ρ[i]?=some d) (hns:h.Ns1 d mA) (I:h.Inst a K mA) (had:a≠d) (haK:a≠K)
   (h1:∀x v,bf es x=some v→∃w,mA (str x)=some w∧Rep C ρ h v w) (h2:∀x,bf es x=none→mA (str x)=none)
theorem kZ (G:GOk C)(R:Rel C F ρ m s){k i:Nat}{v:Value}(hx:Rep C ρ s.heap (.inst k i) v){es:List (List Nat × MV)}(hi:m.heap[i]?=some (.attrs es)):EF C ρ s.heap k i es v:=by
 obtain ⟨a,K,d,rfl,hc,hd,ha⟩:=hx.inv
 obtain ⟨mA,hn,h1,h2,h3⟩:=R.hp.objs _ _ _ hi hd
 obtain ⟨N,hN⟩:=G.cls k K hc
 have hN':=hN.keeps fun b o e=>R.hp.base b o e
 have had:a≠d:=fun q=>by
  subst q
  obtain ⟨o,es',ep,e,hdat,_⟩:=hn
  obtain rfl:=same ha e
  exact nomatch hdat
 have haK:a≠K:=fun q=>by
  subst q
  obtain ⟨nm,q,bs,sn,sub,col,dd,k0,k1,k2,k3,k5,e⟩:=kY hN'
  exact nomatch congrArg Obj.data (same ha e)
 exact ⟨a,K,N,d,mA,rfl,hc,hN',ha,hd,hn,⟨_,ha,rfl,fun c=>by simp,.inr ⟨d,rfl,Ne.symm had,hn⟩⟩,had,haK,h1,h2⟩
theorem CG {x:MV}{v:Value}{ρ:List Addr}{h:Heap}(r:Rep C ρ h x v):handedOut v=pure v:=
 Rep.casesOn (motive_1:=fun x v _=>handedOut v=pure v) r rfl (fun _=>rfl) (fun _ _=>rfl) (fun _ _ _=>rfl) (fun _ _ _=>rfl) (fun _=>rfl) (fun _ _ _=>rfl) (fun _ _ _ _=>rfl) (fun _ _ _=>rfl) (fun _ _ _=>rfl)
theorem zo (G:GOk C)(cx:au C c F n)(R:Rel C F ρ m s){k:Nat}{x:List Nat}{y:Str}{v:MV}{w:Value}(hx:Rep C ρ s.heap v w)(hy:y=str x)(hno:cM.contains y=true)(ha:c.at_ k y=true){Q:PQ}(h:uP k x v Q m) :
  wpAny (mod C) A (getAttr w y true) (Out C F ρ s Q) E s:=by
 obtain ⟨i,rfl,h3⟩:=oD h
 obtain ⟨es,hi,h3⟩:=oC h3
 obtain ⟨u,hg,h3⟩:=b8 h3
 obtain ⟨a,K,N,da,mA,rfl,hc,hN,_,_,_,I,_,_,h1,_⟩:=kZ G R hx hi
 obtain ⟨z,hz,rz⟩:=h1 x u hg
 obtain ⟨q1,q2,q3⟩:=G.quiet _ _ hc
 obtain ⟨nm,q,bs,sn,sub,col,dd,k0,k1,k2,k3,k5,e⟩:=kY hN
 obtain ⟨hp,gg,dr,t,os⟩:=s
 subst hy
 exact load_attr e hN.ns q2 (cx.attr _ _ ha) (o8 hno) I hz (CG rz) (bD R cx.fm rz h3)
theorem zp (G:GOk C)(cx:au C c F n){k:Nat}{o:ME}{x:List Nat}(io:SV C X n c F o):SV C X n c F (.attr k o x):=by
 intro e hc Q m h
 replace hc:=ae hc
 obtain ⟨⟨ov,name,apos⟩,hx,hc⟩:=hc
 have ee:=kD hx
 subst ee
 dsimp only at hc
 obtain ⟨hc,ho⟩:=aj hc
 obtain ⟨hc,h0⟩:=aj hc
 obtain ⟨hc,hat⟩:=aj hc
 obtain ⟨hn,hno⟩:=aj hc
 have hn:=eq_of_beq hn
 have e0:=bh (eq_of_beq h0) rfl
 rw [e0] at ho ⊢
 intro s ρ R
 refine Attribute_Name_ ((io _ ho _ m h).go R (.refl _ _ _) fun ρ₁ s₁ m₁ x v st t1 R₁ rx h₁=>?_)
 exact wpAny_mono (zo G cx R₁ rx (qx (by rw [hn];exact beq_self_eq_true _)) hno hat h₁) (Out.back t1) fun _ _ x=>x
end
end Internal
end
section
set_option maxRecDepth 100000
namespace Internal
open PySem PyProof.Rows
section
variable {prog:Program}{w:World}{A:Around}{E:Value→Shared→Prop}{h:Heap}{g:Array GenState}{d:Drawn}{t:Nat}{os:OsState}
variable {nm q:Str}{K N:Addr}{bs:List Value}{sn:List Str}{sub:List Value}{col:Option Bool}{dd:Option Addr}{k0 k1 k2 k3 k5:Option Value}
noncomputable abbrev bI (h:Heap) (K:Addr):Heap:=(h.push { cls:=.type "dict",data:=.dict #[] }).push (jz K h.objs.size)
theorem tF {mN:Str→Option Value}{rest:List Value}{fI:Addr}{oI:Obj}{Q:Fin→Shared→Prop}
  (hC:h.get? K=some (excClassObj nm q K N bs [.type "object"] true sn sub false col dd k0 k1 k2 k3 k5 "object.__new__")) (hn:h.Ns N mN) (hi:mN "__init__"=some (.ref fI)) (hfI:h.get? fI=some oI) (hfc:oI.cls=.type "function")
  (hq:wpAny (model prog w) A (call (.ref fI) (.ref (h.objs.size+1)::rest)) (fun r s'=>r=.none∧Q (.done (.ret (.ref (h.objs.size+1)))) s') E ⟨bI h K,g,d,t,os⟩) :
  wpAny (model prog w) A (Builtin.«type.__call__» ⟨.ref K::rest,[]⟩) Q E ⟨h,g,d,t,os⟩:=by
 have hmro:=F.mro_object
 have hlk:typeLookup (.type "object") "__init__"=pure (some (.builtin "object.__init__")):=by rw [typeLookup_type,builtinLookup_eq_fast];kernel_rfl
 repeat (first | with_reducible refine wpAny_loadPart_at hC ?_ | with_reducible refine wpAny_madeBy_exc hC ?_ | wp_step)
 refine codeAny_call_builtin_code (Code.quiet_builtin _ F.objNew.quiet) (wpAny_check_obj_new F.objNew hC (codeAny_obj_new F.objNew hC hn hi ?_))
 show wpAny _ _ _ _ _ _
 have up:∀{b o},h.get? b=some o→(bI h K).get? b=some o:=fun e=>Heap.get?_push_of_some _ (Heap.get?_push_of_some _ e)
 have hn₁:(bI h K).Ns N mN:=let ⟨o,es,ep,e,r⟩:=hn;⟨o,es,ep,up e,r⟩
 have hget:(bI h K).get? (h.objs.size+1)=some (jz K h.objs.size):=by heap_get
 have hcC:(Value.ref K::[Value.type "object"]).contains (.ref K)=true:=by simp
 unfold isInstance
 repeat (first | with_reducible refine wpAny_loadPart_at hget ?_ | (with_reducible refine wpAny_isSubtype_exc (up hC) ?_;rw [hcC]) | wp_step)
 show wpAny _ _ (typeLookup (.ref K) _) _ _ _
 refine wpAny_typeLookup_exc (up hC) hn₁ hmro hlk ?_
 rw [hi]
 refine wpAny_holding (wpAny_bind ?_)
 unfold bindSpecial
 refine wpAny_bind (wpAny_typeOf (T:="function") ⟨_,up hfI,hfc⟩ ?_)
 rw [if_pos (by decide)]
 refine wpAny_pure (wpAny_bind (wpAny_mono hq (fun r s' hr=>?_) fun _ _ x=>x))
 obtain ⟨rfl,hQ⟩:=hr
 wp_walk
 exact hQ
theorem wG {mN:Str→Option Value}{rest:List Value}{fI:Addr}{oI:Obj}{Q:Value→Shared→Prop}
  (hC:h.get? K=some (excClassObj nm q K N bs [.type "object"] true sn sub false col dd k0 k1 k2 k3 k5 "object.__new__")) (hn:h.Ns N mN) (hi:mN "__init__"=some (.ref fI)) (hfI:h.get? fI=some oI) (hfc:oI.cls=.type "function")
  (hq:wpAny (model prog w) (A.under (.builtin "type.__call__" ⟨.ref K::rest,[]⟩)) (call (.ref fI) (.ref (h.objs.size+1)::rest)) (fun r s'=>r=.none∧Q (.ref (h.objs.size+1)) s') E ⟨bI h K,g,d,t,os⟩) :
  wpAny (model prog w) A (call (.ref K) rest) Q E ⟨h,g,d,t,os⟩:=by
 have f1:=tc_lookup
 have f2:=tc_bind (.ref K)
 have hT:(⟨h,g,d,t,os⟩:Shared).TypeIs (.ref K) "type":=⟨_,hC,rfl⟩
 refine wpAny_call (codeAny_of_tree ?_)
 show wpAny _ _ (callAny (.ref K) _) _ _ _
 repeat (any_goals (first | assumption | with_reducible refine wpAny_loadPart_at hC ?_ | wp_step))
 refine ⟨rfl,?_⟩
 refine codeAny_call_builtin_at (Code.quiet_builtin _ (by decide +kernel)) entry_typeCall (wpAny_check_type_call_sub hC (tF hC hn hi hfI hfc ?_))
 exact hq
end
section
variable {M:Model}{A:Around}{E:Value→Shared→Prop}{s:Shared}{env:Env}
theorem wH {o:Expr}{name:Str}{apos pos:Pos}{args:List Expr}{Q:Value→Shared→Prop}(hbase:attributeBase o name env (eval o env)=eval o env)
  (hfew:((backTo pos (starEach args env)).all (fun x=>!x.1)&&(backToKw pos (keywordEach [] env)).all (fun x=>x.1.isSome)&&decide (args.length+([]:List Keyword).length+(if ([]:List Keyword).isEmpty then 0 else 1)<30))=true)
  (hline:(apos.endLine==pos.line)=true)
  (h:wpAny M A (eval o env) (fun ov s₁=>∀pl,wpAny M A (getMethod ov name pl) (fun fx s₂=>wpAny M A (callWith pos fx.1 fx.2 (backTo pos (starEach args env)) []) Q E s₂) E s₁) E s) :
  wpAny M A (eval (.Call (.Attribute o name apos) args [] pos) env) Q E s:=by
 rw [arm_eval_Call,hbase]
 refine wpAny_bind (wpAny_mono h (fun ov s₁ h₁=>?_) fun _ _ e=>e)
 refine wpAny_bind (wpAny_standAt ?_)
 have hform:methodCallForm (args.length+([]:List Keyword).length) (backTo pos (starEach args env)) (backToKw pos (keywordEach [] env))=true:=hfew
 have hpos:methodCallPos true o env apos pos=pure pos:=by unfold methodCallPos;simp [hline]
 unfold methodCall
 rw [hform]
 refine wpAny_bind (wpAny_holding (wpAny_mono (h₁ _) (fun fx s₂ h₂=>?_) fun _ _ e=>e))
 exact wpAny_bind (wpAny_of_eq hpos h₂)
end
end Internal
end
section
namespace Internal
open PySem PyProof.Rows
section
variable {C:Glo}{F:Fm}{X:XM}{c:Cx}{n:Nat}
theorem wI {k:Nat}{x:List Nat}{v:MV}{hp:List MO}(h:yB k x v hp=true):∃i es,v=.inst k i∧hp[i]?=some (.attrs es)∧bf es x=none:=by
 cases v with
 | inst d i=>
  replace h:(match hp[i]? with
   | some (.attrs es)=>k==d&&(bf es x).isNone
   | _=>false)=true:=h
  cases hi:hp[i]? with
  | none=>rw [hi] at h;exact ff h
  | some o=>
   rw [hi] at h
   cases o with
   | attrs es=>
    obtain ⟨h1,h2⟩:=aj h
    obtain rfl:=eq_of_beq h1
    exact ⟨i,es,rfl,hi,Option.isNone_iff_eq_none.mp h2⟩
   | _=>exact ff h
 | _=>exact ff h
theorem tG (G:GOk C)(cx:au C c F n){ρ:List Addr}{m:MS}{s:Shared}{A:Around}{E:Value→Shared→Prop}(R:Rel C F ρ m s){k f:Nat}{x:List Nat}{y:Str}{v:MV}{w:Value}(hx:Rep C ρ s.heap v w)(hu:yB k x v m.heap=true)(hy:y=str x)
  (hno:d7.contains y=true) (hm:c.mt f=some (k,y)) {Q:Value × List Value→Shared→Prop}{pl:Sem Bool}(h:∀a,C.fa f=some a→Q (.ref a,[w]) s):wpAny (mod C) A (getMethod w y pl) Q E s:=by
 obtain ⟨i,es,rfl,hi,hd⟩:=wI hu
 obtain ⟨a,K,N,da,mA,rfl,hc,hN,_,_,_,I,_,_,_,h2⟩:=kZ G R hx hi
 obtain ⟨q1,q2,q3⟩:=G.quiet _ _ hc
 obtain ⟨fa,ef,em,of,ho,hcl⟩:=cx.meth _ _ _ hm
 obtain ⟨nm,q,bs,sn,sub,col,dd,k0,k1,k2,k3,k5,e⟩:=kY hN
 have ho':=R.hp.base _ _ ho
 obtain ⟨hp,gg,dr,t,os⟩:=s
 subst hy
 exact method_of e hN.ns q2 q3 em ho' hcl (wF hno) I (h2 x hd) (h fa ef)
theorem zq (G:GOk C)(cx:au C c F n){k f:Nat}{x:List Nat}{o:ME}{args:List ME}(io:SV C X n c F o)(iargs:∀a∈args,SV C X n c F a):SV C X n c F (.umth k f x o args):=by
 intro e hc Q m h
 replace hc:=ae hc
 obtain ⟨⟨⟨ov,name,apos⟩,ys,pos⟩,hx,hc⟩:=hc
 have ee:=oK hx
 subst ee
 simp only [Bool.and_eq_true,beq_iff_eq,decide_eq_true_eq] at hc
 obtain ⟨⟨⟨⟨⟨⟨⟨⟨hn,hno⟩,hm⟩,h0⟩,hl⟩,hz⟩,hnh⟩,ho⟩,ha⟩:=hc
 have hh:F.A.handled=none∨C.hf f=true:=by
  rcases Bool.or_eq_true_iff.mp hnh with q | q
  ·exact .inl (cx.hn q)
  ·exact .inr (cx.hf▸q)
 have hy:name=str x:=qx (by rw [hn];exact beq_self_eq_true _)
 have e0:=bh h0 rfl
 rw [e0] at ho ⊢
 intro s ρ R
 have hp:=bO ha pos F.env
 refine wH rfl ?_ (by simp [hl]) ((io _ ho _ m h).go R (.refl _ _ _) fun ρ₁ s₁ m₁ v w st t1 R₁ rx h₁ pl=>?_)
 ·rw [Bool.and_eq_true,Bool.and_eq_true]
  refine ⟨⟨?_,rfl⟩,?_⟩
  ·rw [List.all_eq_true];intro q hq
   rw [List.any_eq_false] at hp
   simpa using hp q hq
  ·simp;exact Nat.le_trans hz (nb rfl)
 ·obtain ⟨hu,h₁⟩:=hZ h₁
  refine tG G cx R₁ rx hu hy hno hm fun a hfa=>?_
  obtain ⟨of,fd,hof,hd⟩:=G.fns f a hfa
  have fin:∀ρ₂ s₂ m₂ xs vs,aq F.W ρ₁ s₁ ρ₂ s₂→aq F.W ρ s ρ₂ s₂→Rel C F ρ₂ m₂ s₂→aD C ρ₂ s₂.heap xs vs→Call C n f (v::xs) (fun v h=>Q v ⟨m₂.vars,h⟩) (fun c h=>X c ⟨m₂.vars,h⟩) m₂.heap→wpAny (mod C) F.A (call (.ref a) (w::vs)) (Out C F ρ s Q) (Er C F X ρ s) s₂:=by
   intro ρ₂ s₂ m₂ xs vs st2 t2 R₂ rl h₂
   refine wpAny_mono (h₂ F m₂ s₂ ρ₂ (w::vs) a cx.fm hh rfl R₂ (.cons (rx.step st2) rl) cx.room cx.units hfa) (fun v s₃ hv=>?_) fun e s' x=>Er.back t2 e s' (Er.mono (fun k m' ⟨q1,q2⟩=>by rw [←q1] at q2;exact q2) e s' x)
   obtain ⟨ρ₃,m₃,x,st3,R₃,rx,e,hq⟩:=hv
   refine ⟨ρ₃,m₃,x,t2.trans st3,R₃,rx,?_⟩
   rw [←e] at hq;exact hq
  cases ys with
  | nil=>
   cases args with
   | nil=>exact callWith_meth0 hd (R₁.hp.base _ _ hof) (fin ρ₁ s₁ m₁ [] [] (.refl _ _ _) t1 R₁ .nil h₁)
   | cons=>exact ff ha
  | cons y ys=>
   have ha':=nP G cx iargs _ ha _ m₁ h₁ pos
   have hne:=gv ha rfl pos F.env
   obtain ⟨⟨b,t⟩,trees,et⟩:=List.exists_cons_of_ne_nil hne
   rw [et] at ha' hp
   show wpAny (mod C) F.A (callWith pos (.ref a) [w] (backTo pos (starEach (y::ys) F.env)) []) _ _ _
   rw [et]
   simp only [List.any_cons,Bool.or_eq_false_iff] at hp
   obtain ⟨rfl,hp⟩:=hp
   refine Calls.callWith_function (o:=of) (fd:=fd) (Calls.evalArgs_plain (ha'.go R₁ t1 fun ρ₂ s₂ m₂ xs vs st2 t2 R₂ rl el h₂=>⟨⟨R₂.hp.base _ _ hof,hd⟩,?_⟩))
   exact fin ρ₂ s₂ m₂ xs vs st2 t2 R₂ rl h₂
end
end Internal
end
section
namespace Internal
open PySem PyProof.Rows
section
variable {C:Glo}{F:Fm}{X:XM}{c:Cx}{n:Nat}
theorem qy {v:MV}{P:Prop}(h:qa v P):v=.none∧P:=by
 cases v with
 | none=>exact ⟨rfl,h⟩
 | _=>exact h.elim
theorem zw (G:GOk C)(cx:au C c F n){k f j:Nat}(hj:n=j+1)(hm:c.mt f=some (k,("__init__":Str))){K:Addr}(hK:C.ca k=some K)(hh:F.A.handled=none){ρ:List Addr}{m:MS}{s:Shared}(R:Rel C F ρ m s){xs:List MV}{vs:List Value}(rl:aD C ρ s.heap xs vs){Q:PQ}
  (h:Call C j f (.inst k m.heap.length::xs) (fun v h=>qa v (Q (.inst k m.heap.length) ⟨m.vars,h⟩)) (fun c h=>X c ⟨m.vars,h⟩) (m.heap++[.attrs []])) :
  wpAny (mod C) F.A (call (.ref K) vs) (Out C F ρ s Q) (Er C F X ρ s) s:=by
 obtain ⟨N,hN⟩:=G.cls k K hK
 have hN':=hN.keeps fun b o e=>R.hp.base b o e
 obtain ⟨nm,q,bs,sn,sub,col,dd,k0,k1,k2,k3,k5,e⟩:=kY hN'
 obtain ⟨fa,ef,em,of,ho,hcl⟩:=cx.meth _ _ _ hm
 have ho':=R.hp.base _ _ ho
 obtain ⟨hp,gg,dr,t,os⟩:=s
 refine wG e hN'.ns em ho' hcl ?_
 have hk:∀a o,hp.get? a=some o→(bI hp K).get? a=some o:=fun a o e=>Heap.get?_push_of_some _ (Heap.get?_push_of_some _ e)
 have hd1:(bI hp K).get? hp.objs.size=some { cls:=.type "dict",data:=.dict #[] }:=by heap_get
 have hd2:(bI hp K).get? (hp.objs.size+1)=some (jz K hp.objs.size):=by heap_get
 have hns:(bI hp K).Ns1 hp.objs.size fun _=>none:=Heap.Ns1.of_empty ⟨_,#[],_,hd1,rfl,fun e he=>absurd he (by simp),fun _=>rfl⟩
 obtain ⟨R',st⟩:=R.alloc (s':=⟨bI hp K,gg,dr,t,os⟩) cx.fm hk rfl rfl (o:=.attrs []) (a:=hp.objs.size) (bk (Nat.le_refl _)) (show uR _ _ _ _ _ from ⟨_,hns,fun x v e=>(by exact aw e),fun _ _=>rfl,Nat.zero_le _⟩)
 have hr:Rep C (ρ++[hp.objs.size]) (bI hp K) (.inst k m.heap.length) (.ref (hp.objs.size+1)):=
  .inst hK (by rw [←R.hp.len,List.getElem?_append_right (Nat.le_refl _)];simp) hd2
 have okF:aU { F with A:=F.A.under (.builtin "type.__call__" ⟨.ref K::vs,[]⟩) }:=by
  obtain ⟨a1,a2,a3,a4,es,a5,a6⟩:=cx.fm
  exact ⟨a1,a2,a3,a4,es,a5,a6⟩
 have R'':Rel C { F with A:=F.A.under (.builtin "type.__call__" ⟨.ref K::vs,[]⟩) } (ρ++[hp.objs.size]) (m.push (.attrs [])) ⟨bI hp K,gg,dr,t,os⟩:=by
  obtain ⟨a1,a2,a3,a4,a5,a6,a7⟩:=R'
  exact ⟨a1,a2,a3,a4,a5,a6,a7⟩
 refine wpAny_mono (h _ (m.push (.attrs [])) _ _ (.ref (hp.objs.size+1)::vs) fa okF (.inl hh) rfl R'' (.cons hr (rl.step st)) ?_ ?_ ef) (fun v s₂ hv=>?_) fun e s' x=>Er.back st e s' ?_
 ·have:=cx.room
  show F.A.depth+1+j≤999
  exact n2 this (Nat.le_of_eq hj.symm) (by simp +arith only)
 ·have:=cx.units
  show F.A.units+1≤3 * (F.A.depth+1)+4
  exact n1 this (by simp +arith only)
 ·obtain ⟨ρ₂,m₂,x,st2,R₂,rx,ev,hq⟩:=hv
  obtain ⟨rfl,hq⟩:=qy hq
  cases rx
  refine ⟨rfl,ρ₂,m₂,_,st.trans st2,?_,hr.step st2,?_⟩
  ·obtain ⟨a1,a2,a3,a4,a5,a6,a7⟩:=R₂
   exact ⟨a1,a2,a3,a4,a5,a6,a7⟩
  ·have:m.vars=m₂.vars:=ev.symm
   rw [this] at hq;exact hq
 ·obtain ⟨ρ',m',k',a,K',h1,h2,h3,h4,h5,q1,q2⟩:=x<;>exact ⟨ρ',m',k',a,K',h1,⟨h2.hp,h2.ns,h2.w,h2.vars,h2.cells,h2.out,h2.gens⟩,h3,h4,h5,by have e:m.vars=m'.vars:=q1.symm;rw [e] at q2;exact q2⟩
theorem CH (G:GOk C)(cx:au C c F n){k f:Nat}{args:List ME}(iargs:∀a∈args,SV C X n c F a):SV C X n c F (.new k f args):=by
 intro e hc Q m h
 replace hc:=ae hc
 obtain ⟨⟨x,ys,pos⟩,hx,hc⟩:=hc
 obtain ⟨px,rfl⟩:=g6 hx
 simp only [Bool.and_eq_true,beq_iff_eq,Bool.not_eq_true'] at hc
 obtain ⟨⟨⟨⟨⟨hg,hf⟩,hm⟩,hne⟩,hnh⟩,ha⟩:=hc
 intro s ρ R
 refine PyProof.Rows.Call_Name rfl (vj cx R hf (aP hg).1 (aP hg).2 fun K hK=>?_)
 obtain ⟨N,hN⟩:=G.cls k K hK
 have hp:=bO ha pos F.env
 cases ys with
 | nil=>exact tf hne
 | cons y ys=>
  have hy:starEach (y::ys) F.env=(false,eval y F.env)::starEach ys F.env:=by
   cases args with
   | nil=>exact ff ha
   | cons=>exact bp (aV ha).1.1 _ _
  have hp2:(backTo pos (starEach ys F.env)).any (·.1)=false:=by
   cases args with
   | nil=>exact ff ha
   | cons=>exact bO (aV ha).2 _ _
  refine callWith_cls hN ?_ hy hp2
  refine (nP G cx iargs _ ha _ m h pos).go R (.refl _ _ _) fun ρ₁ s₁ m₁ xs vs st t1 R₁ rl el h₁=>⟨fun b o e=>R₁.hp.base b o e,?_⟩
  cases n with
  | zero=>exact h₁.elim
  | succ j=>exact Ek t1 (zw G cx rfl hm hK (cx.hn hnh) R₁ rl h₁)
end
end Internal
end
section
namespace Internal
open PySem PyProof.Rows
section
variable {C:Glo}{F:Fm}{X:XM}{c:Cx}{n:Nat}{ρ:List Addr}{m:MS}{s:Shared}{E:Value→Shared→Prop}{A:Around}
theorem zA {hp:List MO}{x:MV}{k:Nat}(h:uz hp x=some (.exc k)):∃r,x=.ref r∧hp[r]?=some (.exc k):=by
 cases x with
 | ref r=>
  replace h:kdO hp[r]?=some (.exc k):=h
  cases hr:hp[r]? with
  | none=>rw [hr] at h;exact aw h
  | some o=>
   rw [hr] at h
   cases o with
   | exc j=>cases h;exact ⟨r,rfl,hr⟩
   | attrs=>exact aw h
   | _=>exact nomatch h
 | inst=>exact aw h
 | scr=>exact aw h
 | gt=>exact aw h
 | cdict=>exact aw h
 | _=>exact nomatch h
theorem CI (G:GOk C)(R:Rel C F ρ m s){x:MV}{v:Value}(rx:Rep C ρ s.heap x v){k:Nat}{P:Prop}(h:uz m.heap x=some (.exc k)):P:=by
 obtain ⟨r,rfl,hr⟩:=zA h
 obtain ⟨a,rfl,g⟩:=rx.inv
 obtain ⟨K,o,vs,h1,_⟩:=R.hp.objs _ _ _ hr g
 exact aX (G.x.nox k) h1
theorem zB (G:GOk C)(cx:au C c F n)(R:Rel C F ρ m s){x:MV}{v:Value}(rx:Rep C ρ s.heap x v){d:Nat}{D:Addr}(hD:C.xa d=some D){b:Bool}(h:jU m.heap x (.cls d)=some b){Q:PQ}(hq:Q (.bool b) m) :
  wpAny (mod C) A (call (.builtin "isinstance") [v,.ref D]) (Out C F ρ s Q) E s:=by
 exact aX (G.x.nox d) hD
theorem CJ (G:GOk C)(cx:au C c F n)(R:Rel C F ρ m s){x:MV}{v:Value}(rx:Rep C ρ s.heap x v){b:Bool}(h:jU m.heap x .valueError=some b){Q:PQ}(hq:Q (.bool b) m) :
  wpAny (mod C) A (call (.builtin "isinstance") [v,.type "ValueError"]) (Out C F ρ s Q) E s:=by
 obtain ⟨k,hk,h⟩:=j5 h
 cases k with
 | exc k=>exact CI G R rx hk
 | _=>exact aw h
end
end Internal
end
section
namespace Internal
open PySem PyProof.Rows
section
variable {C:Glo}{F:Fm}{X:XM}{c:Cx}{n:Nat}{ρ:List Addr}{m:MS}{s:Shared}{E:Value→Shared→Prop}{A:Around}
theorem jk {t:TS}{e:Expr}(h:kJ c t e=true):∃T p,e=.Name (Str.ofString T) p∧jV t=some T∧c.kind (Str.ofString T)=some .globalImplicit∧dbg (Str.ofString T)=false:=by
 replace h:=ae h
 obtain ⟨y,hy,h⟩:=h
 replace h:=ae h
 obtain ⟨T,eT,h⟩:=h
 obtain ⟨py,rfl⟩:=bN hy
 simp only [Bool.and_eq_true,beq_iff_eq,Bool.not_eq_true'] at h
 obtain ⟨⟨rfl,hk⟩,hd⟩:=h
 exact ⟨T,py,rfl,eT,hk,hd⟩
theorem rJ (cx:au C c F n)(R:Rel C F ρ m s){ρ₀:List Addr}{s₀:Shared}(t1:aq F.W ρ₀ s₀ ρ s){Q:PQ}{w u:Value}(h:wpAny (mod C) F.A (call (.builtin "isinstance") [w,u]) (fB s fun b=>Q (.bool b) m) (Er C F X ρ₀ s₀) s):wpAny (mod C) F.A (call (.builtin "isinstance") [w,u]) (Out C F ρ₀ s₀ Q) (Er C F X ρ₀ s₀) s:=
 wpAny_mono h (fun v s' hv=>by
  obtain ⟨b,rfl,m',st3,R',hq⟩:=wa (P:=fun b m=>Q (.bool b) m) R cx.fm hv
  exact Out.back t1 _ _ ⟨_,_,_,st3,R',.bool b,hq⟩) fun _ _ x=>x
theorem CL (G:GOk C)(cx:au C c F n)(R:Rel C F ρ m s){ρ₀:List Addr}{s₀:Shared}(t1:aq F.W ρ₀ s₀ ρ s){ty:TS}{t:Expr}(ht:A8 c ty t=true){x:MV}{v:Value}(rx:Rep C ρ s.heap x v){b:Bool}(hb:jU m.heap x ty=some b){Q:PQ}(hq:Q (.bool b) m) :
  okX t=true∧wpAny (mod C) F.A (eval t F.env) (fun u s₂=>wpAny (mod C) F.A (call (.builtin "isinstance") [v,u]) (Out C F ρ₀ s₀ Q) (Er C F X ρ₀ s₀) s₂) (Er C F X ρ₀ s₀) s:=by
 have plain:kJ c ty t=true→okX t=true∧wpAny (mod C) F.A (eval t F.env) (fun u s₂=>wpAny (mod C) F.A (call (.builtin "isinstance") [v,u]) (Out C F ρ₀ s₀ Q) (Er C F X ρ₀ s₀) s₂) (Er C F X ρ₀ s₀) s:=fun ht=>by
  obtain ⟨T,p,rfl,eT,hk,hd⟩:=jk ht
  exact ⟨rfl,cr cx R (qm eT) hk hd (rJ cx R t1 (BZ R.hp rx hb hq T eT))⟩
 refine Classical.byContradiction fun hn=>?_
 cases ty with
 | cls d=>
  obtain ⟨y,hy,ht⟩:=ae ht
  obtain ⟨py,rfl⟩:=bN hy
  obtain ⟨h1,h2⟩:=aj ht
  exact hn ⟨rfl,vm cx R (eq_of_beq h2) (aP h1).1 (aP h1).2 fun D hD=>wpAny_mono (zB G cx R rx hD hb hq) (Out.back t1) fun _ _ x=>x⟩
 | valueError=>
  obtain ⟨y,hy,ht⟩:=ae ht
  obtain ⟨py,rfl⟩:=bN hy
  obtain ⟨h1,h2⟩:=aj ht
  obtain rfl:=eq_of_beq h2
  exact hn ⟨rfl,cr cx R (v:=.type "ValueError") (bn 15 rfl) (aP h1).1 (aP h1).2 (wpAny_mono (CJ G cx R rx hb hq) (Out.back t1) fun _ _ x=>x)⟩
 | _=>exact hn (plain ht)
theorem EG (G:GOk C)(cx:au C c F n)(R:Rel C F ρ m s){ρ₀:List Addr}{s₀:Shared}(t1:aq F.W ρ₀ s₀ ρ s){ts:List TS}{t:Expr}(ht:vz c ts t=true){x:MV}{v:Value}(rx:Rep C ρ s.heap x v){Q:PQ}(h:D9 ts m.heap x fun b=>Q (.bool b) m) :
  okX t=true∧wpAny (mod C) F.A (eval t F.env) (fun u s₂=>wpAny (mod C) F.A (call (.builtin "isinstance") [v,u]) (Out C F ρ₀ s₀ Q) (Er C F X ρ₀ s₀) s₂) (Er C F X ρ₀ s₀) s:=by
 rcases ts with _ | ⟨t₁,_ | ⟨t₂,_ | ⟨t₃,r⟩⟩⟩
 ·exact ff ht
 ·obtain ⟨b,hb,hq⟩:=b8 h
  exact CL G cx R t1 ht rx hb hq
 ·obtain ⟨us,hus,ht⟩:=ae ht
  obtain ⟨⟨w1,w2⟩,hw,ht⟩:=ae ht
  obtain rfl:=nE hw
  obtain ⟨kk,pp,rfl⟩:=im hus
  obtain ⟨ht1,ht2⟩:=aj ht
  obtain ⟨T1,p1,rfl,e1,hk1,hd1⟩:=jk ht1
  obtain ⟨T2,p2,rfl,e2,hk2,hd2⟩:=jk ht2
  obtain ⟨b,hb,h⟩:=b8 h
  obtain ⟨b',hb',hq⟩:=b8 h
  refine ⟨rfl,wpAny_Tuple (wpAny_items_cons (cr cx R (qm e1) hk1 hd1 (wpAny_items_cons (cr cx R (qm e2) hk2 hd2 (wpAny_items_nil ⟨(by decide:2≤sizeLine),?_⟩)))))⟩
  obtain ⟨R₂,st₂⟩:=R.grow (s':={ s with heap:=s.heap.push { cls:=.type "tuple",data:=.seq #[.type T1,.type T2] } }) cx.fm (fun a o e=>Heap.get?_push_of_some _ e) rfl rfl
  exact rJ cx R₂ (t1.trans st₂) (yO R₂.hp (rx.step st₂) e1 e2 hb hb' hq (Heap.get?_push_size _ rfl))
 ·exact ff ht
theorem tH {ts:List TS}{t:Expr}(h:vz c ts t=true):okX t=true:=by
 have nm:∀{f:Str→Bool},ak (dK t) f=true→okX t=true:=fun h=>by
  obtain ⟨y,hy,_⟩:=ae h
  obtain ⟨py,rfl⟩:=bN hy
  rfl
 rcases ts with _ | ⟨t₁,_ | ⟨t₂,_ | ⟨t₃,r⟩⟩⟩
 ·exact ff h
 ·cases t₁<;>exact nm h
 ·obtain ⟨us,hus,_⟩:=ae h
  obtain ⟨kk,pp,rfl⟩:=im hus
  rfl
 ·exact ff h
theorem wJ (cx:au C c F n){a:ME}(ia:SV C X n c F a){v t:Expr}{pos px:Pos}(hg:cu c "isinstance"=true)(hv:okX v=true)(ha:aO c a v=true)(ho:okX t=true){PX Q:PQ}{m:MS}(h:wpE (Call C) n a PX X m)
  (k:∀{ρ₀:List Addr}{s₀:Shared}{ρ₁:List Addr}{s₁:Shared}{m₁:MS}{x:MV}{w:Value},aq F.W ρ₀ s₀ ρ₁ s₁→Rel C F ρ₁ m₁ s₁→Rep C ρ₁ s₁.heap x w→PX x m₁→wpAny (mod C) F.A (eval t F.env) (fun u s₂=>wpAny (mod C) F.A (call (.builtin "isinstance") [w,u]) (Out C F ρ₀ s₀ Q) (Er C F X ρ₀ s₀) s₂) (Er C F X ρ₀ s₀) s₁) :
  WPv C F X (eval (.Call (.Name "isinstance" px) [v,t] [] pos) F.env) Q m:=by
 intro s ρ R
 refine PyProof.Rows.Call_Name rfl (cr cx R (v:=.builtin "isinstance") (bn 7 rfl) (aP hg).1 (aP hg).2 ?_)
 refine d8 (.inl ⟨_,rfl⟩) (by rw [bp hv,bp ho];rfl) (by rw [bp hv];exact List.cons_ne_nil _ _) ?_
 rw [bp hv,bp ho]
 exact Calls.spliced_cons ((ia v ha _ m h).go R (.refl _ _ _) fun ρ₁ s₁ m₁ x v st t1 R₁ rx h₁=>Calls.spliced_cons (wpAny_mono (k t1 R₁ rx h₁) (fun w s₂ hw=>Calls.spliced_nil hw) fun _ _ e=>e))
theorem CM (G:GOk C)(cx:au C c F n){a:ME}{ts:List TS}(ia:SV C X n c F a):SV C X n c F (.isi a ts):=by
 intro e hc Q m h
 obtain ⟨⟨x,ys,pos⟩,hx,hc⟩:=ae hc
 obtain ⟨⟨v,t⟩,hv2,hc⟩:=ae hc
 obtain rfl:=nE hv2
 obtain ⟨px,rfl⟩:=g6 hx
 obtain ⟨hc,ht⟩:=aj hc
 obtain ⟨hc,ha⟩:=aj hc
 obtain ⟨hc,hv⟩:=aj hc
 obtain ⟨hg,hn⟩:=aj hc
 obtain rfl:=eq_of_beq hn
 exact wJ cx ia hg hv ha (tH ht) h fun t1 R₁ rx h₁=>(EG G cx R₁ t1 ht rx h₁).2
end
end Internal
end
section
namespace Internal
open PySem PyProof.Rows
noncomputable def bb (e:Expr):Bool:=okX e&&((view e).tag != 3||(view e).u != .Not)&&(view e).tag != 4&&(view e).tag != 5
theorem mw {e:Expr}(h:bb e=true)(env:Env)(whole:Sem Value):isTrue e env whole=(do let v ←whole;standAt e.pos;holding [v] (truthy v)):=by
 unfold bb at h
 try dsimp only at h
 obtain ⟨hA,h4⟩:=aj h
 obtain ⟨hA,h3⟩:=aj hA
 obtain ⟨h1,h2⟩:=aj hA
 exact cL (P:=fun e=>((view e).tag != 3||(view e).u != .Not)=true→((view e).tag != 4)=true→((view e).tag != 5)=true→isTrue e env whole=(do let v ←whole;standAt e.pos;holding [v] (truthy v))) h1
  (fun _ _ _ _ _ _=>rfl) (fun _ _ _ _ _=>rfl) (fun _ _ _ _ _ _ _=>rfl) (fun o _ _ h _ _=>by cases o<;>first | rfl | exact ff h) (fun _ _ _ _ h _=>by exact ff h) (fun _ _ _ _ _ _ h=>by exact ff h) (fun _ _ _ _ _ _ _=>rfl) (fun _ _ _ _ _ _=>rfl) (fun _ _ _ _ _ _=>rfl) (fun _ _ _ _ _=>rfl) (fun _ _ _ _ _ _=>rfl) (fun _ _ _ _ _ _=>rfl) (fun _ _ _ _ _ _ _=>rfl) h2 h3 h4
theorem tI {e:Expr}{k:Nat}(h:(view e).tag=k)(hk:(k != 9&&k != 14&&k != 3&&k != 4&&k != 5)=true):bb e=true:=by
 subst h
 try dsimp only at hk
 obtain ⟨hA,h5⟩:=aj hk
 obtain ⟨hA,h4⟩:=aj hA
 obtain ⟨hA,h3⟩:=aj hA
 obtain ⟨h1,h2⟩:=aj hA
 simp [bb,okX,h1,h2,h3,h4,h5]
theorem bc {α:Type}{e:Expr}{k:Nat}{x y:α}(h:(if (view e).tag=k then some x else none)=some y)(hk:(k != 9&&k != 14&&k != 3&&k != 4&&k != 5)=true):bb e=true:=tI (bo h).1 hk
theorem fH {e:Expr}{q:Str × List Expr × Pos}(h:xFn e=some q):bb e=true:=by
 unfold xFn at h
 obtain ⟨q,h,_⟩:=Option.bind_eq_some_iff.mp h
 exact bc h rfl
theorem k9 {e:Expr}{q:(Expr × Str × Pos) × List Expr × Pos}(h:mI e=some q):bb e=true:=by
 unfold mI at h
 obtain ⟨q,h,_⟩:=Option.bind_eq_some_iff.mp h
 exact bc h rfl
noncomputable def ST (C:Glo)(X:XM)(n:Nat)(c:Cx)(F:Fm)(me:ME):Prop:=
 ∀(e:Expr),aO c me e=true→∀(Q:Bool→MS→Prop) (m:MS),wpE (Call C) n me (cp Q) X m→WPt C F X (isTrue e F.env (eval e F.env)) Q m
section
variable {C:Glo}{F:Fm}{X:XM}{c:Cx}{n:Nat}
theorem wK (G:GOk C)(cx:au C c F n){me:ME}(ia:SV C X n c F me)(hpl:∀e,aO c me e=true→bb e=true):ST C X n c F me:=by
 intro e hc Q m h s ρ R
 refine wpAny_isTrue_value ((ia e hc _ m h).go R (.refl _ _ _) fun ρ₁ s₁ m₁ x v st t1 R₁ rx h₁=>?_) (mw (hpl e hc) _ _)
 obtain ⟨b,rfl,h₁⟩:=eO h₁
 cases rx;exact wpAny_truthy_bool ⟨_,_,t1,R₁,h₁⟩
theorem Bb (G:GOk C)(cx:au C c F n):∀{es:List ME},(∀a∈es,ST C X n c F a)→∀(xs:List Expr),bi c es xs=true→∀(Q:Bool→MS→Prop) (m:MS),oG (Call C) n es (cp Q) X m→WPt C F X (allTrue .And xs F.env) Q m
 | [],ih,xs,hc,Q,m,h=>h.elim
 | [e],ih,xs,hc,Q,m,h=>by
  cases xs with
  | nil=>exact ff hc
  | cons x xs=>
   replace hc:=aV hc
   cases xs with
   | nil=>
    intro s ρ R
    refine wpAny_allTrue_And_cons ((ih e (by exact List.mem_singleton.mpr rfl) x hc.1.2 _ m h).go R (.refl _ _ _) fun ρ₁ s₁ m₁ b st t1 R₁ h₁=>?_)
    cases b with
    | true=>exact wpAny_allTrue_And_nil ⟨_,_,t1,R₁,h₁⟩
    | false=>exact ⟨_,_,t1,R₁,h₁⟩
   | cons=>cases hc.2
 | e::e'::es,ih,xs,hc,Q,m,h=>by
  cases xs with
  | nil=>exact ff hc
  | cons x xs=>
   replace hc:=aV hc
   intro s ρ R
   refine wpAny_allTrue_And_cons ((ih e (by exact List.mem_cons_self ..) x hc.1.2 _ m h).go R (.refl _ _ _) fun ρ₁ s₁ m₁ b st t1 R₁ h₁=>?_)
   cases b with
   | true=>exact wpAny_mono (Bb G cx (fun a ha=>ih a (List.mem_cons_of_mem _ ha)) xs hc.2 Q m₁ h₁ s₁ ρ₁ R₁) (fun b s' ⟨ρ',m',a,b',c'⟩=>⟨ρ',m',t1.trans a,b',c'⟩) (Er.back t1)
   | false=>exact ⟨_,_,t1,R₁,h₁⟩
theorem EH (G:GOk C)(cx:au C c F n):∀{es:List ME},(∀a∈es,ST C X n c F a)→∀(xs:List Expr),bi c es xs=true→∀(Q:Bool→MS→Prop) (m:MS),yC (Call C) n es (cp Q) X m→WPt C F X (allTrue .Or xs F.env) Q m
 | [],ih,xs,hc,Q,m,h=>h.elim
 | [e],ih,xs,hc,Q,m,h=>by
  cases xs with
  | nil=>exact ff hc
  | cons x xs=>
   replace hc:=aV hc
   cases xs with
   | nil=>
    intro s ρ R
    refine wpAny_allTrue_Or_cons ((ih e (by exact List.mem_singleton.mpr rfl) x hc.1.2 _ m h).go R (.refl _ _ _) fun ρ₁ s₁ m₁ b st t1 R₁ h₁=>?_)
    cases b with
    | true=>exact ⟨_,_,t1,R₁,h₁⟩
    | false=>exact wpAny_allTrue_Or_nil ⟨_,_,t1,R₁,h₁⟩
   | cons=>cases hc.2
 | e::e'::es,ih,xs,hc,Q,m,h=>by
  cases xs with
  | nil=>exact ff hc
  | cons x xs=>
   replace hc:=aV hc
   intro s ρ R
   refine wpAny_allTrue_Or_cons ((ih e (by exact List.mem_cons_self ..) x hc.1.2 _ m h).go R (.refl _ _ _) fun ρ₁ s₁ m₁ b st t1 R₁ h₁=>?_)
   cases b with
   | false=>exact wpAny_mono (EH G cx (fun a ha=>ih a (List.mem_cons_of_mem _ ha)) xs hc.2 Q m₁ h₁ s₁ ρ₁ R₁) (fun b s' ⟨ρ',m',a,b',c'⟩=>⟨ρ',m',t1.trans a,b',c'⟩) (Er.back t1)
   | true=>exact ⟨_,_,t1,R₁,h₁⟩
theorem CN (G:GOk C)(cx:au C c F n){a:ME}(ia:ST C X n c F a):ST C X n c F (.not a):=by
 intro e hc Q m h
 replace hc:=ae hc
 obtain ⟨⟨o,x⟩,hx,hc⟩:=hc
 obtain ⟨p,rfl⟩:=nG hx
 try dsimp only at hc
 obtain ⟨hE1,hc⟩:=aj hc
 first | with_reducible replace hc:=eq_of_beq hc | skip
 obtain rfl:=eq_of_beq hE1
 intro s ρ R
 exact wpAny_isTrue_Not ((ia _ hc _ m h).go R (.refl _ _ _) fun ρ₁ s₁ m₁ b st t1 R₁ h₁=>⟨_,_,t1,R₁,h₁⟩)
theorem CO (G:GOk C)(cx:au C c F n){es:List ME}(ies:∀a∈es,ST C X n c F a):ST C X n c F (.and es):=by
 intro e hc Q m h
 replace hc:=ae hc
 obtain ⟨⟨o,xs⟩,hx,hc⟩:=hc
 obtain ⟨p,rfl⟩:=il hx
 try dsimp only at hc
 obtain ⟨hE2,hc⟩:=aj hc
 first | with_reducible replace hc:=eq_of_beq hc | skip
 obtain rfl:=eq_of_beq hE2
 intro s ρ R;exact wpAny_isTrue_BoolOp (Bb G cx ies _ hc _ m h s ρ R)
theorem EI (G:GOk C)(cx:au C c F n){es:List ME}(ies:∀a∈es,ST C X n c F a):ST C X n c F (.or es):=by
 intro e hc Q m h
 replace hc:=ae hc
 obtain ⟨⟨o,xs⟩,hx,hc⟩:=hc
 obtain ⟨p,rfl⟩:=il hx
 try dsimp only at hc
 obtain ⟨hE3,hc⟩:=aj hc
 first | with_reducible replace hc:=eq_of_beq hc | skip
 obtain rfl:=eq_of_beq hE3
 intro s ρ R;exact wpAny_isTrue_BoolOp (EH G cx ies _ hc _ m h s ρ R)
theorem CP (G:GOk C)(cx:au C c F n){op:Cmp}{a b:ME}(ia:SV C X n c F a)(ib:SV C X n c F b):ST C X n c F (.cmp op a b):=by
 intro e hc Q m h
 replace hc:=ae hc
 obtain ⟨⟨l,os,rs⟩,hxx,hc⟩:=hc
 replace hc:=ae hc
 obtain ⟨o,ho,hc⟩:=hc
 replace hc:=ae hc
 obtain ⟨r,hr,hc⟩:=hc
 cases bE ho
 cases bE hr
 obtain ⟨p,rfl⟩:=gh hxx
 try dsimp only at hc
 obtain ⟨hA,hb⟩:=aj hc
 first | with_reducible replace hb:=eq_of_beq hb | skip
 obtain ⟨hA,ha⟩:=aj hA
 first | with_reducible replace ha:=eq_of_beq ha | skip
 obtain ⟨hE4,hx⟩:=aj hA
 first | with_reducible replace hx:=eq_of_beq hx | skip
 obtain rfl:=eq_of_beq hE4
 intro s ρ R
 exact wpAny_isTrue_Compare1 (mO G cx ia ib ha hb R h fun b ρ' m' s' st R' hq=>wpAny_truthy_bool ⟨_,_,st,R',hq⟩) (dZ hx _)
theorem CQ (G:GOk C)(cx:au C c F n){p:Bool}{a:ME}(ia:SV C X n c F a):ST C X n c F (.isN p a):=by
 intro e hc Q m h
 replace hc:=ae hc
 obtain ⟨⟨l,os,rs⟩,hxx,hc⟩:=hc
 replace hc:=ae hc
 obtain ⟨o,ho,hc⟩:=hc
 replace hc:=ae hc
 obtain ⟨r,hr,hc⟩:=hc
 cases bE ho
 cases bE hr
 obtain ⟨p2,rfl⟩:=gh hxx
 try dsimp only at hc
 obtain ⟨hA,ha⟩:=aj hc
 first | with_reducible replace ha:=eq_of_beq ha | skip
 obtain ⟨hE5,hn⟩:=aj hA
 first | with_reducible replace hn:=eq_of_beq hn | skip
 obtain rfl:=eq_of_beq hE5
 obtain ⟨_,_,rfl⟩:=jh hn
 intro s ρ R
 exact wpAny_isTrue_Compare1 (oW G cx ia ha R h fun b ρ' m' s' st R' hq=>wpAny_truthy_bool ⟨_,_,st,R',hq⟩) rfl
theorem ba {α:Type}{o:Option α}{f:α→Bool}(h:ak o f=true):∃a,o=some a:=let ⟨a,h,_⟩:=ae h;⟨a,h⟩
theorem CR {v:MV}:∀e,aO c (.cst v) e=true→bb e=true:=fun e hc=>by
 obtain ⟨_,hx⟩:=ba hc
 exact bc hx rfl
theorem CS {i:Nat}:∀e,aO c (.var i) e=true→bb e=true:=fun e hc=>by
 obtain ⟨_,hx⟩:=ba hc
 exact bc hx rfl
theorem zC {g:Nat}{v:MV}:∀e,aO c (.glob g v) e=true→bb e=true:=fun e hc=>by
 obtain ⟨_,hx⟩:=ba hc
 exact bc hx rfl
theorem CT {op:Op}{a b:ME}:∀e,aO c (.bin op a b) e=true→bb e=true:=fun e hc=>by
 obtain ⟨_,hx⟩:=ba hc
 exact bc hx rfl
theorem CU {o i:ME}:∀e,aO c (.idx o i) e=true→bb e=true:=fun e hc=>by
 obtain ⟨_,hx⟩:=ba hc
 exact bc hx rfl
theorem EJ {o:ME}{lo hi:Option ME}:∀e,aO c (.sl o lo hi) e=true→bb e=true:=fun e hc=>by
 obtain ⟨_,hx⟩:=ba hc
 exact bc hx rfl
theorem zD {es:List ME}:∀e,aO c (.list es) e=true→bb e=true:=fun e hc=>by
 obtain ⟨_,hx⟩:=ba hc
 exact bc hx rfl
theorem CV {es:List ME}:∀e,aO c (.tup es) e=true→bb e=true:=fun e hc=>by
 obtain ⟨_,hx⟩:=ba hc
 exact bc hx rfl
theorem wL:∀e,aO c (.dict0) e=true→bb e=true:=fun e hc=>by
 obtain ⟨_,hx⟩:=ba hc
 exact bc hx rfl
theorem zE {elt:ME}{t:List Nat}{many:Bool}{k:IK}{src ifs:List ME}:∀e,aO c (.comp elt t many k src ifs) e=true→bb e=true:=fun e hc=>by
 obtain ⟨_,hx⟩:=ba hc
 exact bc hx rfl
theorem zF {f:Nat}{args:List ME}:∀e,aO c (.call f args) e=true→bb e=true:=fun e hc=>by
 obtain ⟨_,hx⟩:=ba hc
 exact fH hx
theorem CW {a:ME}{ts:List TS}:∀e,aO c (.isi a ts) e=true→bb e=true:=fun e hc=>by
 obtain ⟨_,hx⟩:=ba hc
 exact fH hx
theorem CX {k:Me}{o:ME}{args:List ME}:∀e,aO c (.mth k o args) e=true→bb e=true:=fun e hc=>by
 obtain ⟨_,hx⟩:=ba hc
 exact k9 hx
theorem zG {k f:Nat}{x:List Nat}{o:ME}{args:List ME}:∀e,aO c (.umth k f x o args) e=true→bb e=true:=fun e hc=>by
 obtain ⟨_,hx⟩:=ba hc
 exact k9 hx
theorem CY {k f:Nat}{args:List ME}:∀e,aO c (.new k f args) e=true→bb e=true:=fun e hc=>by
 obtain ⟨_,hx⟩:=ba hc
 exact fH hx
theorem zH {k:Nat}{o:ME}{x:List Nat}:∀e,aO c (.attr k o x) e=true→bb e=true:=fun e hc=>by
 obtain ⟨_,hx⟩:=ba hc
 exact bc hx rfl
theorem CZ {b:Bi}{args:List ME}:∀e,aO c (.blt b args) e=true→bb e=true:=fun e hc=>by
 replace hc:(if y4 b=true then _ else _)=true:=hc
 split at hc
 ·obtain ⟨_,hx⟩:=ba hc
  unfold xSS at hx
  obtain ⟨_,hx,_⟩:=Option.bind_eq_some_iff.mp hx
  exact fH hx
 ·obtain ⟨_,hx⟩:=ba hc
  exact fH hx
theorem C0 {a:ME}:∀e,aO c (.neg a) e=true→bb e=true:=fun e hc=>by
 replace hc:=ae hc
 obtain ⟨⟨o,x⟩,hx,hc⟩:=hc
 obtain ⟨p,rfl⟩:=nG hx
 try dsimp only at hc
 obtain ⟨hE6,_⟩:=aj hc
 obtain rfl:=eq_of_beq hE6
 rfl
end
end Internal
end
section
namespace Internal
open PySem PyProof.Rows
section
variable {M:Model}{A:Around}{E:Value→Shared→Prop}{s:Shared}{env:Env}
theorem Bc {vs:List Value}{t:Sem Value}{Q:Value→Shared→Prop}(h:wpAny M A t Q E s):wpAny M A (operate vs t) Q E s:=fun Γ p hΓ=>by
 rw [Sem.wp_operate];exact h Γ p hΓ
theorem o9 {l r r':Expr}{o o':CmpOp}{pos:Pos}{Q:Value→Shared→Prop}(hm':behindInMarks o' r'=false)
  (h:wpAny M A (eval l env) (fun a s₁=>wpAny M A (eval r env) (fun b s₂=>wpAny M A (compareOp o a b) (fun c s₃=>wpAny M A (truthy c) (fun t s₄=>
   match t with
   | true=>wpAny M A (eval r' env) (fun d s₅=>wpAny M A (compareOp o' b d) Q E s₅) E s₄
   | false=>Q c s₄) E s₃) E s₂) E s₁) E s):wpAny M A (eval (.Compare l [o,o'] [r,r'] pos) env) Q E s:=by
 show wpAny M A (eval l env >>= fun a=>compareChain pos a [o,o'] [eval r env,markedBehindIn o' r' (eval r' env)]) Q E s
 rw [markedBehindIn_of_false hm']
 refine wpAny_bind (wpAny_mono h (fun a s₁ h₁=>?_) fun _ _ x=>x)
 show wpAny M A (do
  let rv ←holding [a] (eval r env)
  standAt pos
  let c ←holding [a,rv] (compareOp o a rv)
  release [a,rv] [c]
  if ←holding [c,rv] (truthy c) then compareChain pos rv [o'] [eval r' env] else pure c) Q E s₁
 refine wpAny_bind (wpAny_holding (wpAny_mono h₁ (fun b s₂ h₂=>?_) fun _ _ x=>x))
 refine wpAny_bind (wpAny_standAt (wpAny_bind (wpAny_holding (wpAny_mono h₂ (fun c s₃ h₃=>?_) fun _ _ x=>x))))
 refine wpAny_bind (wpAny_release (wpAny_bind (wpAny_holding (wpAny_mono h₃ (fun t s₄ h₄=>?_) fun _ _ x=>x))))
 cases t with
 | false=>exact wpAny_pure h₄
 | true=>
  show wpAny M A (do
   let rv ←holding [b] (eval r' env)
   standAt pos
   operate [b,rv] (compareOp o' b rv)) Q E s₄
  exact wpAny_bind (wpAny_holding (wpAny_mono h₄ (fun d s₅ h₅=>wpAny_bind (wpAny_standAt (Bc h₅))) fun _ _ x=>x))
theorem wM {l r r':Expr}{o o':CmpOp}{pos:Pos}{whole:Sem Value}{Q:Bool→Shared→Prop}(hm':behindInMarks o' r'=false)
  (h:wpAny M A (eval l env) (fun a s₁=>wpAny M A (eval r env) (fun b s₂=>wpAny M A (compareOp o a b) (fun c s₃=>wpAny M A (truthy c) (fun t s₄=>
   match t with
   | true=>wpAny M A (eval r' env) (fun d s₅=>wpAny M A (compareOp o' b d) (fun c s₆=>wpAny M A (truthy c) Q E s₆) E s₅) E s₄
   | false=>Q false s₄) E s₃) E s₂) E s₁) E s):wpAny M A (isTrue (.Compare l [o,o'] [r,r'] pos) env whole) Q E s:=by
 show wpAny M A (eval l env >>= fun a=>testChain pos a [o,o'] [eval r env,markedBehindIn o' r' (eval r' env)]) Q E s
 rw [markedBehindIn_of_false hm']
 refine wpAny_bind (wpAny_mono h (fun a s₁ h₁=>?_) fun _ _ x=>x)
 show wpAny M A (do
  let rv ←holding [a] (eval r env)
  standAt pos
  let c ←holding [a,rv] (compareOp o a rv)
  release [a,rv] [c]
  if ←holding [c,rv] (truthy c) then testChain pos rv [o'] [eval r' env] else pure false) Q E s₁
 refine wpAny_bind (wpAny_holding (wpAny_mono h₁ (fun b s₂ h₂=>?_) fun _ _ x=>x))
 refine wpAny_bind (wpAny_standAt (wpAny_bind (wpAny_holding (wpAny_mono h₂ (fun c s₃ h₃=>?_) fun _ _ x=>x))))
 refine wpAny_bind (wpAny_release (wpAny_bind (wpAny_holding (wpAny_mono h₃ (fun t s₄ h₄=>?_) fun _ _ x=>x))))
 cases t with
 | false=>exact wpAny_pure h₄
 | true=>
  show wpAny M A (do
   let rv ←holding [b] (eval r' env)
   standAt pos
   let c ←operate [b,rv] (compareOp o' b rv)
   holding [c] (truthy c)) Q E s₄
  exact wpAny_bind (wpAny_holding (wpAny_mono h₄ (fun d s₅ h₅=>wpAny_bind (wpAny_standAt (wpAny_bind (Bc (wpAny_mono h₅ (fun c s₆ h₆=>wpAny_holding h₆) fun _ _ x=>x))))) fun _ _ x=>x))
end
section
variable {C:Glo}{F:Fm}{X:XM}{c:Cx}{n:Nat}
theorem pb {op op':Cmp}{a b d:ME}{e:Expr}(hc:aO c (.cmp2 op op' a b d) e=true):∃l r r' p,e=.Compare l [gO op,gO op'] [r,r'] p∧okX r'=true∧aO c a l=true∧aO c b r=true∧aO c d r'=true:=by
 replace hc:=ae hc
 obtain ⟨⟨l,os,rs⟩,hxx,hc⟩:=hc
 replace hc:=ae hc
 obtain ⟨⟨o,o'⟩,ho,hc⟩:=hc
 replace hc:=ae hc
 obtain ⟨⟨r,r'⟩,hr,hc⟩:=hc
 cases nE ho
 cases nE hr
 obtain ⟨p,rfl⟩:=gh hxx
 simp only [Bool.and_eq_true,beq_iff_eq] at hc
 obtain ⟨⟨⟨⟨⟨⟨rfl,rfl⟩,hx⟩,hx'⟩,ha⟩,hb⟩,hd⟩:=hc
 exact ⟨l,r,r',p,rfl,hx',ha,hb,hd⟩
theorem lg (G:GOk C)(cx:au C c F n){op op':Cmp}{a b d:ME}(ia:SV C X n c F a)(ib:SV C X n c F b)(id':SV C X n c F d){l r r':Expr}(ha:aO c a l=true)(hb:aO c b r=true)(hd:aO c d r'=true){P:Bool→MS→Prop}{m:MS}{s:Shared}{ρ:List Addr}(R:Rel C F ρ m s)
  (h:wpE (Call C) n a (fun x m=>wpE (Call C) n b (fun y m=>ij op x y (fun t m=>match t with
   | true=>wpE (Call C) n d (fun z m=>ij op' y z P m) X m
   | false=>P false m) m) X m) X m) {Q Q':Value→Shared→Prop} (k:∀b ρ' m' s',aq F.W ρ s ρ' s'→Rel C F ρ' m' s'→P b m'→Q (.bool b) s') (k':∀ρ' m' s',aq F.W ρ s ρ' s'→Rel C F ρ' m' s'→P false m'→Q' (.bool false) s') :
  wpAny (mod C) F.A (eval l F.env) (fun v s₁=>wpAny (mod C) F.A (eval r F.env) (fun w s₂=>wpAny (mod C) F.A (compareOp (gO op) v w) (fun q s₃=>wpAny (mod C) F.A (truthy q) (fun t s₄=>match t with
   | true=>wpAny (mod C) F.A (eval r' F.env) (fun u s₅=>wpAny (mod C) F.A (compareOp (gO op') w u) Q (Er C F X ρ s) s₅) (Er C F X ρ s) s₄
   | false=>Q' q s₄) (Er C F X ρ s) s₃) (Er C F X ρ s) s₂) (Er C F X ρ s) s₁) (Er C F X ρ s) s:=by
 refine (ia l ha _ m h).go R (.refl _ _ _) fun ρ₁ s₁ m₁ x v st t1 R₁ rx h₁=>?_
 refine (ib r hb _ m₁ h₁).go R₁ t1 fun ρ₂ s₂ m₂ y w st' t2 R₂ ry h₂=>?_
 refine nQ G cx cx.u R₂ t2 (rx.step st') ry h₂ fun t ρ₃ m₃ s₃ st3 t3 R₃ hq=>wpAny_truthy_bool ?_
 cases t with
 | false=>exact k' ρ₃ m₃ s₃ t3 R₃ hq
 | true=>
  refine (id' r' hd _ m₃ hq).go R₃ t3 fun ρ₄ s₄ m₄ z u st4 t4 R₄ rz h₄=>?_
  exact nQ G cx cx.u R₄ t4 ((ry.step st3).step st4) rz h₄ fun b ρ' m' s' _ st R' hq=>k b ρ' m' s' st R' hq
theorem zI (G:GOk C)(cx:au C c F n){op op':Cmp}{a b d:ME}(ia:SV C X n c F a)(ib:SV C X n c F b)(id':SV C X n c F d):SV C X n c F (.cmp2 op op' a b d):=by
 intro e hc Q m h
 obtain ⟨l,r,r',p,rfl,hx',ha,hb,hd⟩:=pb hc
 intro s ρ R
 exact o9 (dZ hx' _) (lg G cx ia ib id' (P:=fun b m=>Q (.bool b) m) ha hb hd R h (fun b ρ' m' s' st R' hq=>⟨_,_,_,st,R',.bool b,hq⟩) fun ρ' m' s' st R' hq=>⟨_,_,_,st,R',.bool _,hq⟩)
theorem zJ (G:GOk C)(cx:au C c F n){op op':Cmp}{a b d:ME}(ia:SV C X n c F a)(ib:SV C X n c F b)(id':SV C X n c F d):ST C X n c F (.cmp2 op op' a b d):=by
 intro e hc Q m h
 obtain ⟨l,r,r',p,rfl,hx',ha,hb,hd⟩:=pb hc
 intro s ρ R
 exact wM (dZ hx' _) (lg G cx ia ib id' (P:=Q) (Q':=fun _ s'=>Cf C F ρ s Q false s') ha hb hd R h (fun b ρ' m' s' st R' hq=>wpAny_truthy_bool ⟨_,_,st,R',hq⟩) fun ρ' m' s' st R' hq=>⟨_,_,st,R',hq⟩)
end
end Internal
end
section
namespace Internal
open PySem PyProof.Rows
section
variable {C:Glo}{F:Fm}{X:XM}{c:Cx}{n:Nat}{ρ ρ' ρ₀:List Addr}{m:MS}{s s' s₀:Shared}{A:Around}{E:Value→Shared→Prop}
theorem mX {i:Nat}{t:List Nat}{xs:List Expr}(h:dv c (i::t) xs=true):∃x p r,xs=.Name x p::r∧c.nm i=some x∧mK c x=true∧dv c t r=true:=by
 cases xs with
 | nil=>exact ff h
 | cons e r=>
  obtain ⟨h1,h2⟩:=Bool.and_eq_true_iff.mp h
  replace h1:=ae h1
  obtain ⟨x,hx,h1⟩:=h1
  obtain ⟨p,rfl⟩:=bN hx
  simp only [Bool.and_eq_true,beq_iff_eq] at h1
  exact ⟨x,p,r,rfl,h1.1,h1.2,h2⟩
theorem pc (cx:au C c F n){Q:MS→Prop}:∀(t:List Nat) (elts:List Expr) (xs:List MV) (vs:List Value) (m:MS) (s:Shared),dv c t elts=true→t.length=xs.length→aD C ρ s.heap xs vs→Rel C F ρ m s→Q (nw t xs m)→
  wpAny (mod C) A (assignInOrder ((assignEach elts F.env).map (·.2)) vs) (fun _ s'=>∃m',aq F.W ρ s ρ s'∧Rel C F ρ m' s'∧Q m') E s
 | [],elts,xs,vs,m,s,h,hl,hr,R,hq=>by
  cases elts with
  | nil=>
   cases hr with
   | nil=>exact wpAny_pure ⟨m,.refl _ _ _,R,hq⟩
   | cons=>cases hl
  | cons=>exact ff h
 | i::t,elts,xs,vs,m,s,h,hl,hr,R,hq=>by
  obtain ⟨x,p,r,rfl,h1,h2,h3⟩:=mX h
  cases hr with
  | nil=>cases hl
  | @cons x' v' xs' vs' ra rl=>
   refine wpAny_bind (wpAny_holding ?_)
   refine PyProof.Rows.assign_Name (d4 cx R h1 (fD h2) ra fun s₁ st R₁ _=>?_)
   exact wpAny_mono (pc cx t r xs' vs' _ s₁ h3 (Nat.succ.inj hl) (rl.step st) R₁ hq) (fun _ s₂ ⟨m',st2,R₂,q⟩=>⟨m',st.trans st2,R₂,q⟩) fun _ _ x=>x
theorem fJ (env:Env):∀(t:List Nat) (elts:List Expr),dv c t elts=true→(assignEach elts env).length=t.length∧(assignEach elts env).findIdx? (·.1)=none
 | [],elts,h=>by
  cases elts with
  | nil=>exact ⟨rfl,rfl⟩
  | cons=>exact ff h
 | i::t,elts,h=>by
  obtain ⟨x,p,r,rfl,_,_,h3⟩:=mX h
  obtain ⟨h1,h2⟩:=fJ env t r h3
  refine ⟨congrArg (·+1) h1,?_⟩
  show List.findIdx? (·.1) ((false,_)::assignEach r env)=none
  rw [List.findIdx?_cons,h2];rfl
theorem jl (cx:au C c F n){Q:MS→Prop}{t:List Nat}{many:Bool}{e:Expr}(h:mq c t many e=true){x:MV}{v:Value}(hr:Rep C ρ s.heap x v)(R:Rel C F ρ m s)(hq:asg t many x Q m)(hA:many=true→A.handled=none) :
  wpAny (mod C) A (assign e F.env v) (fun _ s'=>∃m',aq F.W ρ s ρ s'∧Rel C F ρ m' s'∧Q m') E s:=by
 cases many with
 | false=>
  obtain ⟨i,y,p,rfl,rfl,h1,h2⟩:=kO h
  exact PyProof.Rows.assign_Name (d4 cx R h1 (fD h2) hr fun s₁ st R₁ _=>⟨_,st,R₁,hq⟩)
 | true=>
  replace h:=gu h
  obtain ⟨elts,k,p,rfl,h⟩:=h
  cases x with
  | tup xs=>
   have hq:t.length=xs.length∧Q (nw t xs m):=hq
   cases hr with | @tup a k _ items g rl z=>
   obtain ⟨e1,e2⟩:=fJ F.env _ _ h
   refine wpAny_assign_Tuple (hA rfl) ⟨_,g,rfl,_,rfl⟩ (by rw [e1,hq.1,List.size_toArray,rl.length]) e2 fun h' he=>?_
   have hk:∀b o,s.heap.get? b=some o→h'.get? b=some o:=fun b o eb=>he b o (fun q=>by rw [q,bk (Nat.le_refl _)] at eb;exact aw eb) eb
   obtain ⟨R',st⟩:=R.grow (s':={ s with heap:=h' }) cx.fm hk rfl rfl
   exact wpAny_mono (pc cx _ _ _ _ m { s with heap:=h' } h hq.1 (rl.step st) R' hq.2) (fun _ s₂ ⟨m',st2,R₂,q⟩=>⟨m',st.trans st2,R₂,q⟩) fun _ _ x=>x
  | _=>exact (show False from hq).elim
end
end Internal
end
section
namespace Internal
open PySem PyProof.Rows
section
variable {W W' S:List Addr}{ρ ρ' ρ₂:List Addr}{s s' s₂:Shared}
theorem aq.mono (hW:∀a∈W,a∈W')(x:aq W ρ s ρ' s'):aq W' ρ s ρ' s':=
 ⟨x.pre,x.new,fun a o e h1 h2=>x.keep a o e h1 fun q=>h2 (hW a q),x.solid,x.alive,x.gens,x.os⟩
theorem aq.ofSide (sd:fE S s s')(hS:∀a∈S,a∈W)(h1:∀a∈S,Shp s.heap a)(h2:∀a∈S,Shp s'.heap a):aq W ρ s ρ s':=
 ⟨List.prefix_refl _,fun _ h=>.inl h,fun a o e _ h=>.inl (sd.1 a o (fun q=>h (hS a q)) e),dw h1 sd,fun a o e=>by
  by_cases q:a∈S
  ·obtain ⟨o',e',_⟩:=h2 a q;exact ⟨o',e'⟩
  ·exact ⟨o,sd.1 a o q e⟩,sd.2.1,sd.2.2⟩
theorem aq.behind (x:aq W ρ s ρ₂ s₂)(y:aq W' ρ₂ s₂ ρ' s')(h:∀a∈W',s.heap.get? a=none):aq W ρ s ρ' s' where
 pre:=x.pre.trans y.pre
 new:=fun a h=>(y.new a h).elim (fun h=>x.new a h) fun h=>.inr (cN x h)
 keep:=fun a o e h1 h2=>by
  have hw:a∉W':=fun q=>by rw [h a q] at e;cases e
  have h1':a∉ρ₂:=fun h=>(x.new a h).elim h1 fun h=>by rw [h] at e;cases e
  rcases x.keep a o e h1 h2 with e1 | ⟨hc,sl,e1⟩
  ·exact y.keep a o e1 h1' hw
  ·rcases y.keep a _ e1 h1' hw with e2 | ⟨_,sl2,e2⟩
   ·exact .inr ⟨hc,sl,e2⟩
   ·exact .inr ⟨hc,sl2,e2⟩
 solid:=fun a o e h=>y.solid a o (x.solid a o e h) h
 alive:=fun a o e=>let ⟨o',e'⟩:=x.alive a o e;y.alive a o' e'
 gens:=y.gens.trans x.gens
 os:=y.os.trans x.os
end
noncomputable def dN (F:Fm)(sc:Scope)(cl:List (Str × Addr))(t:List Nat)(tn:List Str)(L:Addr):Fm where
 env:=compEnvC sc cl L F.env
 A:=F.A
 W:=[L]
 V:=F.W++F.V
 lay:=fun i=>match (t.zip tn).lookup i with
  | some x=>some (.nm L x)
  | none=>F.lay i
 frs:=F.frs
structure lh (c:Cx)(sc:Scope)(t:List Nat)(tn:List Str):Prop where
 kind:sc.kind=.function
 cell:∀p∈sc.names,p.2≠.cell
 loc:∀p∈sc.names,p.2=.local→sc.names.lookup p.1=some .local
 free:∀p∈sc.names,p.2=.free→(∃i,c.nm i=some p.1)∧c.kind p.1≠some .local∧cdc p.1=false
 len:t.length=tn.length
 nodup:t.Nodup
 nodup':tn.Nodup
 fr:∀i∈t,c.fr i=true
 tn:∀x∈tn,sc.names.lookup x=some .local
theorem tJ {c:Cx}{sc:Scope}{t:List Nat}{tn:List Str}(h:nM c sc t tn=true):lh c sc t tn:=by
 simp only [nM,Bool.and_eq_true,beq_iff_eq,decide_eq_true_eq,List.all_eq_true] at h
 obtain ⟨⟨⟨⟨⟨⟨h1,h2⟩,h3⟩,h4⟩,h5⟩,h6⟩,h7⟩:=h
 refine ⟨h1,fun p hp=>?_,fun p hp e=>?_,fun p hp e=>?_,h3,h4,h5,h6,h7⟩
 ·have:=(h2 p hp).1.1;simpa using this
 ·have:=(h2 p hp).1.2
  rw [e] at this;simpa using this
 ·have:=(h2 p hp).2
  rw [e] at this
  simp only [bne_self_eq_false,Bool.false_or,vx,Bool.and_eq_true,List.any_eq_true,beq_iff_eq,bne_iff_ne,Bool.not_eq_true'] at this
  obtain ⟨⟨⟨i,_,e1⟩,e2⟩,e3⟩:=this
  exact ⟨⟨i,e1⟩,e2,e3⟩
set_option tactic.hygienic true in
theorem qz {α β:Type} [BEq α] [LawfulBEq α]:∀{l:List (α × β)}{a:α}{b:β},l.lookup a=some b→(a,b)∈l
 | [],_,_,h=>by cases h
 | (x,y)::r,a,b,h=>by
  rw [List.lookup_cons] at h
  split at h
  ·rename_i q;cases h;have:a=x:=by simpa using q
   subst this;exact List.mem_cons_self ..
  ·exact List.mem_cons_of_mem _ (qz h)
theorem iA {t:List Nat}{tn:List Str}{i:Nat}{x:Str}(h:(t.zip tn).lookup i=some x):i∈t∧x∈tn∧∃k:Nat,t[k]?=some i∧tn[k]?=some x:=by
 have hm:=qz h
 refine ⟨(List.of_mem_zip hm).1,(List.of_mem_zip hm).2,?_⟩
 obtain ⟨k,hk⟩:=List.getElem?_of_mem hm
 exact ⟨k,(List.getElem?_zip_eq_some.mp hk).1,(List.getElem?_zip_eq_some.mp hk).2⟩
theorem zK {t:List Nat}{tn:List Str}(hn:tn.Nodup){i j:Nat}{x:Str}(h1:(t.zip tn).lookup i=some x)(h2:(t.zip tn).lookup j=some x):i=j:=by
 obtain ⟨_,_,k,a1,a2⟩:=iA h1
 obtain ⟨_,_,l,b1,b2⟩:=iA h2
 have q1:=List.getElem?_eq_some_iff.mp a2
 have q2:=List.getElem?_eq_some_iff.mp b2
 have:k=l:=(List.getElem_inj hn).mp (q1.2.trans q2.2.symm)
 subst this
 rw [a1] at b1;cases b1;rfl
theorem eP {kind:Str→Option NameKind}:∀{names:List (Str × NameKind)}{x:Str}{k:NameKind},names.lookup x=some k→(kK kind names).lookup x=some (if (k==.free&&kind x==some .cell) then .cell else k)
 | [],_,_,h=>by cases h
 | (y,k')::r,x,k,h=>by
  have ih:=@eP kind r x k
  show List.lookup x ((if (k'==.free&&kind y==some .cell) then (y,NameKind.cell) else (y,k'))::kK kind r)=_
  by_cases e:x=y
  ·subst e
   simp only [List.lookup_cons,beq_self_eq_true] at h
   obtain rfl:k'=k:=Option.some.inj h
   by_cases q:(k'==NameKind.free&&kind x==some .cell)=true
   ·rw [if_pos q,if_pos q];simp [List.lookup_cons]
   ·rw [if_neg q,if_neg q];simp [List.lookup_cons]
  ·have e':(x==y)=false:=by simpa using e
   simp only [List.lookup_cons,e'] at h
   by_cases q:(k'==NameKind.free&&kind y==some .cell)=true
   ·rw [if_pos q];simp only [List.lookup_cons,e'];exact ih h
   ·rw [if_neg q];simp only [List.lookup_cons,e'];exact ih h
theorem li {env:Env}{kind:Str→Option NameKind}(h:∀x,env.kindOf x=kind x)(hk:env.scope.kind=.function)(sc:Scope):(relabel sc env).names=kK kind sc.names:=by
 unfold relabel kK
 simp only [hk,h,beq_self_eq_true,Bool.and_true]
set_option tactic.hygienic true in
theorem eR {env:Env}{f:Str × NameKind→List (Str × Addr)→Sem (ForInStep (List (Str × Addr)))}(h1:∀x a acc,env.cells.lookup x=some a→f (x,.free) acc=pure (.yield ((x,a)::acc)))
  (h2:∀x k acc,k≠.free→f (x,k) acc=pure (.yield acc)):∀(names:List (Str × NameKind)) (acc:List (Str × Addr)),(∀p∈names,p.2=.free→∃a,env.cells.lookup p.1=some a)→(∀y b,acc.lookup y=some b→env.cells.lookup y=some b)→
   ∃cl,forIn names acc f=pure cl∧(∀y b,cl.lookup y=some b→env.cells.lookup y=some b)∧(∀y,(acc.lookup y).isSome→(cl.lookup y).isSome)∧∀y,(y,NameKind.free)∈names→(cl.lookup y).isSome
 | [],acc,_,ha=>⟨acc,rfl,ha,fun _ h=>h,fun _ h=>by cases h⟩
 | (x,k)::r,acc,hn,ha=>by
  have hr:∀p∈r,p.2=.free→∃a,env.cells.lookup p.1=some a:=fun p hp=>hn p (List.mem_cons_of_mem _ hp)
  by_cases hk:k=.free
  ·subst hk
   obtain ⟨a,e⟩:=hn (x,.free) (List.mem_cons_self ..) rfl
   have ha':∀y b,((x,a)::acc).lookup y=some b→env.cells.lookup y=some b:=fun y b q=>by
    simp only [List.lookup_cons] at q
    split at q
    ·rename_i q';cases q;have:y=x:=by simpa using q'
     subst this;exact e
    ·exact ha y b q
   obtain ⟨cl,c1,c2,c3,c4⟩:=eR h1 h2 r ((x,a)::acc) hr ha'
   have hx:(((x,a)::acc).lookup x).isSome:=by simp [List.lookup_cons]
   refine ⟨cl,?_,c2,fun y hy=>c3 y ?_,fun y hy=>?_⟩
   ·rw [List.forIn_cons,h1 x a acc e];exact c1
   ·simp only [List.lookup_cons];split
    ·rfl
    ·exact hy
   ·rcases List.mem_cons.mp hy with q | q
    ·cases q;exact c3 _ hx
    ·exact c4 y q
  ·obtain ⟨cl,c1,c2,c3,c4⟩:=eR h1 h2 r acc hr ha
   refine ⟨cl,?_,c2,c3,fun y hy=>?_⟩
   ·rw [List.forIn_cons,h2 x k acc hk];exact c1
   ·rcases List.mem_cons.mp hy with q | q
    ·cases q;exact absurd rfl hk
    ·exact c4 y q
theorem qA {env:Env}{sc:Scope}(h:∀p∈sc.names,p.2=.free→∃a,env.cells.lookup p.1=some a):∃cl,closureFor sc env=pure cl∧∀x a,(x,NameKind.free)∈sc.names→env.cells.lookup x=some a→cl.lookup x=some a:=by
 obtain ⟨cl,c1,c2,_,c4⟩:=eR (env:=env) (f:=fun p cs=>if p.2==.free then do let r ←cellOf env p.1;pure (ForInStep.yield ((p.1,r)::cs)) else pure (ForInStep.yield cs))
  (fun x a acc e=>by simp [cellOf,e]) (fun x k acc hk=>by simp [hk]) sc.names [] h (fun y b q=>by cases q)
 refine ⟨cl,?_,fun x a hx e=>?_⟩
 ·unfold closureFor
  refine Eq.trans ?_ (congrArg (· >>= pure) c1)
  rfl
 ·obtain ⟨b,hb⟩:=Option.isSome_iff_exists.mp (c4 x hx)
  have:=c2 x b hb
  rw [e] at this;cases this;exact hb
section
variable {C:Glo}{F:Fm}{X:XM}{c:Cx}{n:Nat}{ρ ρ' ρ₀:List Addr}{m:MS}{s s' s₀:Shared}{sc:Scope}{cl:List (Str × Addr)}{t:List Nat}{tn:List Str}{L:Addr}
set_option tactic.hygienic true in
theorem wN (cx:au C c F n)(h:lh c sc t tn)(hL:L∉F.W++F.V):aU (dN F sc cl t tn L) where
 loc:=List.mem_singleton.mpr rfl
 lay:=fun i l e=>by
  simp only [dN] at e ⊢
  split at e
  ·cases e;exact List.mem_append_left _ (List.mem_singleton.mpr rfl)
  ·exact List.mem_append_right _ (cx.fm.lay i l e)
 inj:=fun i j l e1 e2=>by
  simp only [dN] at e1 e2
  split at e1
  ·rename_i x hx
   cases e1
   split at e2
   ·rename_i y hy;cases e2;exact zK h.nodup' hx hy
   ·exact absurd (cx.fm.lay j _ e2) hL
  ·split at e2
   ·rename_i y hy;cases e2;exact absurd (cx.fm.lay i _ e1) hL
   ·exact cx.fm.inj i j l e1 e2
 kind:=by show (relabel sc F.env).kind=.function;exact h.kind
 frs:=cx.fm.frs
theorem tK (cx:au C c F n)(h:lh c sc t tn):∀p∈sc.names,p.2=.free→∃a,F.env.cells.lookup p.1=some a:=fun p hp e=>by
 obtain ⟨⟨i,h1⟩,h2,_⟩:=h.free p hp e
 rcases cx.nm i _ h1 with ⟨q,_⟩ | ⟨a,_,q,_⟩
 ·rw [cx.kind] at q;exact absurd q h2
 ·exact ⟨a,q⟩
set_option tactic.hygienic true in
theorem wO (cx:au C c F n)(h:lh c sc t tn)(hL:L∉F.W++F.V)(hcl:∀x a,(x,NameKind.free)∈sc.names→F.env.cells.lookup x=some a→cl.lookup x=some a):au C (d5 c sc t tn) (dN F sc cl t tn L) n where
 fm:=wN cx h hL
 kind:=fun x=>by
  show (relabel sc F.env).names.lookup x=(kK c.kind sc.names).lookup x
  rw [li cx.kind cx.fm.kind]
 nm:=fun i x e=>by
  have hkk:∀x,(dN F sc cl t tn L).env.kindOf x=(kK c.kind sc.names).lookup x:=fun x=>by
   show (relabel sc F.env).names.lookup x=_
   rw [li cx.kind cx.fm.kind]
  simp only [d5] at e
  split at e
  ·rename_i y hy
   cases e
   refine .inl ⟨?_,?_⟩
   ·rw [hkk,eP (h.tn x (iA hy).2.1)];rfl
   ·simp only [dN,hy];rfl
  ·rename_i hy
   unfold AZ at e
   split at e
   ·rename_i y hy'
    split at e
    ·rename_i hf
     cases e
     have hf:sc.names.lookup x=some .free:=by simpa using hf
     have hm:=qz hf
     obtain ⟨_,k2,k3⟩:=h.free _ hm rfl
     rcases cx.nm i x hy' with ⟨q,_⟩ | ⟨a,q1,q2,q3⟩
     ·rw [cx.kind] at q;exact absurd q k2
     ·refine .inr ⟨a,?_,hcl x a hm q2,by simp only [dN,hy];exact q3⟩
      rw [hkk,eP hf]
      by_cases e:c.kind x=some .cell
      ·exact .inl (by simp [e])
      ·exact .inr ⟨by simp [e],k3⟩
    ·cases e
   ·cases e
 glob:=cx.glob
 meth:=cx.meth
 attr:=cx.attr
 hn:=cx.hn
 hf:=cx.hf
 units:=cx.units
 room:=cx.room
 inter:=by
  show interactive (compEnvC sc cl L F.env)=false
  unfold interactive
  show ((relabel sc F.env).kind==_&&_)=false
  rw [show (relabel sc F.env).kind=ScopeKind.function from h.kind];rfl
 wr:=fun i a _ e=>by cases e
 fr:=fun i e=>by
  simp only [d5,Bool.and_eq_true,Bool.not_eq_true'] at e
  simp only [dN]
  split
  ·rename_i x hx
   have:=(iA hx).1
   have e2:=e.2
   rw [List.contains_eq_mem] at e2
   simp [this] at e2
  ·exact cx.fr i e.1
set_option tactic.hygienic true in
theorem C1 (cx:au C c F n)(R:Rel C F ρ m s)(h:lh c sc t tn)(hk:∀a o,s.heap.get? a=some o→s'.heap.get? a=some o)(hg:s'.gens=s.gens)(hL:s.heap.get? L=none)(hns:∃f,s'.heap.Ns L f):Rel C (dN F sc cl t tn L) ρ m s' where
 hp:=R.hp.up (fun a o e _=>hk a o e) (fun a _ o e=>hk a o e) fun b o e=>hk b o (R.hp.base b o e)
 ns:=hns
 w:=fun a ha=>by
  have ha:a∈[L]++(F.W++F.V):=ha
  rcases List.mem_append.mp ha with q | q
  ·have:a=L:=by simpa using q
   subst this
   refine ⟨fun q=>?_,bM R.hp hL,?_⟩
   ·obtain ⟨o,e⟩:=R.hp.there q;rw [hL] at e;cases e
   ·obtain ⟨f,o,es,ep,e1,e2,_⟩:=hns
    exact ⟨o,e1,.inl ⟨es,ep,e2⟩⟩
  ·obtain ⟨h1,h2,o,h3,h4⟩:=R.w a q
   exact ⟨h1,h2,o,hk a o h3,h4⟩
 vars:=fun i v e=>by
  obtain ⟨l,h1,h2⟩:=R.vars i v e
  refine ⟨l,?_,h2.up (fun a o e _=>hk a o e) (List.prefix_refl _) (fun o e=>⟨o,hk _ o e,rfl,rfl⟩)⟩
  simp only [dN]
  split
  ·rename_i x hx
   rw [cx.fr i (h.fr i (iA hx).1)] at h1;cases h1
  ·exact h1
 cells:=fun i a e=>by
  simp only [dN] at e
  split at e
  ·cases e
  ·obtain ⟨v,o,h1,h2⟩:=R.cells i a e
   exact ⟨v,o,hk a o h1,h2⟩
 out:=fun L hL=>by
  obtain ⟨h1,h2,o,h3,h4⟩:=R.out L hL
  exact ⟨h1,h2,o,hk L o h3,h4⟩
 gens:=hg.trans R.gens
end
end Internal
end
section
namespace Internal
open PySem PyProof.Rows
section
variable {C:Glo}{F:Fm}{X:XM}{c:Cx}{n:Nat}{ρ ρ' ρ₀:List Addr}{m:MS}{s s' s₀:Shared}{A:Around}
theorem qB {elt target iter:Expr}{ifs:List Expr}{scope:Scope}{pos:Pos}{it acc:Value}{env:Env}{R:Result→Shared→Prop}(I:Nat→Shared→Prop)
  (turn:∀k s,I k s→wpAny (mod C) A (pyNext it) (fun r s₁=>match r with
   | none=>R (.ok .next) s₁
   | some v=>wpAny (mod C) A (letOwnedTupleGo target it v) (fun _ s₂=>wpAny (mod C) A (assign target env v) (fun _ s₃=>
     wpAny (mod C) A (forIn ifs true fun c r=>if r=true then do let ok ←isTrue c env (eval c env);pure (ForInStep.yield ok) else pure (ForInStep.yield r)) (fun ok s₄=>
      match ok with
      | true=>wpAny (mod C) A (eval elt env) (fun x s₅=>wpAny (mod C) A (call (.builtin "list.append") [acc,x]) (fun _ s₆=>∃j,j<k∧I j s₆) (fun _ _=>False) s₅) (fun _ _=>False) s₄
      | false=>∃j,j<k∧I j s₄) (fun _ _=>False) s₃) (fun _ _=>False) s₂) (fun _ _=>False) s₁) (fun _ _=>False) s)
  (k:Nat) (h:I k s):codeAny (mod C) A (.compLoop (.ListComp elt [⟨target,iter,ifs,0⟩] scope pos) 0 it acc env) R s:=by
 refine codeAny_loop rfl I (fun k s hI=>?_) k h
 show wpAny _ A ((compTurn (.ListComp elt [⟨target,iter,ifs,0⟩] scope pos) 0 it acc env).onRaise (fun x=>do noteFrame x env;theTreesLotGoes x)) _ _ s
 refine wpAny_noted ?_
 rw [compTurn_list]
 refine wpAny_bind (wpAny_standAt (wpAny_bind (wpAny_mono (turn k s hI) (fun r s₁ h₁=>?_) fun _ _ h'=>h'.elim)))
 cases r with
 | none=>exact wpAny_pure h₁
 | some v=>
  refine wpAny_bind (wpAny_mono h₁ (fun _ s₂ h₂=>wpAny_bind (wpAny_mono h₂ (fun _ s₃ h₃=>wpAny_bind (wpAny_mono h₃ (fun ok s₄ h₄=>?_) fun _ _ h'=>h'.elim)) fun _ _ h'=>h'.elim)) fun _ _ h'=>h'.elim)
  cases ok with
  | false=>exact wpAny_pure ⟨rfl,h₄⟩
  | true=>exact wpAny_bind (wpAny_bind (wpAny_mono h₄ (fun x s₅ h₅=>wpAny_bind (wpAny_mono h₅ (fun _ s₆ h₆=>wpAny_pure (wpAny_pure ⟨rfl,h₆⟩)) fun _ _ h'=>h'.elim)) fun _ _ h'=>h'.elim))
theorem wQ (cx:au C c F n):∀{ifs:List ME},(∀a∈ifs,ST C X n c F a)→∀(xs:List Expr),bi c ifs xs=true→∀(Q:Bool→MS→Prop) (m:MS),kr (Call C) n ifs Q X m→
  WPt C F X (forIn xs true fun c r=>if r=true then do let ok ←isTrue c F.env (eval c F.env);pure (ForInStep.yield ok) else pure (ForInStep.yield r)) Q m
 | [],ih,xs,hc,Q,m,h=>by
  cases xs with
  | nil=>intro s ρ R;exact wpAny_pure ⟨_,_,.refl _ _ _,R,h⟩
  | cons=>exact ff hc
 | e::es,ih,xs,hc,Q,m,h=>by
  cases xs with
  | nil=>exact ff hc
  | cons x xs=>
   replace hc:=aV hc
   intro s ρ R
   rw [List.forIn_cons]
   refine wpAny_bind ?_
   show wpAny (mod C) F.A (do let ok ←isTrue x F.env (eval x F.env);pure (ForInStep.yield ok)) _ _ _
   refine wpAny_bind ((ih e (by exact List.mem_cons_self ..) x hc.1.2 _ m h).go R (.refl _ _ _) fun ρ₁ s₁ m₁ b st t1 R₁ h₁=>wpAny_pure ?_)
   show wpAny (mod C) F.A (forIn xs b fun c r=>if r=true then do let ok ←isTrue c F.env (eval c F.env);pure (ForInStep.yield ok) else pure (ForInStep.yield r)) _ _ _
   cases b with
   | true=>exact wpAny_mono (wQ cx (fun a ha=>ih a (List.mem_cons_of_mem _ ha)) xs hc.2 Q m₁ h₁ s₁ ρ₁ R₁) (fun b s' ⟨ρ',m',a,b',c'⟩=>⟨ρ',m',t1.trans a,b',c'⟩) (Er.back t1)
   | false=>
    have:∀(ys:List Expr) (P:Bool→Shared→Prop) (E:Value→Shared→Prop),P false s₁→wpAny (mod C) F.A (forIn ys false fun c r=>if r=true then do let ok ←isTrue c F.env (eval c F.env);pure (ForInStep.yield ok) else pure (ForInStep.yield r)) P E s₁:=by
     intro ys
     induction ys with
     | nil=>intro P E hp;exact wpAny_pure hp
     | cons y ys ihy=>intro P E hp;rw [List.forIn_cons];exact wpAny_bind (wpAny_pure (ihy P E hp))
    exact this xs _ _ ⟨_,_,t1,R₁,h₁⟩
termination_by structural ifs=>ifs
noncomputable def Let (C:Glo)(F:Fm)(L:Addr)(ρ₀:List Addr)(s₀:Shared)(ρ:List Addr)(s:Shared):Prop:=
 ∀ρ' m' s',aq F.W ρ s ρ' s'→Rel C F ρ' m' s'→(∃f,s'.heap.Ns L f)∧∀h',Heap.SameBut L s'.heap h'→Rel C F ρ' m' { s' with heap:=h' }∧aq F.W ρ₀ s₀ ρ' { s' with heap:=h' }∧aZ s'.heap h'
theorem C2 (cx:au C c F n){L:Addr}(st₀:aq F.W ρ₀ s₀ ρ s)(R₀:Rel C F ρ₀ m s₀)(h0:s₀.heap.get? L=none)(h1:L∉ρ)(h2:L∉F.W++F.V)(h3:∃f,s.heap.Ns L f):Let C F L ρ₀ s₀ ρ s:=by
 intro ρ' m' s' st R
 obtain ⟨f,hf⟩:=h3
 obtain ⟨o,es,ep,e1,e2,e3⟩:=id hf
 have hb:=bM R₀.hp h0
 have hL:L∉ρ':=fun q=>(st.new L q).elim h1 fun q=>by exact aX q e1
 have hd:∀o,s.heap.get? L=some o→∃o',s'.heap.get? L=some o'∧o'.data=o.data:=fun o e=>by
  rcases st.keep L o e h1 (fun q=>h2 (List.mem_append_left _ q)) with q | ⟨_,sl,q⟩
  ·exact ⟨_,q,rfl⟩
  ·exact ⟨_,q,rfl⟩
 have hf':s'.heap.Ns L f:=j6 hf hd
 refine ⟨⟨f,hf'⟩,fun h' hs=>?_⟩
 obtain ⟨o',g1,g2⟩:=hd o e1
 have hw:WOk s'.heap L:=⟨o',g1,.inl ⟨es,ep,g2.trans e2⟩⟩
 have hsol:aZ s'.heap h':=cK (fun b ob q e=>(hs.2 b q).trans e) (gN hw)
 have sd:fE [L] s' { s' with heap:=h' }:=⟨fun b ob hb e=>(hs.2 b (by exact fun q=>hb (List.mem_singleton.mpr q))).trans e,rfl,rfl⟩
 refine ⟨R.side0 cx.fm hsol (fun a ha=>?_) (fun L' hL' q=>?_) sd,(st₀.trans st).side sd (fun a ha=>?_),hsol⟩
 ·have:a=L:=by exact List.mem_singleton.mp ha
  subst this;exact ⟨hL,h2,hb⟩
 ·have:L'=L:=by exact List.mem_singleton.mp q
  subst this
  obtain ⟨_,_,ob,k5,_⟩:=R₀.out _ hL'
  exact aX h0 k5
 ·have:a=L:=by exact List.mem_singleton.mp ha
  subst this;exact h0
end
end Internal
end
section
namespace Internal
open PySem PyProof.Rows
section
variable {C:Glo}{F:Fm}{X:XM}{c:Cx}{n:Nat}{ρ ρ' ρ₀:List Addr}{m:MS}{s s' s₀:Shared}{A:Around}
noncomputable def KpU (U:List Addr)(s s':Shared):Prop:=∀a∈U,∀o,s.heap.get? a=some o→s'.heap.get? a=some o
theorem KpU.trans {U:List Addr}{s s' s'':Shared}(x:KpU U s s')(y:KpU U s' s''):KpU U s s'':=fun a h o e=>y a h o (x a h o e)
inductive Fq (C:Glo)(F:Fm)(U:List Addr)(ρ:List Addr)(s:Shared)(P:MS→Prop)(s':Shared):Prop
 | mk (m':MS) (st:aq F.W ρ s ρ s') (R:Rel C F ρ m' s') (h:P m') (k:KpU U s s')
inductive Fs (C:Glo)(F:Fm)(U:List Addr)(ρ:List Addr)(s:Shared)(P:Bool→MS→Prop)(b:Bool)(s':Shared):Prop
 | mk (ρ':List Addr) (m':MS) (st:aq F.W ρ s ρ' s') (R:Rel C F ρ' m' s') (h:P b m') (k:KpU U s s')
inductive Ft (C:Glo)(F:Fm)(U:List Addr)(ρ:List Addr)(s:Shared)(P:PQ)(w:Value)(s':Shared):Prop
 | mk (ρ':List Addr) (m':MS) (y:MV) (st:aq F.W ρ s ρ' s') (R:Rel C F ρ' m' s') (r:Rep C ρ' s'.heap y w) (h:P y m') (k:KpU U s s')
structure zL (C:Glo)(n:Nat)(F:Fm)(U:List Addr)(target elt':Expr)(ifs':List Expr)(t:List Nat)(many:Bool)(elt:ME)(ifs:List ME):Prop where
 asg:∀{ρ:List Addr} {m:MS} {s:Shared} {x:MV} {v:Value} {P:MS→Prop},(∀a∈U,a∈ρ)→Rel C F ρ m s→Rep C ρ s.heap x v→Internal.asg t many x P m→wpAny (mod C) F.A (assign target F.env v) (fun _ s'=>Fq C F U ρ s P s') (fun _ _=>False) s
 ifs:∀{ρ:List Addr} {m:MS} {s:Shared} {P:Bool→MS→Prop},(∀a∈U,a∈ρ)→Rel C F ρ m s→kr (Call C) n ifs P noX m→wpAny (mod C) F.A (forIn ifs' true fun c r=>if r=true then do let ok ←isTrue c F.env (eval c F.env);pure (ForInStep.yield ok) else pure (ForInStep.yield r)) (Fs C F U ρ s P) (fun _ _=>False) s
 elt:∀{ρ:List Addr} {m:MS} {s:Shared} {P:PQ},(∀a∈U,a∈ρ)→Rel C F ρ m s→wpE (Call C) n elt P noX m→wpAny (mod C) F.A (eval elt' F.env) (Ft C F U ρ s P) (fun _ _=>False) s
theorem qC {c':Cx}(cx':au C c' F n)(hnh:c'.nh=true){target elt':Expr}{ifs':List Expr}{elt:ME}{ifs:List ME}{t:List Nat}{many:Bool}(helt:SV C noX n c' F elt)(hce:aO c' elt elt'=true)(hifs:∀a∈ifs,ST C noX n c' F a)(hci:bi c' ifs ifs'=true)(ht:mq c' t many target=true):zL C n F [] target elt' ifs' t many elt ifs where
 asg:=fun _ R rv h=>wpAny_mono (jl cx' ht rv R h fun _=>cx'.hn hnh) (fun _ s' ⟨m',a,b,c⟩=>⟨m',a,b,c,fun _ h=>aC h⟩) fun _ _ x=>x
 ifs:=fun _ R h=>wpAny_mono ((wQ cx' hifs ifs' hci _ _ h) _ _ R) (fun b s' ⟨ρ',m',a,b',c⟩=>⟨ρ',m',a,b',c,fun _ h=>aC h⟩) fun _ _ x=>Er.no x
 elt:=fun _ R h=>wpAny_mono ((helt elt' hce _ _ h) _ _ R) (fun w s' ⟨ρ',m',y,a,b,c,d⟩=>⟨ρ',m',y,a,b,c,d,fun _ h=>aC h⟩) fun _ _ x=>Er.no x
inductive EK (C:Glo)(F:Fm)(W:List Addr)(items:List MV)(g:Gd)(stp:MV→(Option MV→MS→Prop)→MS→Prop)(Q:List MV→MS→Prop)(D:Addr)(S:List Addr)(It:Nat→List Addr→Shared→Prop)(ρ₀:List Addr)(s₀:Shared)(k:Nat)(s:Shared):Prop
 | mk (ρ:List Addr) (m:MS) (i:Nat) (acc:List MV) (accv:List Value) (k₁:Nat) (hk:k=items.length-i) (st:aq W ρ₀ s₀ ρ s) (R:Rel C F ρ m s) (hit:It i ρ s) (as:cG C F ρ s.heap (D::S)) (hD:s.heap.get? D=some (cF accv k₁)) (rl:aD C ρ s.heap acc accv) (hal:acc.length≤i) (hil:i≤items.length) (hf:co g stp Q (items.drop i) acc m)
theorem tL {F':Fm}(ok:aU F'){L D:Addr}(hW:F'.W=[L]){target elt' iter:Expr}{ifs':List Expr}{elt:ME}{ifs:List ME}{t:List Nat}{many:Bool}{sc:Scope}{pos:Pos}{itv:Value}{items:List MV}{g:Gd}{S U:List Addr}{It:Nat→List Addr→Shared→Prop}
  (wk:mr C F'.A target itv items g S U It) (hlen:items.length≤line) (T:zL C n F' U target elt' ifs' t many elt ifs) (hU:∀a∈U,a∈ρ)
  {stp:MV→(Option MV→MS→Prop)→MS→Prop}(hstp:∀v P m,stp v P m→asg t many v (fun m=>kr (Call C) n ifs (fun b m=>match b with
    | true=>wpE (Call C) n elt (fun x m=>P (some x) m) noX m
    | false=>P none m) noX m) m)
  {Q:List MV→MS→Prop}(R:Rel C F' ρ m s) (h0:It 0 ρ s) (as:cG C F' ρ s.heap (D::S)) (hDS:D∉S) {k₀:Nat}(hD:s.heap.get? D=some (cF [] k₀))
  (h:co g stp Q items [] m)
  {RR:Result→Shared→Prop}(hk:∀ρ' m' s₁ s' acc accv k,aq (L::D::S) ρ s ρ' s₁→fE S s₁ s'→aZ s₁.heap s'.heap→Rel C F' ρ' m' s'→s'.heap.get? D=some (cF accv k)→aD C ρ' s'.heap acc accv→acc.length≤line→Q acc m'→RR (.ok .next) s') :
  codeAny (mod C) F'.A (.compLoop (.ListComp elt' [⟨target,iter,ifs',0⟩] sc pos) 0 itv (.ref D) F'.env) RR s:=by
 refine qB (EK C F' (L::D::S) items g stp Q D S It ρ s) (fun k s₁ hI=>?_) _ ⟨ρ,m,0,[],[],k₀,rfl,.refl _ _ _,R,h0,as,hD,.nil,Nat.le_refl _,Nat.zero_le _,by exact h⟩
 obtain ⟨ρ₁,m₁,i,acc,accv,k₁,rfl,st₁,R₁,hit,as₁,hD₁,rl,hal,hil,hf⟩:=hI
 have hsub:∀a∈S,a∈L::D::S:=fun a ha=>List.mem_cons_of_mem _ (List.mem_cons_of_mem _ ha)
 have hsubD:∀a∈[D],a∈L::D::S:=fun a ha=>by
  have:a=D:=by exact List.mem_singleton.mp ha
  subst this;exact List.mem_cons_of_mem _ (List.mem_cons_self ..)
 have hsubL:∀a∈F'.W,a∈L::D::S:=fun a ha=>by
  rw [hW] at ha
  have:a=L:=by exact List.mem_singleton.mp ha
  subst this;exact List.mem_cons_self ..
 have asS:cG C F' ρ₁ s₁.heap S:=fun a ha=>as₁ a (List.mem_cons_of_mem _ ha)
 cases e:items[i]? with
 | none=>
  have hd:items.drop i=[]:=by rw [List.drop_eq_nil_iff];exact List.getElem?_eq_none_iff.mp e
  rw [hd,jf] at hf
  obtain ⟨hg,hq⟩:=hf
  refine wpAny_mono (wk.done i ρ₁ m₁.heap s₁ R₁.hp hg hit e (fun _ _=>False) (fun s₂=>fE S s₁ s₂) fun s₂ sd=>sd) (fun r s₂ ⟨hr,sd⟩=>?_) fun _ _ x=>x.elim
  subst hr
  have hsol:=asS.solids sd
  exact hk ρ₁ m₁ s₁ s₂ acc accv k₁ st₁ sd hsol (R₁.side ok asS sd) (sd.1 D _ hDS hD₁) (rl.up hsol (List.prefix_refl _)) (Nat.le_trans hal (Nat.le_trans hil hlen)) hq
 | some x=>
  obtain ⟨hlt,hx⟩:=List.getElem?_eq_some_iff.mp e
  rw [List.drop_eq_getElem_cons hlt,hx,eJ] at hf
  obtain ⟨hg,hq⟩:=hf
  refine wk.item i ρ₁ m₁.heap s₁ x R₁.hp hg hit e _ _ _ fun v s₂ sd hit' rv=>?_
  have hsol:=asS.solids sd
  have R₂:=R₁.side ok asS sd
  have sh₂:=wk.shape _ _ _ hit'
  have hD₂:=sd.1 D _ hDS hD₁
  have as₂:cG C F' ρ₁ s₂.heap (D::S):=as₁.shape fun a ha=>by
   rcases List.mem_cons.mp ha with rfl | ha
   ·exact b9 hD₂ rfl (by decide) (fun ⟨_,_,q⟩=>by cases q) a (by exact List.mem_singleton.mpr rfl)
   ·exact sh₂ a ha
  have rl₂:=rl.up hsol (List.prefix_refl _)
  have st₂:=st₁.trans (aq.ofSide sd hsub (fun a ha=>(asS a ha).2.2.2) sh₂)
  have hU₁:∀a∈U,a∈ρ₁:=fun a ha=>st₁.pre.subset (hU a ha)
  refine wpAny_mono (T.asg hU₁ R₂ rv (hstp _ _ _ hq)) (fun _ s₃ h₃=>?_) fun _ _ x=>x
  obtain ⟨m₃,st₃,R₃,hq₃,ku₃⟩:=h₃
  refine wpAny_mono (T.ifs hU₁ R₃ hq₃) (fun b s₄ h₄=>?_) fun _ _ x=>x
  obtain ⟨ρ₄,m₄,st₄,R₄,h₄,ku₄⟩:=h₄
  have t₄:=st₃.trans st₄
  have ku₄:=ku₃.trans ku₄
  obtain ⟨as₄,kp₄⟩:=as₂.step t₄
  cases b with
  | false=>exact ⟨_,Nat.sub_succ_lt_self _ _ hlt,ρ₄,m₄,i+1,acc,accv,k₁,rfl,st₂.trans (t₄.mono hsubL),R₄,wk.keep _ _ _ _ _ hit' t₄.pre t₄.solid (fun a ha=>(List.mem_append.mp ha).elim (fun ha=>kp₄ a (List.mem_cons_of_mem _ ha)) (ku₄ a)),as₄,kp₄ D (List.mem_cons_self ..) _ hD₂,rl₂.step t₄,Nat.le_succ_of_le hal,hlt,h₄⟩
  | true=>
   refine wpAny_mono (T.elt (fun a ha=>t₄.pre.subset (hU₁ a ha)) R₄ h₄) (fun w s₅ h₅=>?_) fun _ _ x=>x
   obtain ⟨ρ₅,m₅,y,st₅,R₅,ry,h₅,ku₅⟩:=h₅
   have t₅:=t₄.trans st₅
   have ku₅:=ku₄.trans ku₅
   obtain ⟨as₅,kp₅⟩:=as₂.step t₅
   have hD₅:=kp₅ D (List.mem_cons_self ..) _ hD₂
   have rl₅:=rl₂.step t₅
   refine PySem.wpAny_list_append_plain ⟨_,hD₅⟩ (fun h' hl hs=>?_) (by rw [List.size_toArray,rl₅.length];exact Nat.le_trans hal (Nat.le_trans (Nat.le_of_lt hlt) hlen))
   obtain ⟨k₆,hl⟩:=hl
   have sd₆:fE [D] s₅ { s₅ with heap:=h' }:=⟨fun b ob hb e=>(hs.2 b (by exact fun q=>hb (List.mem_singleton.mpr q))).trans e,rfl,rfl⟩
   have asD:cG C F' ρ₅ s₅.heap [D]:=fun a ha=>as₅ a (by
    have:a=D:=by exact List.mem_singleton.mp ha
    subst this;exact List.mem_cons_self ..)
   have hsol₆:=asD.solids sd₆
   have hD₆:h'.get? D=some (cF (accv++[w]) k₆):=by rw [hl];simp
   have shD:∀a∈[D],Shp h' a:=b9 hD₆ rfl (by decide) (fun ⟨_,_,q⟩=>by cases q)
   have kS:∀a∈S,∀o,s₅.heap.get? a=some o→h'.get? a=some o:=fun a ha o e=>sd₆.1 a o (fun q=>by
    have:a=D:=by exact List.mem_singleton.mp q
    subst this;exact hDS ha) e
   refine ⟨_,Nat.sub_succ_lt_self _ _ hlt,ρ₅,m₅,i+1,acc++[y],accv++[w],k₆,rfl,(st₂.trans (t₅.mono hsubL)).trans (aq.ofSide sd₆ hsubD (fun a ha=>(asD a ha).2.2.2) shD),R₅.side ok asD sd₆,
    wk.keep _ _ _ _ _ hit' t₅.pre (fun a o e h=>hsol₆ a o (t₅.solid a o e h) h) (fun a ha o e=>(List.mem_append.mp ha).elim (fun ha=>kS a ha o (kp₅ a (List.mem_cons_of_mem _ ha) o e)) fun ha=>sd₆.1 a o (fun q=>(asD a q).1 (t₅.pre.subset (hU₁ a ha))) (ku₅ a ha o e)),as₅.shape (fun a ha=>?_),hD₆,
    (rl₅.append (.cons ry .nil)).up hsol₆ (List.prefix_refl _),(by rw [List.length_append];exact Nat.succ_le_succ hal),hlt,h₅⟩
   rcases List.mem_cons.mp ha with rfl | ha
   ·exact shD a (by exact List.mem_singleton.mpr rfl)
   ·obtain ⟨o,e1,e2⟩:=(as₅ a (List.mem_cons_of_mem _ ha)).2.2.2
    exact ⟨o,kS a ha o e1,e2⟩
end
end Internal
end
section
namespace Internal
open PySem PyProof.Rows
theorem rK {e:ME}{i:Nat}(h:vr e=some i):e=.var i:=by
 cases e with
 | var j=>exact congrArg ME.var (Option.some.inj h)
 | _=>exact aw h
theorem C3 {e:ME}{p:ME × ME}(h:lt2 e=some p):e=.cmp .lt p.1 p.2:=by
 cases e with
 | cmp o a b=>
  cases o with
  | lt=>obtain rfl:=Option.some.inj h;rfl
  | _=>exact aw h
 | _=>exact aw h
theorem C4 {e:ME}{p:ME × ME}(h:ix2 e=some p):e=.idx p.1 p.2:=by
 cases e with
 | idx a b=>obtain rfl:=Option.some.inj h;rfl
 | _=>exact aw h
theorem C5 {elt:ME}{t:List Nat}{many:Bool}{ifs:List ME}(h:rD elt t many ifs=true):many=false∧(∃i,elt=.var i)∧∃d i k,ifs=[.cmp .lt (.idx (.var d) (.var i)) (.var k)]:=by
 obtain ⟨h0,h⟩:=aj h
 obtain ⟨i,hi,h⟩:=ae h
 obtain ⟨_,h⟩:=aj h
 obtain ⟨e,he,h⟩:=ae h
 obtain ⟨p,hp,h⟩:=ae h
 obtain ⟨q,hq,h⟩:=ae h
 obtain ⟨h,h3⟩:=aj h
 obtain ⟨h1,h2⟩:=aj h
 obtain ⟨a,ha⟩:=Option.isSome_iff_exists.mp h1
 obtain ⟨b,hb⟩:=Option.isSome_iff_exists.mp h2
 obtain ⟨c,hc⟩:=Option.isSome_iff_exists.mp h3
 refine ⟨by cases many with | false=>rfl | true=>exact ff h0,⟨i,rK hi⟩,a,b,c,?_⟩
 rw [bE he,C3 hp,C4 hq,rK ha,rK hb,rK hc]
section
variable {C:Glo}{F:Fm}{X:XM}{c:Cx}{n:Nat}{ρ ρ' ρ₀:List Addr}{m:MS}{s s' s₀:Shared}{A:Around}
theorem kc (cx:au C c F n){i:Nat}{e:Expr}(hc:aO c (.var i) e=true)(R:Rel C F ρ m s){P:PQ}(h:wpE (Call C) n (.var i) P noX m){T:Value→Shared→Prop}{E:Value→Shared→Prop}(k:∀v w,Rep C ρ s.heap v w→P v m→T w s):wpAny (mod C) A (eval e F.env) T E s:=by
 obtain ⟨x,hx,hc⟩:=ae hc
 obtain ⟨_,rfl⟩:=bN hx
 obtain ⟨h1,h2⟩:=aj (show (c.nm i==some x&&!dbg x)=true from hc)
 obtain ⟨v,hv,h⟩:=rF h
 exact rB cx R (eq_of_beq h1) hv (Bool.not_eq_true' _▸h2) fun w r=>k v w r h
theorem wR (G:GOk C)(cx:au C c F n){d j k:Nat}{x:Expr}(hc:aO c (.cmp .lt (.idx (.var d) (.var j)) (.var k)) x=true)(R:Rel C F ρ m s){P:PQ}(h:wpE (Call C) n (.cmp .lt (.idx (.var d) (.var j)) (.var k)) P noX m){T:Bool→Shared→Prop}{E:Value→Shared→Prop}(kk:∀b tk,P (.bool b) m→T b { s with toks:=tk }):wpAny (mod C) F.A (isTrue x F.env (eval x F.env)) T E s:=by
 obtain ⟨⟨l,os,rs⟩,hxx,hc⟩:=ae hc
 obtain ⟨o,ho,hc⟩:=ae hc
 obtain ⟨r,hr,hc⟩:=ae hc
 cases bE ho
 cases bE hr
 obtain ⟨p,rfl⟩:=gh hxx
 obtain ⟨hA,hb⟩:=aj hc
 obtain ⟨hA,ha⟩:=aj hA
 obtain ⟨hE,hx⟩:=aj hA
 obtain rfl:=eq_of_beq hE
 obtain ⟨⟨v,sl⟩,hy,ha⟩:=ae ha
 obtain ⟨p2,rfl⟩:=j8 hy
 obtain ⟨ha,hi⟩:=aj ha
 obtain ⟨hsl,hd⟩:=aj ha
 refine wpAny_isTrue_Compare1 ?_ (dZ hx _)
 refine PyProof.Rows.Subscript_ (kc cx hd R h fun vd wd rd h=>kc cx hi R h fun vi wi ri h=>?_)
 refine wpAny_mono (u5 G R rd ri hsl h) (fun w s₁ o=>?_) fun _ _ x=>x
 obtain ⟨z,tk,rfl,rz,h⟩:=o
 have R₁:=(R.tok cx.fm tk).1
 refine kc cx hb R₁ h fun vk wk rk h=>?_
 refine wpAny_mono (uX G R₁.hp rz rk cx.u h) (fun q s₂ o=>?_) fun _ _ x=>x
 obtain ⟨b,tk2,rfl,rfl,h⟩:=o
 exact wpAny_truthy_bool (kk b tk2 h)
theorem wU (G:GOk C){c':Cx}(cx':au C c' F n){U:List Addr}{target elt':Expr}{ifs':List Expr}{elt:ME}{ifs:List ME}{t:List Nat}{many:Bool}(hs:rD elt t many ifs=true)(hce:aO c' elt elt'=true)(hci:bi c' ifs ifs'=true)(ht:mq c' t many target=true):zL C n F U target elt' ifs' t many elt ifs:=by
 obtain ⟨rfl,⟨i,rfl⟩,d,j,k,rfl⟩:=C5 hs
 obtain ⟨i',y,p,rfl,rfl,h1,h2⟩:=kO ht
 cases ifs' with
 | nil=>exact ff hci
 | cons x xs=>
 obtain ⟨⟨_,hc⟩,h0⟩:=aV hci
 cases xs with
 | cons=>exact ff h0
 | nil=>
 exact ⟨fun hU R rv h=>PyProof.Rows.assign_Name (d4 cx' R h1 (fD h2) rv fun s₁ st R₁ kp=>⟨_,st,R₁,h,fun a ha=>kp a (hU a ha)⟩),
  fun {ρ m s P} hU R h=>by
   rw [List.forIn_cons]
   refine wpAny_bind (wpAny_bind (wR G cx' hc R h fun b tk h=>wpAny_pure (wpAny_pure ?_)))
   obtain ⟨R₂,st⟩:=R.tok cx'.fm tk
   exact ⟨_,_,st,R₂,by cases b<;>exact h,fun a _ o e=>e⟩,
  fun hU R h=>kc cx' hce R h fun v w r h=>⟨_,_,_,.refl _ _ _,R,r,h,fun a _ o e=>e⟩⟩
end
end Internal
end
section
namespace Internal
open PySem PyProof.Rows
section
variable {C:Glo}{F:Fm}{X:XM}{c:Cx}{n:Nat}{ρ ρ' ρ₀:List Addr}{m:MS}{s s' s₀:Shared}{A:Around}
theorem rL (G:GOk C)(cx:au C c F n)(hnh:c.nh=true){elt:ME}{t:List Nat}{many:Bool}{k:IK}{src ifs:List ME}{elt':Expr}{g:Comprehension}{sc:Scope}{pos p':Pos}{xs:List Expr}
  (hasync:g.is_async=0) (hx:okX g.iter=true) (hen:kN k=true→many=true) (hsel:kL k=true→rD elt t many ifs=true) (hco:nM c sc t (bF g.target)=true) (hxs:kM c k g.iter=some xs) (hcs:bi c src xs=true)
  (ht:mq (d5 c sc t (bF g.target)) t many g.target=true) (hci:bi (d5 c sc t (bF g.target)) ifs g.ifs=true) (hce:aO (d5 c sc t (bF g.target)) elt elt'=true)
  (hsrc:∀a∈src,SV C X n c F a) (helt:∀F',au C (d5 c sc t (bF g.target)) F' n→SV C noX n (d5 c sc t (bF g.target)) F' elt)
  (hifs:∀F',au C (d5 c sc t (bF g.target)) F' n→∀a∈ifs,ST C noX n (d5 c sc t (bF g.target)) F' a)
  {Q:PQ}(h:wpE (Call C) n (.comp elt t many k src ifs) Q X m) (R:Rel C F ρ m s) {use:Option (Value→Sem Unit)}{QQ:Value→Shared→Prop}
  (hk:∀D L ρ' m' s' i,aq F.W ρ s ρ' s'→Rel C F ρ' m' s'→Rep C ρ' s'.heap (.ref i) (.ref D)→Q (.ref i) m'→Let C F L ρ s ρ' s'→compPost (mod C) F.A (Er C F X ρ s) use QQ (.ref D) L (.ok .next) s') :
  wpAny (mod C) F.A (comprehension (.ListComp elt' [g] sc pos) sc F.env p' (newList []) false (eval g.iter F.env) use) QQ (Er C F X ρ s) s:=by
 obtain ⟨target,iter,ifs',isa⟩:=g
 replace h:gJ (Call C) n src _ X m:=h
 simp only at *
 subst hasync
 have hCO:=tJ hco
 obtain ⟨cl,hcl,hcl'⟩:=qA (tK cx hCO)
 have htt:=jC ht
 refine wpAny_comprehension_free rfl (kE hx _) hcl hCO.kind hCO.loc (wpAny_mono (rE G cx hnh hsrc hxs hcs htt (fun e=>by have:=hen e;subst this;obtain ⟨a,b,d,e,_⟩:=gu ht;exact ⟨a,b,d,e,trivial⟩)
  (P:=fun items g m=>co g (fun v P m=>asg t many v (fun m=>kr (Call C) n ifs (fun b m=>match b with
    | true=>wpE (Call C) n elt (fun x m=>P (some x) m) noX m
    | false=>P none m) noX m) m) (fun acc m'=>Q (.ref m'.heap.length) ⟨m.vars,m'.heap++[.list acc]⟩) items [] m) h R) (fun xv s₁ h₁=>wpAny_mono h₁ (fun itv s₂ h₂=>?_) fun _ _ x=>x) fun _ _ x=>x)
 obtain ⟨ρ₂,m₂,items,gg,S,U,It,st₂,R₂,wk,h0,as,hS,hlen,hP,hU,hUr⟩:=h₂
 refine wpAny_newObj_type (wpAny_newFunctionEnv hCO.cell (by intro y hy;exact aC hy) (fun h₁ hns₁ hsb₁=>?_) hCO.kind)
 dsimp only at hns₁ hsb₁ ⊢
 generalize hH2:s₂.heap.push { cls:=.type "list",dict:=none,data:=.seq ([]:List Value).toArray }=H2 at hns₁ hsb₁ ⊢
 have hC:H2.objs.size=s₂.heap.objs.size+1:=by rw [←hH2,Heap.size_push]
 generalize hLL:H2.objs.size=L at hns₁ hsb₁ hC ⊢
 generalize hDD:s₂.heap.objs.size=D at hC ⊢
 have hD0:s₂.heap.get? D=none:=bk (by rw [hDD];exact Nat.le_refl _)
 have hL0:s₂.heap.get? L=none:=bk (by rw [hDD,hC];exact Nat.le_succ _)
 have hDL:D≠L:=by rw [hC];exact (Nat.succ_ne_self _).symm
 have hk4:∀a o,s₂.heap.get? a=some o→h₁.get? a=some o:=fun a o e=>by
  have ha:a≠L:=fun q=>by rw [q,hL0] at e;exact aw e
  exact (hsb₁.2 a ha).trans (Heap.get?_push_of_some _ (hH2▸Heap.get?_push_of_some _ e))
 have hD4:h₁.get? D=some (cF [] 0):=(hsb₁.2 D hDL).trans (Heap.get?_push_of_some _ (by rw [←hH2,←hDD];exact Heap.get?_push_size _ rfl))
 generalize hs4:({ s₂ with heap:=h₁,toks:=s₂.toks+([]:List (Str × Value)).length }:Shared)=s₄
 have e4:s₄.heap=h₁∧s₄.gens=s₂.gens∧s₄.os=s₂.os:=by rw [←hs4];exact ⟨rfl,rfl,rfl⟩
 rw [←e4.1] at hns₁ hD4 hk4
 have notW:∀a,s₂.heap.get? a=none→a∉F.W++F.V:=fun a e q=>by
  obtain ⟨_,_,o,e',_⟩:=R₂.w a q;exact aX e e'
 have cx':=wO (cl:=cl) cx hCO (notW L hL0) hcl'
 have R₄:=C1 (cl:=cl) (s':=s₄) cx R₂ hCO hk4 e4.2.1 hL0 ⟨_,hns₁⟩
 have hsol4:aZ s₂.heap s₄.heap:=fun a o e _=>hk4 a o e
 have h04:It 0 ρ₂ s₄:=wk.keep _ _ _ _ _ h0 (List.prefix_refl _) hsol4 fun a _ o e=>hk4 a o e
 have hSthere:∀a∈S,∃o,s₂.heap.get? a=some o:=fun a ha=>by obtain ⟨_,_,_,o,e,_⟩:=as a ha;exact ⟨o,e⟩
 have hDS:D∉S:=fun q=>by obtain ⟨o,e⟩:=hSthere D q;exact aX hD0 e
 have notρ:∀a,s₂.heap.get? a=none→a∉ρ₂:=fun a e q=>by obtain ⟨o,e'⟩:=R₂.hp.there q;exact aX e e'
 have as4:cG C (dN F sc cl t (bF target) L) ρ₂ s₄.heap (D::S):=fun a ha=>by
  rcases List.mem_cons.mp ha with rfl | ha
  ·refine ⟨notρ a hD0,fun q=>?_,bM R₂.hp hD0,b9 hD4 rfl (by decide) (fun ⟨_,_,q⟩=>by cases q) a (by exact List.mem_singleton.mpr rfl)⟩
   have q:a∈[L]++(F.W++F.V):=q
   rcases List.mem_append.mp q with q | q
   ·exact hDL (by exact List.mem_singleton.mp q)
   ·exact notW a hD0 q
  ·obtain ⟨a1,a2,a3,o,a4,a5⟩:=as a ha
   refine ⟨a1,fun q=>?_,a3,o,hk4 a o a4,a5⟩
   have q:a∈[L]++(F.W++F.V):=q
   rcases List.mem_append.mp q with q | q
   ·have:a=L:=by exact List.mem_singleton.mp q
    subst this;exact aX hL0 a4
   ·exact a2 q
 have fin:∀ρ' m' s₁' s' acc accv k',aq (L::D::S) ρ₂ s₄ ρ' s₁'→fE S s₁' s'→aZ s₁'.heap s'.heap→Rel C (dN F sc cl t (bF target) L) ρ' m' s'→s'.heap.get? D=some (cF accv k')→aD C ρ' s'.heap acc accv→acc.length≤line→
   Q (.ref m'.heap.length) ⟨m₂.vars,m'.heap++[.list acc]⟩→compPost (mod C) F.A (Er C F X ρ s) use QQ (.ref D) L (.ok .next) s':=by
  intro ρ' m' s₁' s' acc accv k' st' sd hsol R' hD' rl hal hq
  have hDρ:D∉ρ':=fun q=>(st'.new D q).elim (notρ D hD0) fun q=>by exact aX q hD4
  have hLW:=R'.w L (List.mem_append_left _ (List.mem_singleton.mpr rfl))
  have hH:Hp C (ρ'++[D]) (m'.heap++[.list acc]) s'.heap:=R'.hp.alloc (fun a o e _=>e) (fun a _ o e=>e) R'.hp.base hDρ (bM R₂.hp hD0) ⟨accv,k',hD',rl.up (fun a o e _=>e) (List.prefix_append _ _),hal⟩
  have hkeep:∀a o,s₂.heap.get? a=some o→a∉ρ₂→a∉S→s'.heap.get? a=some o∨(IsD o∧∃sl,s'.heap.get? a=some { o with slots:=sl }):=fun a o e h1 h2=>by
   have hn:a∉L::D::S:=fun q=>by
    rcases List.mem_cons.mp q with rfl | q
    ·exact aX hL0 e
    ·rcases List.mem_cons.mp q with rfl | q
     ·exact aX hD0 e
     ·exact h2 q
   rcases st'.keep a o (hk4 a o e) h1 hn with q | ⟨q,sl,q'⟩
   ·exact .inl (sd.1 a _ h2 q)
   ·exact .inr ⟨q,sl,sd.1 a _ h2 q'⟩
  have hKD:∀a,a∉ρ₂→a∉S→kz s₂.heap s'.heap a:=fun a h1 h2 o e=>by
   rcases hkeep a o e h1 h2 with q | ⟨_,sl,q⟩
   ·exact ⟨_,q,rfl,rfl⟩
   ·exact ⟨_,q,rfl,rfl⟩
  have hs2:aZ s₂.heap s'.heap:=fun a o e h=>hsol a o (st'.solid a o (hk4 a o e) h) h
  have hpre:ρ₂<+:ρ'++[D]:=st'.pre.trans (List.prefix_append _ _)
  have hnew:∀a∈ρ'++[D],a∈ρ₂∨s₂.heap.get? a=none:=fun a ha=>by
   rcases List.mem_append.mp ha with q | q
   ·exact (st'.new a q).imp id fun q=>by
     cases e:s₂.heap.get? a with
     | none=>rfl
     | some o=>rw [hk4 a o e] at q;exact pT q
   ·have:a=D:=by exact List.mem_singleton.mp q
    subst this;exact .inr hD0
  have hgens:s'.gens=s₂.gens:=sd.2.1.trans (st'.gens.trans e4.2.1)
  have Rf:Rel C F (ρ'++[D]) ⟨m₂.vars,m'.heap++[.list acc]⟩ s':=R₂.up cx.fm hs2 hpre hH hnew (fun a ha=>hKD a (R₂.w a ha).1 fun q=>(as a q).2.1 ha)
   (fun L' hL'=>by
    obtain ⟨k3,_,o,k5,k6⟩:=R₂.out L' hL'
    refine hKD L' k3 fun q=>?_
    obtain ⟨_,_,_,o2,g1,_,g2⟩:=as L' q
    obtain rfl:=same k5 g1
    exact g2 k6) hgens
  have fr:∀a∈L::D::S,s.heap.get? a=none:=fun a ha=>by
   rcases List.mem_cons.mp ha with rfl | q
   ·exact cN st₂ hL0
   ·rcases List.mem_cons.mp q with rfl | q
    ·exact cN st₂ hD0
    ·exact hS a q
  have stf:aq F.W ρ s (ρ'++[D]) s':=by
   have g:aq F.W ρ₂ s₂ ρ₂ s₄:=⟨List.prefix_refl _,fun _ h=>.inl h,fun a o e _ _=>.inl (hk4 a o e),hsol4,fun a o e=>⟨o,hk4 a o e⟩,e4.2.1,e4.2.2⟩
   have z:=((st₂.trans g).behind st' fr).side sd fun a ha=>hS a ha
   exact ⟨z.pre.trans (List.prefix_append _ _),fun a ha=>by
    rcases List.mem_append.mp ha with q | q
    ·exact z.new a q
    ·have:a=D:=by exact List.mem_singleton.mp q
     subst this;exact .inr (cN st₂ hD0),z.keep,z.solid,z.alive,z.gens,z.os⟩
  refine hk D L (ρ'++[D]) _ s' m'.heap.length stf Rf (.ref ?_) hq (C2 cx stf R (cN st₂ hL0) (fun q=>?_) (notW L hL0) R'.ns)
  ·rw [←R'.hp.len,List.getElem?_append_right (Nat.le_refl _)];simp
  ·rcases List.mem_append.mp q with q | q
   ·exact hLW.1 q
   ·exact hDL (by exact List.mem_singleton.mp q:L=D).symm
 have T:zL C n (dN F sc cl t (bF target) L) U target elt' ifs' t many elt ifs:=by
  cases hkk:kL k with
  | false=>obtain rfl:=hU hkk;exact qC cx' hnh (helt _ cx') hce (hifs _ cx') hci ht
  | true=>exact wU G cx' (hsel hkk) hce hci ht
 have loop:codeAny (mod C) F.A (.compLoop (.ListComp elt' [⟨target,iter,ifs',0⟩] sc pos) 0 itv (.ref D) (compEnvC sc cl L F.env)) (compPost (mod C) F.A (Er C F X ρ s) use QQ (.ref D) L) s₄:=
  tL cx'.fm rfl wk hlen T hUr (fun _ _ _ h=>h) R₄ h04 as4 hDS hD4 hP fin
 exact codeAny_compStart_list loop (wk.self 0 ρ₂ s₄ h04 _ _ loop)
end
end Internal
end
section
namespace Internal
open PySem PyProof.Rows
section
variable {C:Glo}{F:Fm}{X:XM}{c:Cx}{n:Nat}
theorem zM (G:GOk C)(cx:au C c F n){elt:ME}{t:List Nat}{many:Bool}{k:IK}{src ifs:List ME}(hsrc:∀a∈src,SV C X n c F a)(helt:∀c' F',au C c' F' n→SV C noX n c' F' elt)
  (hifs:∀c' F',au C c' F' n→∀a∈ifs,ST C noX n c' F' a):SV C X n c F (.comp elt t many k src ifs):=by
 intro e hc Q m h
 replace hc:=ae hc
 obtain ⟨⟨elt',gs,sc⟩,hxx,hc⟩:=hc
 replace hc:=ae hc
 obtain ⟨g,hg,hc⟩:=hc
 cases bE hg
 obtain ⟨pos,rfl⟩:=nH hxx
 simp only [Bool.and_eq_true,beq_iff_eq,Bool.or_eq_true,Bool.not_eq_true'] at hc
 obtain ⟨⟨⟨⟨⟨⟨⟨⟨⟨h0,h1⟩,h2⟩,h3⟩,h9⟩,h4⟩,h5⟩,h6⟩,h7⟩,h8⟩:=hc
 obtain ⟨xs,hxs,h5⟩:=ae h5
 intro s ρ R
 have ha:firstAsync [g]=false:=by
  obtain ⟨_,_,_,a⟩:=g;simp only at h1;subst h1;rfl
 have hfi:firstIter [g] F.env=eval g.iter F.env:=by cases g;rfl
 rw [eval_ListComp,ha,hfi]
 refine rL (use:=none) G cx h0 h1 h2 (fun e=>h3.resolve_left (by rw [e];decide)) (fun e=>h9.resolve_left (by rw [e];decide)) h4 hxs h5 h6 h7 h8 hsrc (helt _) (hifs _) h R fun D L ρ' m' s' i st R' rx hq hl=>?_
 obtain ⟨⟨f,hf⟩,hs⟩:=hl ρ' m' s' (.refl _ _ _) R'
 refine ⟨f,hf,fun h' hsb=>?_⟩
 obtain ⟨Rf,stf,hsol⟩:=hs h' hsb
 exact ⟨ρ',m',.ref i,stf,Rf,rx.up hsol (List.prefix_refl _),hq⟩
theorem br (G:GOk C)(cx:au C c F n){me:ME}(ia:SV C X n c F me)(hpl:∀e,aO c me e=true→bb e=true):SV C X n c F me∧ST C X n c F me:=⟨ia,wK G cx ia hpl⟩
mutual
theorem sE (G:GOk C):∀(me:ME) (X:XM) (c:Cx) (F:Fm),au C c F n→SV C X n c F me∧ST C X n c F me
 | .cst v,X,c,F,cx=>br G cx (Cp G cx) CR
 | .var i,X,c,F,cx=>br G cx (Cq G cx) CS
 | .glob g v,X,c,F,cx=>br G cx (za G cx) zC
 | .bin op a b,X,c,F,cx=>br G cx (Cr G cx (sE G a X c F cx).1 (sE G b X c F cx).1) CT
 | .neg a,X,c,F,cx=>br G cx (Cs G cx (sE G a X c F cx).1) C0
 | .not a,X,c,F,cx=>⟨Ct G cx (sE G a X c F cx).1,CN G cx (sE G a X c F cx).2⟩
 | .and es,X,c,F,cx=>⟨Cu G cx fun a ha=>(sEs G es X c F cx a ha).1,CO G cx fun a ha=>(sEs G es X c F cx a ha).2⟩
 | .or es,X,c,F,cx=>⟨EA G cx fun a ha=>(sEs G es X c F cx a ha).1,EI G cx fun a ha=>(sEs G es X c F cx a ha).2⟩
 | .cmp op a b,X,c,F,cx=>⟨Cv G cx (sE G a X c F cx).1 (sE G b X c F cx).1,CP G cx (sE G a X c F cx).1 (sE G b X c F cx).1⟩
 | .cmp2 op op' a b d,X,c,F,cx=>⟨zI G cx (sE G a X c F cx).1 (sE G b X c F cx).1 (sE G d X c F cx).1,zJ G cx (sE G a X c F cx).1 (sE G b X c F cx).1 (sE G d X c F cx).1⟩
 | .isN p a,X,c,F,cx=>⟨Cw G cx (sE G a X c F cx).1,CQ G cx (sE G a X c F cx).1⟩
 | .call f args,X,c,F,cx=>br G cx (zc G cx fun a ha=>(sEs G args X c F cx a ha).1) zF
 | .blt b args,X,c,F,cx=>br G cx (CF G cx fun a ha=>(sEs G args X c F cx a ha).1) CZ
 | .mth k o args,X,c,F,cx=>br G cx (Cy G cx (sE G o X c F cx).1 fun a ha=>(sEs G args X c F cx a ha).1) CX
 | .umth k f x o args,X,c,F,cx=>br G cx (zq G cx (sE G o X c F cx).1 fun a ha=>(sEs G args X c F cx a ha).1) zG
 | .new k f args,X,c,F,cx=>br G cx (CH G cx fun a ha=>(sEs G args X c F cx a ha).1) CY
 | .attr k o x,X,c,F,cx=>br G cx (zp G cx (sE G o X c F cx).1) zH
 | .idx o i,X,c,F,cx=>br G cx (Cz G cx (sE G o X c F cx).1 (sE G i X c F cx).1) CU
 | .sl o lo hi,X,c,F,cx=>br G cx (EB G cx (sE G o X c F cx).1 (sO G lo X c F cx) (sO G hi X c F cx)) EJ
 | .list es,X,c,F,cx=>br G cx (zd G cx fun a ha=>(sEs G es X c F cx a ha).1) zD
 | .tup es,X,c,F,cx=>br G cx (CA G cx fun a ha=>(sEs G es X c F cx a ha).1) CV
 | .dict0,X,c,F,cx=>br G cx (wo G cx) wL
 | .comp elt t many k src ifs,X,c,F,cx=>br G cx (zM G cx (fun a ha=>(sEs G src X c F cx a ha).1) (fun c' F' cx'=>(sE G elt noX c' F' cx').1) fun c' F' cx' a ha=>(sEs G ifs noX c' F' cx' a ha).2) zE
 | .isi a ts,X,c,F,cx=>br G cx (CM G cx (sE G a X c F cx).1) CW
theorem sEs (G:GOk C):∀(es:List ME) (X:XM) (c:Cx) (F:Fm),au C c F n→∀a∈es,SV C X n c F a∧ST C X n c F a
 | [],X,c,F,cx,a,ha=>by exact aC ha
 | e::es,X,c,F,cx,a,ha=>(List.mem_cons.mp ha).elim (fun h=>h▸sE G e X c F cx) fun h=>sEs G es X c F cx a h
theorem sO (G:GOk C):∀(o:Option ME) (X:XM) (c:Cx) (F:Fm),au C c F n→∀a,o=some a→SV C X n c F a
 | none,X,c,F,cx,a,ha=>by exact aw ha
 | some e,X,c,F,cx,a,ha=>(Option.some.inj ha)▸(sE G e X c F cx).1
end
theorem eV (G:GOk C)(cx:au C c F n)(me:ME)(e:Expr)(hc:aO c me e=true)(Q:PQ)(m:MS)(h:wpE (Call C) n me Q X m):WPv C F X (eval e F.env) Q m:=(sE G me X c F cx).1 e hc Q m h
theorem wV (G:GOk C)(cx:au C c F n)(me:ME)(e:Expr)(hc:aO c me e=true)(Q:Bool→MS→Prop)(m:MS)(h:wpE (Call C) n me (cp Q) X m):WPt C F X (isTrue e F.env (eval e F.env)) Q m:=(sE G me X c F cx).2 e hc Q m h
end
end Internal
end
section
namespace Internal
open PySem PyProof.Rows
section
variable {C:Glo}{F:Fm}{X:XM}{ρ ρ₀:List Addr}{m:MS}{s s₀:Shared}{E:Value→Shared→Prop}{A:Around}
theorem zO (ok:aU F)(R:Rel C F ρ m s){r:Nat}{k:Int}{t:Tok}{xs:List MV}{j:Nat}{u:MV}{xv uv:Value}(rx:Rep C ρ s.heap (.ref r) xv)(hi:m.heap[r]?=some (.list xs))(hj:dG k xs.length=some j)(hu:AJ=true∧0≤k)(ru:Rep C ρ s.heap u uv){P:Unit→Shared→Prop}(hp:∀s',Rel C F ρ (m.put r (.list (xs.set j u))) s'→aq F.W ρ s ρ s'→P () s') :
  wpAny (mod C) A (setItem xv (.int k t) uv) P E s:=absurd hu.1 (by decide)
end
end Internal
end
section
namespace Internal
open PySem
noncomputable def nS (F:Fm):Prop:=(∃outer,F.A.frames=some (F.env::outer))∧F.env.frame=some F.env.locals
theorem ke {C:Glo}{F:Fm}{X:XM}{ρ₀:List Addr}{s s₀:Shared}(ok:aU F)(fo:nS F)(hb:C.base.StaysIn s₀.heap){e:Value}(h:Er C F X ρ₀ s₀ e s):notedBy (mod C) F.A F.env (fun e s'=>cameBackBy (mod C) F.A F.env (Er C F X ρ₀ s₀) e s') e s:=False.elim h
noncomputable def ErC (C:Glo)(X:XT)(ρ:List Addr)(s:Shared)(e:Value)(s':Shared):Prop:=False
end Internal
end
section
namespace Internal
open PySem PyProof.Rows
noncomputable def qD (e:Expr):Bool:=(qg e).isSome
theorem qE {elts:List Expr}{k:Nat}{p:Pos}{v:Expr}(h:qD v=false)(h':okX v=true)(env:Env):swappedStores [.Tuple elts k p] v env=pure none:=
 cL (P:=fun v=>qD v=false→swappedStores [.Tuple elts k p] v env=pure none) h' (fun _ _ _ _=>rfl) (fun _ _ _=>rfl) (fun _ _ _ _ _=>rfl) (fun _ _ _ _=>rfl) (fun _ _ _ _=>rfl) (fun _ _ _ _ _=>rfl) (fun _ _ _ _ _=>rfl) (fun _ _ _ _=>rfl) (fun _ _ _ _=>rfl) (fun _ _ _=>rfl) (fun _ _ _ h=>by exact tf h) (fun _ _ _ _=>rfl) (fun _ _ _ _ _=>rfl) h
noncomputable def nT:ME→Bool
 | .comp ..=>true
 | _=>false
set_option genCtorIdx false in
structure VS where
 tag:Nat
 p:Pos:=uY
 ts:List Expr:=[]
 e1:Expr:=noE
 e2:Expr:=noE
 o1:Option Expr:=none
 o2:Option Expr:=none
 b1:List Stmt:=[]
 b2:List Stmt:=[]
 b3:List Stmt:=[]
 hs:List ExceptHandler:=[]
noncomputable def aR:Stmt→VS
 | .Assign ts e2 p=>{ tag:=0,ts,e2,p }
 | .Expr e1 p=>{ tag:=1,e1,p }
 | .If e1 b1 b2 p=>{ tag:=2,e1,b1,b2,p }
 | .For e1 e2 b1 b2 p=>{ tag:=3,e1,e2,b1,b2,p }
 | .While e1 b1 b2 p=>{ tag:=4,e1,b1,b2,p }
 | .Return o1 p=>{ tag:=5,o1,p }
 | .Continue p=>{ tag:=6,p }
 | .Raise o1 o2 p=>{ tag:=8,o1,o2,p }
 | .Try b1 hs b2 b3 p=>{ tag:=9,b1,hs,b2,b3,p }
 | _=>{ tag:=7 }
noncomputable def wW (v:VS):Nat→Option Stmt
 | 0=>some (.Assign v.ts v.e2 v.p)
 | 1=>some (.Expr v.e1 v.p)
 | 2=>some (.If v.e1 v.b1 v.b2 v.p)
 | 3=>some (.For v.e1 v.e2 v.b1 v.b2 v.p)
 | 4=>some (.While v.e1 v.b1 v.b2 v.p)
 | 5=>some (.Return v.o1 v.p)
 | 6=>some (.Continue v.p)
 | 8=>some (.Raise v.o1 v.o2 v.p)
 | 9=>some (.Try v.b1 v.hs v.b2 v.b3 v.p)
 | _=>none
theorem wX (e:Stmt):∀x,wW (aR e) (aR e).tag=some x→e=x:=by
 cases e<;>first | exact fun x h=>Option.some.inj h | exact fun x h=>aw h
theorem wY {e:Stmt}{n:Nat}{x:Stmt}(h:(aR e).tag=n)(hx:wW (aR e) n=some x):e=x:=wX e x (h▸hx)
noncomputable def fv (st:Stmt)(n:Nat):Bool:=(aR st).tag==n
theorem cv {e:Stmt}{n:Nat}{x:Stmt}(h:fv e n=true)(hx:wW (aR e) n=some x):e=x:=wY (eq_of_beq h) hx
noncomputable def zP:MV→Bool
 | .none=>true
 | _=>false
noncomputable def rM:ME→Bool
 | .cst v=>zP v
 | _=>false
noncomputable def exh:ExceptHandler→Option Expr × Option Str × List Stmt × Pos
 | .ExceptHandler a b c p=>(a,b,c,p)
noncomputable def C6:Const→Bool
 | .str _=>true
 | _=>false
noncomputable def inH (c:Cx):Cx:={ c with nh:=false }
mutual
noncomputable def EL:Cx→MSt→Stmt→Bool
 | c,.asg t many e,st=>fv st 0&&ak (one (aR st).ts) fun tg=>mq c t many tg&&okX (aR st).e2&&(!many||!qD (aR st).e2)&&(!cU (aR st).e2||nT e)&&(c.nh||!many)&&aO c e (aR st).e2
 | c,.setAttr k o x e,st=>fv st 0&&ak (one (aR st).ts) fun tg=>okX (aR st).e2&&!cU (aR st).e2&&aO c e (aR st).e2&&ak (rq tg) fun q=>q.2.1.cps.toList==x&&cM.contains q.2.1&&c.at_ k q.2.1&&aO c o q.1
 | c,.setIdx o i e,st=>fv st 0&&ak (one (aR st).ts) fun tg=>okX (aR st).e2&&!cU (aR st).e2&&aO c e (aR st).e2&&ak (yH tg) fun q=>aO c o q.1&&aO c i q.2
 | c,.expr e,st=>fv st 1&&(okX (aR st).e1&&!cU (aR st).e1&&aO c e (aR st).e1)
 | c,.ite d a b,st=>fv st 2&&(aO c d (aR st).e1&&gQ c a (aR st).b1&&gQ c b (aR st).b2)
 | c,.for_ t many k src body,st=>fv st 3&&(c.nh&&(aR st).b2.isEmpty&&mq c t many (aR st).e1&&(!kN k||many)&&!kL k&&okX (aR st).e2&&ak (kM c k (aR st).e2) (fun xs=>bi c src xs)&&gQ c body (aR st).b1)
 | c,.while_ d body,st=>fv st 4&&((aR st).b2.isEmpty&&aO c d (aR st).e1&&gQ c body (aR st).b1)
 | c,.ret e,st=>fv st 5&&match (aR st).o1 with
  | some x=>aO c e x
  | none=>rM e
 | c,.cont,st=>fv st 6
 | c,.raise k,st=>!yp||fv st 8&&((aR st).o2.isNone&&c.nh&&ak (aR st).o1 fun e=>ak (xFn e) fun q=>cu c q.1&&c.xn k==some q.1&&ak (one q.2.1) fun y=>ak (nF y) C6)
 | c,.try_ body k v h,st=>!yp||fv st 9&&((aR st).b2.isEmpty&&(aR st).b3.isEmpty&&ak (one (aR st).hs) fun hh=>ak (exh hh).1 fun ty=>ak (exh hh).2.1 fun nm=>k==0&&c.nm v==some nm&&c.kind nm==some .local&&!(exh hh).2.2.1.isEmpty&&ak (dK ty) (fun x=>cu c x&&c.xn k==some x)&&gQ c body (aR st).b1&&gQ (inH c) h (exh hh).2.2.1)
noncomputable def gQ:Cx→List MSt→List Stmt→Bool
 | c,[],xs=>xs.isEmpty
 | c,s::ss,xs=>match xs with
  | []=>false
  | x::xs=>EL c s x&&gQ c ss xs
end
section
variable {C:Glo}{F:Fm}{X:XM}{c:Cx}{n:Nat}{ρ ρ' ρ₀:List Addr}{m:MS}{s s' s₀:Shared}{A:Around}{E:Value→Shared→Prop}
inductive FlR (C:Glo)(ρ:List Addr)(h:Heap):Fl→Flow→Prop
 | next:FlR C ρ h .next .next
 | brk:FlR C ρ h .brk .brk
 | cont:FlR C ρ h .cont .cont
 | ret {x v}:Rep C ρ h x v→FlR C ρ h (.ret x) (.ret v)
noncomputable def FlI (C:Glo)(ρ:List Addr)(h:Heap)(fl:Fl)(f:Flow):Prop:=match fl with
 | .next=>f=.next
 | .brk=>f=.brk
 | .cont=>f=.cont
 | .ret x=>∃v,f=.ret v∧Rep C ρ h x v
theorem FlR.inv {h:Heap}{fl:Fl}{f:Flow}(r:FlR C ρ h fl f):FlI C ρ h fl f:=FlR.casesOn (motive:=fun fl f _=>FlI C ρ h fl f) r rfl rfl rfl (fun r=>⟨_,rfl,r⟩)
inductive iB (C:Glo)(F:Fm)(ρ:List Addr)(s:Shared)(Q:Fl→MS→Prop)(f:Flow)(s':Shared):Prop
 | mk (ρ':List Addr) (m':MS) (fl:Fl) (st:aq F.W ρ s ρ' s') (R:Rel C F ρ' m' s') (hf:FlR C ρ' s'.heap fl f) (hq:Q fl m'):iB C F ρ s Q f s'
theorem iB.back {Q:Fl→MS→Prop}(st:aq F.W ρ₀ s₀ ρ s):∀f s',iB C F ρ s Q f s'→iB C F ρ₀ s₀ Q f s':=
 fun _ _ ⟨ρ',m',x,a,b,c,d⟩=>⟨ρ',m',x,st.trans a,b,c,d⟩
noncomputable def WPs (C:Glo)(F:Fm)(X:XM)(t:Sem Flow)(Q:Fl→MS→Prop)(m:MS):Prop:=
 ∀s ρ,Rel C F ρ m s→wpAny (mod C) F.A t (iB C F ρ s Q) (Er C F X ρ s) s
inductive Fu (C:Glo)(F:Fm)(items:List MV)(g:Gd)(st:MV→(Fl→MS→Prop)→MS→Prop)(Q:Fl→MS→Prop)(S:List Addr)(It:Nat→List Addr→Shared→Prop)(ρ₀:List Addr)(s₀:Shared)(k:Nat)(s:Shared):Prop
 | mk (ρ:List Addr) (m:MS) (i:Nat) (hk:k=items.length-i) (st₁:aq F.W ρ₀ s₀ ρ s) (R:Rel C F ρ m s) (hit:It i ρ s) (as:cG C F ρ s.heap S) (hf:dY g st Q (items.drop i) m)
inductive WhI (C:Glo)(F:Fm)(P:Nat→MS→Prop)(ρ₀:List Addr)(s₀:Shared)(k:Nat)(s:Shared):Prop
 | mk (ρ:List Addr) (m:MS) (st₁:aq F.W ρ₀ s₀ ρ s) (R:Rel C F ρ m s) (hw:P k m)
theorem C7 (cx:au C c F n)(fo:nS F)(hbs:C.base.StaysIn s₀.heap){target:Expr}{itv:Value}{items:List MV}{g:Gd}{S:List Addr}{It:Nat→List Addr→Shared→Prop}(wk:mr C F.A target itv items g S [] It)
  {st:MV→(Fl→MS→Prop)→MS→Prop}{Q:Fl→MS→Prop}{body:List Stmt}(hS:∀a∈S,s₀.heap.get? a=none)
  (hb:∀x v ρ m s (P:Fl→MS→Prop),Rel C F ρ m s→Rep C ρ s.heap x v→st x P m→wpAny (mod C) F.A (assign target F.env v) (fun _ s₁=>wpAny (mod C) F.A (execs body F.env) (iB C F ρ s P) (Er C F X ρ s) s₁) (Er C F X ρ s) s)
  (st₀:aq F.W ρ₀ s₀ ρ s) (R:Rel C F ρ m s) (h0:It 0 ρ s) (as:cG C F ρ s.heap S) (h:dY g st Q items m) :
  codeAny (mod C) F.A (.forLoop target itv body [] F.env) (fun r s'=>match r with | .ok f=>iB C F ρ₀ s₀ Q f s' | .error e=>cameBackBy (mod C) F.A F.env (Er C F X ρ₀ s₀) e s') s:=by
 refine codeAny_forLoop_any (Fu C F items g st Q S It ρ₀ s₀) (fun k s hI=>?_) _ ⟨ρ,m,0,rfl,st₀,R,h0,as,by exact h⟩
 obtain ⟨ρ,m,i,rfl,st₁,R,hit,as,hf⟩:=hI
 cases e:items[i]? with
 | none=>
  have:items.drop i=[]:=by rw [List.drop_eq_nil_iff];exact List.getElem?_eq_none_iff.mp e
  rw [this,oy] at hf
  obtain ⟨hg,hq⟩:=hf
  refine wpAny_mono (wk.done i ρ m.heap s R.hp hg hit e (fun _ _=>False) (fun s₂=>fE S s s₂) fun s₂ sd=>sd) (fun r s₁ ⟨hr,sd⟩=>?_) fun _ _ x=>x.elim
  subst hr
  exact wpAny_execs_nil ⟨ρ,m,.next,st₁.side sd hS,R.side cx.fm as sd,.next,hq⟩
 | some x=>
  obtain ⟨hlt,hx⟩:=List.getElem?_eq_some_iff.mp e
  rw [List.drop_eq_getElem_cons hlt,hx,mF] at hf
  obtain ⟨hg,hq⟩:=hf
  refine wk.item i ρ m.heap s x R.hp hg hit e _ _ _ fun v s₂ sd hit' rv=>?_
  have R₂:=R.side cx.fm as sd
  have st₂:=st₁.side sd hS
  refine wpAny_mono (hb x v ρ m s₂ _ R₂ rv hq) (fun _ s₃ h₃=>wpAny_mono h₃ (fun f s₄ h₄=>?_) fun e s' x=>ke cx.fm fo hbs (Er.back st₂ e s' x)) fun e s' x=>ke cx.fm fo hbs (Er.back st₂ e s' x)
  obtain ⟨ρ₄,m₄,fl,st₄,R₄,hfl,hq₄⟩:=h₄
  obtain ⟨as₄,kp₄⟩:=(as.shape (wk.shape _ _ _ hit')).step st₄
  have hit₄:=wk.keep _ _ _ _ _ hit' st₄.pre st₄.solid (by rw [List.append_nil];exact kp₄)
  have hlt2:items.length-(i+1)<items.length-i:=Nat.sub_succ_lt_self _ _ hlt
  cases fl with
  | next=>obtain rfl:=hfl.inv;exact ⟨_,hlt2,ρ₄,m₄,i+1,rfl,st₂.trans st₄,R₄,hit₄,as₄,hq₄⟩
  | cont=>obtain rfl:=hfl.inv;exact ⟨_,hlt2,ρ₄,m₄,i+1,rfl,st₂.trans st₄,R₄,hit₄,as₄,hq₄⟩
  | brk=>obtain rfl:=hfl.inv;exact ⟨ρ₄,m₄,.next,st₂.trans st₄,R₄,.next,hq₄⟩
  | ret r=>obtain ⟨v,rfl,rv⟩:=hfl.inv;exact ⟨ρ₄,m₄,.ret _,st₂.trans st₄,R₄,.ret rv,hq₄⟩
theorem jD:∀{es:List (List Nat × MV)}{kvs:List (Str × Value)}{h:Heap},dH C ρ h es kvs→(kvs.map (·.1)).Nodup→∀{k:List Nat}{x:MV}{v:Value},k.length≤line→Rep C ρ h x v→dH C ρ h (ch es k x) (stored kvs (str k) v)
 | _,_,_,.nil,_,k,x,v,z,r=>by
  exact .cons z r .nil
 | _,_,_,@dH.cons _ _ _ k' x' v' es ds z' a b,hn,k,x,v,z,r=>by
  simp only [List.map_cons,List.nodup_cons] at hn
  show dH C ρ _ (match k'==k with
   | true=>(k',x)::es
   | false=>(k',x')::ch es k x) _
  by_cases e:k'=k
  ·subst e
   rw [beq_self_eq_true]
   have e1:stored ((str k',v')::ds) (str k') v=(str k',v)::ds:=by
    unfold stored
    rw [if_pos (by simp)]
    simp only [List.map_cons,if_true]
    congr 1
    conv=>rhs;rw [←List.map_id ds]
    refine List.map_congr_left fun p hp=>?_
    rw [if_neg (fun q=>hn.1 (by rw [←q];exact List.mem_map.mpr ⟨p,hp,rfl⟩))];rfl
   rw [e1]
   exact .cons z r b
  ·have e2:¬ str k'=str k:=fun q=>e (ik q)
   have e1:(k'==k)=false:=by exact beq_eq_false_iff_ne.mpr e
   rw [e1]
   have e3:stored ((str k',v')::ds) (str k) v=(str k',v')::stored ds (str k) v:=by
    unfold stored
    simp only [List.any_cons,e2,decide_false,Bool.false_or,List.map_cons,if_false]
    split<;>rfl
   rw [e3]
   exact .cons z' a (jD b hn.2 z r)
theorem lm:∀(es:List (List Nat × MV)) (k:List Nat) (x:MV),(ch es k x).length≤es.length+1
 | [],_,_=>Nat.le_refl _
 | (k',x')::r,k,x=>by
  show (match k'==k with
   | true=>(k',x)::r
   | false=>(k',x')::ch r k x).length≤_
  cases k'==k with
  | true=>exact Nat.le_succ _
  | false=>exact Nat.succ_le_succ (lm r k x)
theorem qF {v:Expr}(h:okX v=true)(x:Str)(px:Pos)(l:Nat)(env:Env):∃b,swapsWith v (some (.Name x px)) l env=pure b:=by
 cases hi:cU v with
 | false=>exact ⟨false,d0 hi h _ _ _⟩
 | true=>
  unfold cU at hi
  obtain ⟨k,hk⟩:=Option.isSome_iff_exists.mp hi
  obtain ⟨p,rfl⟩:=nH hk
  exact ⟨_,rfl⟩
theorem tM {v:Expr}(h:okX v=true)(elts:List Expr)(k:Nat)(p:Pos)(l:Nat)(env:Env):swapsWith v (some (.Tuple elts k p)) l env=pure false:=by
 cases hi:cU v with
 | false=>exact d0 hi h _ _ _
 | true=>
  unfold cU at hi
  obtain ⟨k,hk⟩:=Option.isSome_iff_exists.mp hi
  obtain ⟨p,rfl⟩:=nH hk
  rfl
theorem wZ {e:ME}(h:nT e=true):∃elt t many k src ifs,e=.comp elt t many k src ifs:=by
 cases e<;>first | exact ⟨_,_,_,_,_,_,rfl⟩ | exact ff h
theorem qG {v:Expr}{t:Option Expr}{l:Nat}{env:Env}(h':okX v=true)(h:swapsWith v t l env=pure true):cU v=true:=by
 cases hi:cU v with
 | true=>rfl
 | false=>
  rw [d0 hi h'] at h
  exact absurd h (by intro h;injection h with h;exact ff h)
theorem xb (G:GOk C)(cx:au C c F n){e:ME}{v:Expr}{i:Nat}{x:Str}{px pos:Pos}(hx:c.nm i=some x)(hk:c.kind x=some .local∨(c.wr=true∧c.kind x≠some .free))(hm:nT e=true)(he:aO c e v=true)
  (hb:swapsWith v (some (.Name x px)) pos.line F.env=pure true) {Q:Fl→MS→Prop}(h:wpE (Call C) n e (fun v m=>asg [i] false v (fun m=>Q .next m) m) X m) (R:Rel C F ρ m s) :
  wpAny (mod C) F.A (exec (.Assign [.Name x px] v pos) F.env) (iB C F ρ s Q) (Er C F X ρ s) s:=by
 obtain ⟨elt,t,many,k,src,ifs,rfl⟩:=wZ hm
 rw [exec_Assign_Name_used _ _ _ _ hb]
 obtain ⟨⟨elt',gs,sc⟩,hxx,he⟩:=ae he
 obtain ⟨g,hg,he⟩:=ae he
 obtain rfl:=bE hg
 obtain ⟨pos',rfl⟩:=nH hxx
 obtain ⟨he,h8⟩:=aj he
 obtain ⟨he,h7⟩:=aj he
 obtain ⟨he,h6⟩:=aj he
 obtain ⟨he,h5⟩:=aj he
 obtain ⟨he,h4⟩:=aj he
 obtain ⟨he,h9⟩:=aj he
 obtain ⟨he,h3⟩:=aj he
 obtain ⟨he,h2⟩:=aj he
 obtain ⟨h0,h1⟩:=aj he
 have h1:=eq_of_beq h1
 have h3:=y3 h3
 have h9:=y3 h9
 obtain ⟨xs,hxs,h5⟩:=ae h5
 have ha:firstAsync [g]=false:=by
  obtain ⟨_,_,_,a⟩:=g;simp only at h1;subst h1;rfl
 refine wpAny_bind (wpAny_standAt (wpAny_bind ?_))
 show wpAny _ F.A (do let _ ←comprehension (.ListComp elt' [g] sc pos') sc F.env (firstIterPos [g] pos') (newList []) (firstAsync [g]) (firstIter [g] F.env) (some (assign (.Name x px) F.env))) _ _ s
 have hfi:firstIter [g] F.env=eval g.iter F.env:=by cases g;rfl
 rw [ha,hfi]
 refine wpAny_bind (wpAny_mono (rL (use:=some (assign (.Name x px) F.env)) (QQ:=fun _ s'=>iB C F ρ s Q .next s') G cx h0 h1 h2 (fun e=>h3.resolve_left (by rw [e];decide)) (fun e=>h9.resolve_left fun q=>q e) h4 hxs h5 h6 h7 h8 (fun a ha=>(sEs G src X c F cx a ha).1)
  (fun F' cx'=>(sE G elt noX _ F' cx').1) (fun F' cx' a ha=>(sEs G ifs noX _ F' cx' a ha).2) h R fun D L ρ' m' s' j st R' rx hq hl=>?_) (fun _ s' hq=>wpAny_pure (wpAny_pure hq)) fun _ _ x=>x)
 show wpAny _ _ (assign (.Name x px) F.env (.ref D)) _ _ _
 refine PyProof.Rows.assign_Name (d4 cx R' hx hk rx fun s₂ st2 R₂ _=>?_)
 obtain ⟨⟨f,hf⟩,hs⟩:=hl ρ' _ s₂ st2 R₂
 refine ⟨f,hf,fun h' hsb=>?_⟩
 obtain ⟨Rf,stf,hsol⟩:=hs h' hsb
 exact ⟨ρ',_,.next,stf,Rf,.next,hq⟩
noncomputable def SS (C:Glo)(X:XM)(n:Nat)(c:Cx)(F:Fm)(me:MSt):Prop:=∀(e:Stmt),EL c me e=true→∀(Q:Fl→MS→Prop) (m:MS),wpS (Call C) n me Q X m→WPs C F X (exec e F.env) Q m
noncomputable def SSs (C:Glo)(X:XM)(n:Nat)(c:Cx)(F:Fm)(ss:List MSt):Prop:=∀(es:List Stmt),gQ c ss es=true→∀(Q:Fl→MS→Prop) (m:MS),ax (Call C) n ss Q X m→WPs C F X (execs es F.env) Q m
theorem C8 (G:GOk C)(cx:au C c F n){t:List Nat}{many:Bool}{e:ME}:SS C X n c F (.asg t many e):=by
 intro st hc Q m h
 obtain ⟨hv,hc⟩:=aj hc
 obtain ⟨tg,h1,hc⟩:=ae hc
 rw [cv hv rfl,bE h1]
 clear hv h1
 generalize (aR st).e2=v at *
 generalize (aR st).p=pos at *
 obtain ⟨hc,he⟩:=aj hc
 obtain ⟨hc,hnh⟩:=aj hc
 obtain ⟨hc,hcm⟩:=aj hc
 obtain ⟨hc,hm⟩:=aj hc
 obtain ⟨ht,ho⟩:=aj hc
 intro s ρ R
 cases many with
 | false=>
  obtain ⟨i,x,px,rfl,rfl,h1,h2⟩:=kO ht
  obtain ⟨b,hb⟩:=qF ho x px pos.line F.env
  cases b with
  | false=>
   refine wpAny_Assign_Name ((eV G cx e v he _ m h).go R (.refl _ _ _) fun ρ₁ s₁ m₁ y w st t1 R₁ rx h₁=>?_) hb
   exact d4 cx R₁ h1 (fD h2) rx fun s₂ st2 R₂ _=>⟨ρ₁,_,.next,t1.trans st2,R₂,.next,h₁⟩
  | true=>exact xb G cx h1 (fD h2) ((y3 hcm).resolve_left fun q=>q (qG ho hb)) he hb h R
 | true=>
  obtain ⟨elts,k,p,rfl,_⟩:=gu ht
  refine PyProof.Rows.Assign_Tuple ((eV G cx e v he _ m h).go R (.refl _ _ _) fun ρ₁ s₁ m₁ y w st t1 R₁ rx h₁=>?_) (tM ho elts k p pos.line F.env) (qE (jB hm) ho _)
  exact wpAny_mono (jl cx ht rx R₁ h₁ fun _=>cx.hn (by rw [←hnh];exact (Bool.or_false _).symm)) (fun _ s₂ ⟨m',st2,R₂,q⟩=>⟨ρ₁,m',.next,t1.trans st2,R₂,.next,q⟩) fun _ _ x=>x
theorem tN (G:GOk C)(cx:au C c F n)(R:Rel C F ρ m s)(t3:aq F.W ρ₀ s₀ ρ s){x y u:MV}{xv yv uv:Value}(rx:Rep C ρ s.heap x xv)(ry:Rep C ρ s.heap y yv)(ru:Rep C ρ s.heap u uv){Q:Fl→MS→Prop}(h:oE x y u (Q .next) m) :
  wpAny (mod C) A (setItem xv yv uv) (fun _ s'=>iB C F ρ₀ s₀ Q .next s') E s:=by
 refine Classical.byContradiction fun hn=>?_
 cases y with
 | str k=>
  obtain ⟨r,rfl,h1⟩:=dI h
  obtain ⟨es,hes,hlen,hq⟩:=ot h1
  obtain ⟨a,rfl,g⟩:=rx.inv
  obtain ⟨t,rfl,z⟩:=ry.inv
  obtain ⟨kvs,dk,rk,zz⟩:=R.hp.objs _ _ _ hes g
  refine hn (wpAny_setItem_pairs (knd:=strKind C.prog C.w) (k:=str k) (strKind_is _ _ _ _) dk (fun h' hd hs=>?_) (by rw [rk.length];exact Nat.le_of_lt hlen))
  have hk:∀b ob,b≠a→s.heap.get? b=some ob→h'.get? b=some ob:=fun b ob q e=>(hs.2 b q).trans e
  have hsol:aZ s.heap h':=cK hk (cq (R.hp.objs _ _ _ hes g))
  have hnd:(kvs.map (·.1)).Nodup:=by obtain ⟨_,_,_,_,_,_,_,_,hn⟩:=dk;exact hn
  obtain ⟨R₄,st₄⟩:=R.put (s':={ s with heap:=h',toks:=s.toks+1 }) cx.fm g hes (o:=.dict (ch es k u)) hk rfl rfl
   ⟨_,hd,(jD rk hnd z ru).up hsol (List.prefix_refl _),Nat.le_trans (lm es k u) hlen⟩
  exact ⟨_,_,.next,t3.trans st₄,R₄,.next,hq⟩
 | int k=>
  obtain ⟨r,rfl,h1⟩:=dI h
  obtain ⟨xs,hi,h1⟩:=bX h1
  obtain ⟨j,hj,h1,hq⟩:=b8 h1
  obtain ⟨t,rfl⟩:=ry.inv
  exact hn (zO cx.fm R rx hi hj h1 ru fun s' R₄ st₄=>⟨_,_,.next,t3.trans st₄,R₄,.next,hq⟩)
 | _=>exact h
set_option tactic.hygienic true in
theorem tP (G:GOk C)(cx:au C c F n){o i e:ME}:SS C X n c F (.setIdx o i e):=by
 intro st hc Q m h
 obtain ⟨hv,hc⟩:=aj hc
 obtain ⟨tg,h1,hc⟩:=ae hc
 rw [cv hv rfl,bE h1]
 clear hv h1
 generalize (aR st).e2=v at *
 generalize (aR st).p=pos at *
 obtain ⟨hc,ho⟩:=aj hc
 obtain ⟨hc,he⟩:=aj hc
 obtain ⟨hox,hcomp⟩:=aj hc
 obtain ⟨⟨ov,iv⟩,hx,ho⟩:=ae ho
 obtain ⟨p,rfl⟩:=j8 hx
 obtain ⟨ho,hi⟩:=aj ho
 intro s ρ R
 refine wpAny_Assign_Subscript ((eV G cx e v he _ m h).go R (.refl _ _ _) fun ρ₁ s₁ m₁ x xv st t1 R₁ rx h₁=>?_) (d0 (jB hcomp) hox _ _ _)
 refine (eV G cx o ov ho _ m₁ h₁).go R₁ t1 fun ρ₂ s₂ m₂ y yv st2 t2 R₂ ry h₂=>?_
 exact (eV G cx i iv hi _ m₂ h₂).go R₂ t2 fun ρ₃ s₃ m₃ z zv st3 t3 R₃ rz h₃=>tN G cx R₃ t3 (ry.step st3) rz ((rx.step st2).step st3) h₃
theorem zQ (G:GOk C)(cx:au C c F n){e:ME}:SS C X n c F (.expr e):=by
 intro st hc Q m h
 obtain ⟨hv,hc⟩:=aj hc
 obtain ⟨hc,he⟩:=aj hc
 obtain ⟨h1,h2⟩:=aj hc
 rw [cv hv rfl]
 intro s ρ R
 exact wpAny_Expr_any ((eV G cx e _ he _ m h).go R (.refl _ _ _) fun ρ₁ s₁ m₁ y w st t1 R₁ rx h₁=>⟨_,_,.next,t1,R₁,.next,h₁⟩) cx.inter (d0 (jB h2) h1 _ _ _)
theorem C9 (G:GOk C)(cx:au C c F n){d:ME}{a b:List MSt}(ia:SSs C X n c F a)(ib:SSs C X n c F b):SS C X n c F (.ite d a b):=by
 intro st hc Q m h
 obtain ⟨hv,hc⟩:=aj hc
 obtain ⟨hc,hb⟩:=aj hc
 obtain ⟨hd,ha⟩:=aj hc
 rw [cv hv rfl]
 intro s ρ R
 refine wpAny_If ((wV G cx d _ hd _ m h).go R (.refl _ _ _) fun ρ₁ s₁ m₁ t st t1 R₁ h₁=>?_)
 cases t with
 | true=>exact wpAny_mono (ia _ ha Q m₁ h₁ s₁ ρ₁ R₁) (iB.back t1) (Er.back t1)
 | false=>exact wpAny_mono (ib _ hb Q m₁ h₁ s₁ ρ₁ R₁) (iB.back t1) (Er.back t1)
theorem Da (G:GOk C)(cx:au C c F n)(fo:nS F){t:List Nat}{many:Bool}{k:IK}{src:List ME}{body:List MSt}(ib:SSs C X n c F body):SS C X n c F (.for_ t many k src body):=by
 intro st hc Q m h
 obtain ⟨hv,hc⟩:=aj hc
 obtain ⟨hc,hb⟩:=aj hc
 obtain ⟨hc,hi⟩:=aj hc
 obtain ⟨hc,hx⟩:=aj hc
 obtain ⟨hc,hkk⟩:=aj hc
 obtain ⟨hc,hm⟩:=aj hc
 obtain ⟨hc,ht⟩:=aj hc
 obtain ⟨hnh,hb2⟩:=aj hc
 rw [cv hv rfl,List.isEmpty_iff.mp hb2]
 intro s ρ R
 obtain ⟨xs,hxs,hi⟩:=ae hi
 refine wpAny_For (wpAny_mono (rE G cx hnh (fun a ha=>(sEs G src X c F cx a ha).1) hxs hi (jC ht) (fun e=>by
  obtain rfl:=(y3 hm).resolve_left fun q=>q e
  obtain ⟨a,b,d,e,_⟩:=gu ht
  exact ⟨a,b,d,e,trivial⟩) (P:=fun items g m=>dY g (fun v P m=>asg t many v (fun m=>ax (Call C) n body P X m) m) Q items m) h R) (fun xv s₁ h₁=>wpAny_mono h₁ (fun itv s₂ h₂=>?_) fun _ _ x=>x) fun _ _ x=>x) (kE hx _)
 obtain ⟨ρ₂,m₂,items,g,S,U,It,st₂,R₂,wk,h0,as,hS,_,hf,hU,_⟩:=h₂
 obtain rfl:=hU (Bool.not_eq_true' _▸hkk)
 refine C7 cx fo R.hp.base wk hS (fun x v ρ m s P R rv hst=>?_) st₂ R₂ h0 as hf
 refine wpAny_mono (jl (E:=fun _ _=>False) cx ht rv R hst fun _=>cx.hn hnh) (fun _ s₁ ⟨m',st1,R₁,q⟩=>?_) fun _ _ x=>x.elim
 exact wpAny_mono (ib _ hb P m' q s₁ ρ R₁) (iB.back st1) (Er.back st1)
theorem xc (G:GOk C)(cx:au C c F n)(fo:nS F){d:ME}{body:List MSt}(ib:SSs C X n c F body):SS C X n c F (.while_ d body):=by
 intro st hc Q m h
 obtain ⟨hv,hc⟩:=aj hc
 obtain ⟨hc,hb⟩:=aj hc
 obtain ⟨hb2,hd⟩:=aj hc
 rw [cv hv rfl,List.isEmpty_iff.mp hb2]
 obtain ⟨k,h⟩:=h
 intro s ρ R
 refine wpAny_While (codeAny_whileLoop (WhI C F (du (fun P m=>wpE (Call C) n d (cp P) X m) (fun P m=>ax (Call C) n body P X m) Q) ρ s) (fun k s₁ hI=>?_) k ⟨ρ,m,.refl _ _ _,R,h⟩)
 obtain ⟨ρ₁,m₁,st₁,R₁,hw⟩:=hI
 cases k with
 | zero=>rw [oB] at hw;exact hw.elim
 | succ k=>
  rw [jy] at hw
  refine wpAny_mono (wV G cx d _ hd _ m₁ hw s₁ ρ₁ R₁) (fun t s₂ ⟨ρ₂,m₂,st₂,R₂,h₂⟩=>?_) fun e s' x=>ke cx.fm fo R.hp.base (Er.back st₁ e s' x)
  cases t with
  | true=>
   rw [if_pos rfl]
   refine wpAny_mono (ib _ hb _ m₂ h₂ s₂ ρ₂ R₂) (fun f s₃ ⟨ρ₃,m₃,fl,st₃,R₃,hfl,h₃⟩=>?_) fun e s' x=>ke cx.fm fo R.hp.base (Er.back (st₁.trans st₂) e s' x)
   have stt:=(st₁.trans st₂).trans st₃
   cases fl with
   | next=>obtain rfl:=hfl.inv;exact ⟨k,Nat.lt_succ_self k,ρ₃,m₃,stt,R₃,h₃⟩
   | cont=>obtain rfl:=hfl.inv;exact ⟨k,Nat.lt_succ_self k,ρ₃,m₃,stt,R₃,h₃⟩
   | brk=>obtain rfl:=hfl.inv;exact ⟨ρ₃,m₃,.next,stt,R₃,.next,h₃⟩
   | ret r=>obtain ⟨v,rfl,rv⟩:=hfl.inv;exact ⟨ρ₃,m₃,.ret _,stt,R₃,.ret rv,h₃⟩
  | false=>
   rw [if_neg (by decide)]
   exact wpAny_execs_nil ⟨ρ₂,m₂,.next,st₁.trans st₂,R₂,.next,h₂⟩
theorem xd {e:ME}(h:rM e=true):e=.cst .none:=by
 cases e with
 | cst v=>cases v<;>first | rfl | exact ff h
 | _=>exact ff h
theorem Dc (G:GOk C)(cx:au C c F n){e:ME}:SS C X n c F (.ret e):=by
 intro st hc Q m h
 obtain ⟨hv,hc⟩:=aj hc
 rw [cv hv rfl]
 clear hv
 intro s ρ R
 cases ho:(aR st).o1 with
 | some x=>
  rw [ho] at hc
  exact wpAny_Return_some ((eV G cx e _ hc _ m h).go R (.refl _ _ _) fun ρ₁ s₁ m₁ y w st t1 R₁ rx h₁=>⟨_,_,_,t1,R₁,.ret rx,h₁⟩)
 | none=>
  rw [ho] at hc
  obtain rfl:=xd hc
  exact wpAny_Return_none ⟨ρ,m,.ret .none,.refl _ _ _,R,.ret .none,h⟩
theorem zR:SS C X n c F .cont:=by
 intro st hc Q m h
 rw [cv hc rfl]
 intro s ρ R
 exact wpAny_Continue ⟨_,_,_,.refl _ _ _,R,.cont,h⟩
theorem zS:SSs C X n c F []:=by
 intro es hc Q m h
 cases es with
 | nil=>intro s ρ R;exact wpAny_execs_nil ⟨_,_,_,.refl _ _ _,R,.next,h⟩
 | cons=>exact ff hc
theorem xe {x:MSt}{ss:List MSt}(ix:SS C X n c F x)(iss:SSs C X n c F ss):SSs C X n c F (x::ss):=by
 intro es hc Q m h
 cases es with
 | nil=>exact ff hc
 | cons e es=>
  replace hc:=aj hc
  intro s ρ R
  refine wpAny_execs_cons (wpAny_mono (ix e hc.1 _ m h s ρ R) (fun f s₁ ⟨ρ₁,m₁,fl,st,R₁,hfl,h₁⟩=>?_) fun _ _ x=>x)
  cases fl with
  | next=>obtain rfl:=hfl.inv;exact wpAny_mono (iss es hc.2 Q m₁ h₁ s₁ ρ₁ R₁) (iB.back st) (Er.back st)
  | brk=>obtain rfl:=hfl.inv;exact ⟨_,_,_,st,R₁,.brk,h₁⟩
  | cont=>obtain rfl:=hfl.inv;exact ⟨_,_,_,st,R₁,.cont,h₁⟩
  | ret r=>obtain ⟨v,rfl,rv⟩:=hfl.inv;exact ⟨_,_,_,st,R₁,.ret rv,h₁⟩
end
end Internal
end
section
namespace Internal
open PySem PyProof.Rows
theorem eW:∀(es:List (List Nat × MV)) (x:List Nat) (v:MV) (k:List Nat),bf (ch es x v) k=if k=x then some v else bf es k
 | [],x,v,k=>by
  show (match x==k with | true=>some v | false=>none)=_
  by_cases e:k=x
  ·subst e;rw [beq_self_eq_true,if_pos rfl]
  ·rw [if_neg e,beq_eq_false_iff_ne.mpr (Ne.symm e)];rfl
 | (y,w)::r,x,v,k=>by
  have ih:=eW r x v k
  by_cases e:y=x
  ·subst e
   show bf (match y==y with | true=>(y,v)::r | false=>(y,w)::ch r y v) k=_
   rw [beq_self_eq_true]
   show (match y==k with | true=>some v | false=>bf r k)=if k=y then some v else (match y==k with | true=>some w | false=>bf r k)
   by_cases e2:k=y
   ·subst e2;rw [beq_self_eq_true,if_pos rfl]
   ·rw [if_neg e2,beq_eq_false_iff_ne.mpr (Ne.symm e2)]
  ·show bf (match y==x with | true=>(y,v)::r | false=>(y,w)::ch r x v) k=_
   rw [beq_eq_false_iff_ne.mpr e]
   show (match y==k with | true=>some w | false=>bf (ch r x v) k)=if k=x then some v else (match y==k with | true=>some w | false=>bf r k)
   by_cases e2:y=k
   ·subst e2;rw [beq_self_eq_true,if_neg e]
   ·rw [beq_eq_false_iff_ne.mpr e2];exact ih
theorem pd:∀{es:List (List Nat × MV)}{k:List Nat},bf es k≠none→k∈es.map (·.1)
 | [],_,h=>absurd rfl h
 | (y,w)::r,k,h=>by
  by_cases e:y=k
  ·subst e;exact List.mem_cons_self ..
  ·refine List.mem_cons_of_mem _ (pd fun q=>h ?_)
   show (match y==k with | true=>some w | false=>bf r k)=none
   rw [beq_eq_false_iff_ne.mpr e];exact q
section
variable {C:Glo}{F:Fm}{X:XM}{c:Cx}{n:Nat}{ρ:List Addr}{m:MS}{s:Shared}{A:Around}{E:Value→Shared→Prop}
theorem xf (G:GOk C)(cx:au C c F n)(R:Rel C F ρ m s){k i:Nat}{x:List Nat}{y:Str}{v:Value}{u:MV}{uv:Value}(hx:Rep C ρ s.heap (.inst k i) v)(hu:Rep C ρ s.heap u uv){es:List (List Nat × MV)}(hi:m.heap[i]?=some (.attrs es))(hl:es.length<1000)(hy:y=str x)(hno:cM.contains y=true)(ha:c.at_ k y=true){P:Unit→Shared→Prop}
  (h:∀s',aq F.W ρ s ρ s'→Rel C F ρ (m.put i (.attrs (ch es x u))) s'→P () s'):wpAny (mod C) A (setAttr v y uv) P E s:=by
 obtain ⟨a,K,N,da,mA,rfl,hc,hN,hao,hρ,hns,I,had,haK,h1,h2⟩:=kZ G R hx hi
 obtain ⟨q1,q2,q3⟩:=G.quiet _ _ hc
 obtain ⟨nm,q,bs,sn,sub,col,dd,k0,k1,k2,k3,k5,e⟩:=kY hN
 obtain ⟨hp,gg,dr,t,os⟩:=s
 subst hy
 refine store_attr (ns:=es.map fun p=>str p.1) PySem.F.store_object e hN.ns q1 (cx.attr _ _ ha) (o8 hno) haK I (fun h' tk' I' hk hx'=>?_) (fun z hz=>?_) (by rw [List.length_map,sizeLine_eq];exact n1 hl (by simp +arith only))
 ·obtain ⟨o₁,e1,e2,e3,e4,e5⟩:=hx' _ hao
  have e6:=e5 da rfl
  obtain ⟨o₂,g1,g2,g3,g4⟩:=I'
  obtain rfl:=same e1 g1
  have hns':h'.Ns1 da (fun y=>if y=str x then some uv else mA y):=by
   rcases g4 with ⟨g4,_⟩ | ⟨d',g4,_,g5⟩
   ·exact aX g4 e6
   ·obtain rfl:=same e6 g4;exact g5
  have ho:o₁=jz K da:=by
   obtain ⟨c1,d1,t1,s1⟩:=o₁
   simp only at e2 e3 e4 e6
   subst e2;subst e3;subst e4;subst e6;rfl
  subst ho
  have hkk:∀b ob,b≠da→hp.get? b=some ob→h'.get? b=some ob:=fun b ob hb eb=>by
   by_cases hba:b=a
   ·subst hba;obtain rfl:=same hao eb;exact e1
   ·exact hk b ob hba (fun o₀ dx q1 q2=>by obtain rfl:=same hao q1;obtain rfl:=Option.some.inj q2;exact hb) eb
  have hsol:aZ hp h':=cK hkk (cq (R.hp.objs _ _ _ hi hρ))
  obtain ⟨R',st⟩:=R.put (s':=⟨h',gg,dr,tk',os⟩) cx.fm hρ hi (o:=.attrs (ch es x u)) hkk rfl rfl
   (show uR _ _ _ _ _ from ⟨_,hns',fun z w e=>by
    rw [eW] at e
    by_cases ez:z=x
    ·subst ez
     obtain rfl:=Option.some.inj ((if_pos rfl).symm.trans e)
     exact ⟨uv,if_pos rfl,hu.up hsol (List.prefix_refl _)⟩
    ·rw [if_neg ez] at e
     obtain ⟨w',hw,rw'⟩:=h1 z w e
     exact ⟨w',by rw [if_neg fun q=>ez (ik q)];exact hw,rw'.up hsol (List.prefix_refl _)⟩,fun z e=>by
    rw [eW] at e
    by_cases ez:z=x
    ·subst ez;exact pT ((if_pos rfl).symm.trans e)
    ·rw [if_neg ez] at e
     rw [if_neg fun q=>ez (ik q)];exact h2 z e,Nat.le_trans (lm es x u) hl⟩)
  exact h _ st R'
 ·have ez:z=str z.cps.toList:=by obtain ⟨⟨l⟩⟩:=z;rfl
  rw [ez]
  refine List.mem_map.mpr ?_
  have hk:z.cps.toList∈es.map (·.1):=pd fun q=>hz (by rw [ez];exact h2 _ q)
  obtain ⟨p,hp,e⟩:=List.mem_map.mp hk
  exact ⟨p,hp,congrArg str e⟩
theorem qH (G:GOk C)(cx:au C c F n){k:Nat}{o e:ME}{x:List Nat}:SS C X n c F (.setAttr k o x e):=by
 intro st hc Q m h
 obtain ⟨hv,hc⟩:=aj hc
 obtain ⟨tg,h1,hc⟩:=ae hc
 rw [cv hv rfl,bE h1]
 clear hv h1
 generalize (aR st).e2=v at *
 generalize (aR st).p=pos at *
 obtain ⟨hc,ho⟩:=aj hc
 obtain ⟨hc,he⟩:=aj hc
 obtain ⟨hox,hcomp⟩:=aj hc
 obtain ⟨⟨ov,name,p⟩,hx,ho⟩:=ae ho
 obtain rfl:=kD hx
 obtain ⟨hc,ho⟩:=aj ho
 obtain ⟨hc,hat⟩:=aj hc
 obtain ⟨hn,hno⟩:=aj hc
 intro s ρ R
 refine plainObj_wpAny_Assign_Attribute ((eV G cx e v he _ m h).go R (.refl _ _ _) fun ρ₁ s₁ m₁ u uv st t1 R₁ ru h₁=>?_) (d0 (jB hcomp) hox _ _ _)
 refine (eV G cx o ov ho _ m₁ h₁).go R₁ t1 fun ρ₂ s₂ m₂ y yv st2 t2 R₂ ry h₂=>?_
 obtain ⟨i,rfl,h3⟩:=oD h₂
 obtain ⟨es,hi,hl,hq⟩:=oC h3
 exact xf G cx R₂ ry (ru.step st2) hi hl (qx hn) hno hat fun s' st3 R'=>⟨_,_,.next,t2.trans st3,R',.next,hq⟩
end
end Internal
end
section
namespace Internal
open PySem PyProof.Rows
section
variable {C:Glo}{F:Fm}{X:XM}{c:Cx}{n:Nat}{ρ:List Addr}{m:MS}{s:Shared}{A:Around}{E:Value→Shared→Prop}
theorem xg (G:GOk C)(cx:au C c F n){k:Nat}:SS C X n c F (.raise k):=fun st hc Q m h=>ff h.1
end
end Internal
end
section
namespace Internal
open PySem PyProof.Rows
section
variable {C:Glo}{F:Fm}{X:XM}{c:Cx}{n:Nat}{ρ ρ₀:List Addr}{m:MS}{s s₀:Shared}{A:Around}{E:Value→Shared→Prop}
theorem Dd (G:GOk C)(cx:au C c F n)(fo:nS F){body h:List MSt}{k v:Nat}(ib:∀X',SSs C X' n c F body)(ih:∀F',au C (inH c) F' n→nS F'→SSs C noX n (inH c) F' h):SS C X n c F (.try_ body k v h):=fun st hc Q m h=>ff h.1
end
end Internal
end
section
namespace Internal
open PySem PyProof.Rows
section
variable {C:Glo}{n:Nat}
mutual
theorem De (G:GOk C):∀(me:MSt) (X:XM) (c:Cx) (F:Fm),au C c F n→nS F→SS C X n c F me
 | .asg t many e,X,c,F,cx,fo=>C8 G cx
 | .setAttr k o x e,X,c,F,cx,fo=>qH G cx
 | .setIdx o i e,X,c,F,cx,fo=>tP G cx
 | .expr e,X,c,F,cx,fo=>zQ G cx
 | .ite d a b,X,c,F,cx,fo=>C9 G cx (dP G a X c F cx fo) (dP G b X c F cx fo)
 | .for_ t many k src body,X,c,F,cx,fo=>Da G cx fo (dP G body X c F cx fo)
 | .while_ d body,X,c,F,cx,fo=>xc G cx fo (dP G body X c F cx fo)
 | .ret e,X,c,F,cx,fo=>Dc G cx
 | .cont,X,c,F,cx,fo=>zR
 | .raise k,X,c,F,cx,fo=>xg G cx
 | .try_ body k v h,X,c,F,cx,fo=>Dd G cx fo (fun X'=>dP G body X' c F cx fo) fun F' cx' fo'=>dP G h noX _ F' cx' fo'
theorem dP (G:GOk C):∀(ss:List MSt) (X:XM) (c:Cx) (F:Fm),au C c F n→nS F→SSs C X n c F ss
 | [],X,c,F,cx,fo=>zS
 | x::ss,X,c,F,cx,fo=>xe (De G x X c F cx fo) (dP G ss X c F cx fo)
end
end
end Internal
end
section
namespace Internal
open PySem PyProof.Rows
set_option genCtorIdx false in
structure Sg where
 fn:Nat→Option Str
 gl:Nat→Option (Str × MV)
 hf:Nat→Bool
 cn:Nat→Option Str
 xn:Nat→Option Str
 mt:Nat→Option (Nat × Str)
 at_:Nat→Str→Bool
noncomputable def zT (sc:Scope)(ns:List Str)(z:Sg)(nh:Bool):Cx:=⟨fun x=>sc.names.lookup x,fun i=>ns[i]?,z.fn,z.gl,true,fun i=>decide (ns.length≤i),nh,z.hf,z.cn,z.xn,z.mt,z.at_⟩
noncomputable def rN (C:Glo)(g b:Addr)(z:Sg):Prop:=vg C g b z.fn z.gl z.cn z.xn
structure Fv (C:Glo)(z:Sg):Prop where
 meth:∀f k x,z.mt f=some (k,x)→∃a,C.fa f=some a∧C.cm k x=some (.ref a)∧∃o,C.base.get? a=some o∧o.cls=.type "function"
 attr:∀k x,z.at_ k x=true→C.cm k x=none
 hf:z.hf=C.hf
noncomputable def nU (sc:Scope)(ps ns:List Str):Bool:=
 ps.isPrefixOf ns&&decide ns.Nodup&&ns.all (fun x=>sc.names.lookup x==some .local||(sc.names.lookup x==some .cell&&((cellsFrom 0 sc.names []).lookup x).isSome))
theorem pe {sc:Scope}{ps ns:List Str}(h:nU sc ps ns=true):ps<+:ns∧ns.Nodup∧∀x∈ns,sc.names.lookup x=some .local∨(sc.names.lookup x=some .cell∧((cellsFrom 0 sc.names []).lookup x).isSome=true):=by
 obtain ⟨h,h3⟩:=aj h
 obtain ⟨h1,h2⟩:=aj h
 refine ⟨List.isPrefixOf_iff_prefix.mp h1,of_decide_eq_true h2,fun x hx=>?_⟩
 rcases Bool.or_eq_true_iff.mp (List.all_eq_true.mp h3 x hx) with q | q
 ·exact .inl (eq_of_beq q)
 ·exact .inr ⟨eq_of_beq (aj q).1,(aj q).2⟩
inductive EM (C:Glo)(z:Sg)(nh:Bool)(d:Fn)(a:Addr):Prop
 | mk (o:Obj) (fd:FuncData) (body:List Stmt) (ps ns:List Str) (ho:C.base.get? a=some o) (hd:o.data=.func fd) (hcd:C.base.CodeRec fd.code fd.qualname) (hbody:fd.body=.stmts body) (hclo:fd.closure=[]) (hco:fd.scope.isCoroutine=false) (hgen:fd.scope.isGenerator=false)
   (hk:fd.scope.kind=.function) (hbind:∀vals:List Value,vals.length=ps.length→bindArgs fd ⟨vals,[]⟩=pure (ps.zip vals)) (hps:ps.length=d.args) (hns:nU fd.scope ps ns=true) (hchk:gQ (zT fd.scope ns z nh) d.body body=true) (hgl:rN C fd.globals fd.builtins z)
noncomputable def rO (C:Glo)(z:Sg)(P:Nat→Option Fn):Prop:=Fv C z∧∀f d a,P f=some d→C.fa f=some a→EM C z (!C.hf f) d a
theorem dz:∀(names:List (Str × NameKind)) (n k:Nat) (acc acc':List (Str × Addr)) (x:Str),(∀y,(acc.lookup y).isSome=(acc'.lookup y).isSome)→((cellsFrom n names acc).lookup x).isSome=((cellsFrom k names acc').lookup x).isSome
 | [],n,k,acc,acc',x,h=>h x
 | (y,kd)::r,n,k,acc,acc',x,h=>by
  unfold cellsFrom
  split
  ·refine dz r _ _ _ _ x fun z=>?_
   simp only [List.lookup_cons]
   split
   ·rfl
   ·exact h z
  ·exact dz r _ _ _ _ x h
section
variable {C:Glo}{ρ:List Addr}{h:Heap}
theorem zU {ps:List Str}{ws:List Value}(hl:ws.length=ps.length){i:Nat}{x:Str}{w:Value}(e1:ps[i]?=some x)(e2:ws[i]?=some w):(ps.zip ws)[i]?=some (x,w):=by
 rw [List.getElem?_zip_eq_some];exact ⟨e1,e2⟩
theorem jE (k:Str→Option NameKind):∀(l:List (Str × Value)) (m:Str→Option Value) (x:Str),(∀p∈l,p.1≠x)→bindL k l m x=m x
 | [],m,x,_=>rfl
 | (n,v)::r,m,x,h=>by
  unfold bindL
  rw [jE k r _ x fun p hp=>h p (List.mem_cons_of_mem _ hp)]
  have:n≠x:=h _ (List.mem_cons_self ..)
  split
  ·exact if_neg fun q:x=n=>this q.symm
  ·rfl
theorem jF (k:Str→Option NameKind):∀(l:List (Str × Value)) (m:Str→Option Value) (x:Str),(∀p∈l,p.1≠x)→bindC k l m x=m x
 | [],m,x,_=>rfl
 | (n,v)::r,m,x,h=>by
  unfold bindC
  rw [jF k r _ x fun p hp=>h p (List.mem_cons_of_mem _ hp)]
  have:n≠x:=h _ (List.mem_cons_self ..)
  split
  ·rfl
  ·exact if_neg fun q:x=n=>this q.symm
theorem tQ (k:Str→Option NameKind)(l:List (Str × Value))(m:Str→Option Value)(x:Str)(w:Value)(hn:(l.map (·.1)).Nodup)(hm:(x,w)∈l)(hk:k x=some .local):bindL k l m x=some w:=by
 induction l generalizing m with
 | nil=>exact aC hm
 | cons p r ih=>
  obtain ⟨h1,h2⟩:=List.nodup_cons.mp hn
  unfold bindL
  rcases List.mem_cons.mp hm with e | hm
  ·subst e
   rw [jE k r _ _ fun p hp q=>h1 (List.mem_map.mpr ⟨p,hp,q⟩),if_pos hk];exact if_pos rfl
  ·exact ih _ h2 hm
theorem tR (k:Str→Option NameKind)(l:List (Str × Value))(m:Str→Option Value)(x:Str)(w:Value)(hn:(l.map (·.1)).Nodup)(hm:(x,w)∈l)(hk:k x≠some .local):bindC k l m x=some w:=by
 induction l generalizing m with
 | nil=>exact aC hm
 | cons p r ih=>
  obtain ⟨n,v⟩:=p
  simp only [List.map_cons,List.nodup_cons] at hn
  unfold bindC
  rcases List.mem_cons.mp hm with e | hm
  ·cases e
   rw [jF k r _ _ fun p hp q=>hn.1 (List.mem_map.mpr ⟨p,hp,q⟩),if_neg hk];simp
  ·exact ih _ hn.2 hm
theorem tS {d:Fn}{vs:List MV}{hp:List MO}{i:Nat}{v:MV}(e:(cZ d vs hp).get i=some v):vs[i]?=some v:=by
 have hw:(vs.map some++List.replicate _ none)[i]?=some (some v):=MS.get_at e
 rcases Nat.lt_or_ge i (vs.map some).length with hi | hi
 ·rw [List.getElem?_append_left hi,List.getElem?_map] at hw
  obtain ⟨u,h1,h2⟩:=Option.map_eq_some_iff.mp hw
  exact h1.trans h2
 ·rw [List.getElem?_append_right hi] at hw
  exact aw (List.eq_of_mem_replicate (List.mem_of_getElem? hw)).symm
noncomputable def jm (A:Around)(env:Env)(ns:List Str)(frs:List Addr):Fm where
 env:=env
 A:=A.deeper env
 W:=env.locals::ns.filterMap (fun x=>if env.kindOf x=some .local then none else env.cells.lookup x)
 V:=[]
 lay:=fun i=>match ns[i]? with
  | some x=>if env.kindOf x=some .local then some (.nm env.locals x) else match env.cells.lookup x with
   | some c=>some (.cl c)
   | none=>none
  | none=>none
 frs:=env.locals::frs
theorem zV {A:Around}{env:Env}{ns:List Str}{frs:List Addr}{i:Nat}{l:Loc}(e:(jm A env ns frs).lay i=some l):∃x,ns[i]?=some x∧((env.kindOf x=some .local∧l=.nm env.locals x)∨(env.kindOf x≠some .local∧∃c,env.cells.lookup x=some c∧l=.cl c)):=by
 replace e:(match ns[i]? with
  | some x=>if env.kindOf x=some .local then some (.nm env.locals x) else match env.cells.lookup x with
   | some c=>some (.cl c)
   | none=>none
  | none=>none)=some l:=e
 cases hx:ns[i]? with
 | none=>rw [hx] at e;exact aw e
 | some x=>
  rw [hx] at e
  refine ⟨x,rfl,?_⟩
  by_cases q:env.kindOf x=some .local
  ·exact .inl ⟨q,(Option.some.inj ((if_pos q).symm.trans e)).symm⟩
  ·replace e:=(if_neg q).symm.trans e
   cases hc:env.cells.lookup x with
   | none=>rw [hc] at e;exact aw e
   | some c=>rw [hc] at e;exact .inr ⟨q,c,rfl,(Option.some.inj e).symm⟩
inductive Df (C:Glo)(Q:MV→List MO→Prop)(ρ:List Addr)(s:Shared)(v:Value)(s':Shared):Prop
 | mk (ρ':List Addr) (hp':List MO) (x:MV) (st:aq [] ρ s ρ' s') (H:Hp C ρ' hp' s'.heap) (rx:Rep C ρ' s'.heap x v) (hq:Q x hp'):Df C Q ρ s v s'
theorem mY (G:GOk C){z:Sg}{P:Nat→Option Fn}(H:rO C z P){n f:Nat}{vs:List MV}{Q:MV→List MO→Prop}{X:XT}{hp:List MO}{d:Fn}(hP:P f=some d)(hlen:vs.length=d.args)
  (hw:ax (Call C) n d.body (fin Q) (fun c m=>X c m.heap) (cZ d vs hp)) {A:Around}{s:Shared}{ws:List Value}{a:Addr}(hA:A.handled=none∨C.hf f=true) (hH:Hp C ρ hp s.heap) (hgens:s.gens=#[]) (rl:aD C ρ s.heap vs ws)
  {frs:List Addr}(hfrs:∃es,A.frames=some es∧∀e∈es,e.scope.kind≠.module∧∃L∈frs,e.frame=some L) (hout:∀L∈frs,Ej C ρ s.heap L)
  (hroom:A.depth+(n+1)≤999) (hunits:A.units≤3 * A.depth+4) (hfa:C.fa f=some a) :
  wpAny (mod C) A (call (.ref a) ws) (Df C Q ρ s) (ErC C X ρ s) s:=by
 obtain ⟨o,fd,body,ps,ns,ho,hd,hcd,hbody,hclo,hco,hgen,hk,hbind,hps,hns,hchk,hgl⟩:=H.2 f d a hP hfa
 obtain ⟨hpre,hnd,hall⟩:=pe hns
 have hwl:ws.length=ps.length:=by rw [rl.length,hlen,hps]
 have hmem:∀x∈ps,x∈ns:=fun x hx=>hpre.subset hx
 have hcellS:∀k x,((cellsFrom k fd.scope.names []).lookup x).isSome=((cellsFrom 0 fd.scope.names []).lookup x).isSome:=fun k x=>dz _ _ _ _ _ _ fun _=>rfl
 have hzip:∀p∈ps.zip ws,p.1∈ps:=fun p hp=>(List.of_mem_zip (a:=p.1) (b:=p.2) hp).1
 have hzn:((ps.zip ws).map (·.1)).Nodup:=by
  rw [List.map_fst_zip (n1 (Nat.le_of_eq hwl.symm) (by simp +arith only))]
  exact hnd.sublist hpre.sublist
 refine wpAny_call (codeAny_call_cells (by show _<1000;exact n1 hroom (by simp +arith only)) (hH.base _ _ ho) hd (G.nolimit.keeps hH.base) (hcd.keeps hH.base) hbody (hbind ws hwl) hclo (fun x hx=>?_) (fun s₁ ic=>?_) hco hgen hk)
 ·rcases hall _ (hmem _ (hzip x hx)) with q | ⟨q,q'⟩
  ·exact .inl q
  ·exact .inr ⟨q,by rw [hcellS];exact q'⟩
 ·generalize henv:callEnvC fd s.heap.objs.size a=env at ic ⊢
  have eL:env.locals=s.heap.objs.size:=by rw [←henv];rfl
  have eK:∀x,env.kindOf x=fd.scope.names.lookup x:=fun x=>by rw [←henv];rfl
  have eC:env.cells=cellsFrom (s.heap.objs.size+1) fd.scope.names []:=by rw [←henv];rfl
  have eS:env.scope=fd.scope:=by rw [←henv];rfl
  have eF:env.frame=some env.locals:=by rw [←henv];rfl
  have eG:env.globals=fd.globals∧env.builtins=fd.builtins:=by rw [←henv];exact ⟨rfl,rfl⟩
  obtain ⟨⟨⟨h₁,tk,hs₁⟩,hns1,hkeep,hfresh⟩,hcell,hapart,habove⟩:=ic
  have fL:s.heap.get? env.locals=none:=bk hfresh
  have hcl:∀x c,env.cells.lookup x=some c→s₁.heap.IsCell c (bindC env.kindOf (ps.zip ws) (fun _=>none) x)∧s.heap.get? c=none:=fun x c e=>by
   refine ⟨hcell x c e,bk ?_⟩
   have:=habove x c (mem_of_lookup e)
   exact Nat.le_of_lt (Nat.lt_of_le_of_lt hfresh this)
  have hg1:s₁.gens=s.gens∧s₁.os=s.os:=by rw [hs₁];exact ⟨rfl,rfl⟩
  have hW:∀b∈(jm A env ns frs).W,s.heap.get? b=none∧WOk s₁.heap b:=fun b hb=>by
   rcases List.mem_cons.mp hb with rfl | hb
   ·obtain ⟨o,es,ep,e1,e2,_⟩:=hns1
    exact ⟨fL,o,e1,.inl ⟨es,ep,e2⟩⟩
   ·obtain ⟨x,hx,e⟩:=List.mem_filterMap.mp hb
    split at e
    ·exact aw e
    ·obtain ⟨⟨o,e1,e2⟩,e3⟩:=hcl x b e
     exact ⟨e3,o,e1,.inr ⟨_,e2⟩⟩
  have hlay:∀i l,(jm A env ns frs).lay i=some l→∃x,ns[i]?=some x∧((env.kindOf x=some .local∧l=.nm env.locals x)∨(env.kindOf x≠some .local∧∃c,env.cells.lookup x=some c∧l=.cl c)):=fun i l e=>zV e
  have hidx:∀(i j:Nat) (x:Str),ns[i]?=some x→ns[j]?=some x→i=j:=fun i j x e1 e2=>by
   have h1:=List.getElem?_eq_some_iff.mp e1
   have h2:=List.getElem?_eq_some_iff.mp e2
   exact (List.getElem_inj hnd).mp (h1.2.trans h2.2.symm)
  have ok':aU (jm A env ns frs):=by
   refine ⟨List.mem_cons_self ..,fun i l e=>?_,fun i j l e1 e2=>?_,?_,?_⟩
   ·obtain ⟨x,hx,⟨q,rfl⟩ | ⟨q,c,hc,rfl⟩⟩:=hlay i l e
    ·exact List.mem_cons_self ..
    ·refine List.mem_append_left _ (List.mem_cons_of_mem _ (List.mem_filterMap.mpr ⟨x,List.mem_of_getElem? hx,?_⟩))
     rw [if_neg q];exact hc
   ·obtain ⟨x,hx,q1⟩:=hlay i l e1
    obtain ⟨y,hy,q2⟩:=hlay j l e2
    rcases q1 with ⟨_,rfl⟩ | ⟨_,c,hc,rfl⟩
    ·rcases q2 with ⟨_,q⟩ | ⟨_,c',_,q⟩
     ·cases q;exact hidx i j x hx hy
     ·cases q
    ·rcases q2 with ⟨_,q⟩ | ⟨_,c',hc',q⟩
     ·cases q
     ·cases q
      have:=name_of_addr hapart (mem_of_lookup hc) (mem_of_lookup hc')
      subst this
      exact hidx i j x hx hy
   ·show env.scope.kind=.function
    rw [eS];exact hk
   ·obtain ⟨es,h1,h2⟩:=hfrs
    refine ⟨env::es,by show A.frames.map (env::·)=_;rw [h1];rfl,fun e he=>?_⟩
    rcases List.mem_cons.mp he with rfl | he
    ·exact ⟨by rw [eS,hk];decide,_,List.mem_cons_self ..,eF⟩
    ·obtain ⟨q1,L,q2,q3⟩:=h2 e he
     exact ⟨q1,L,List.mem_cons_of_mem _ q2,q3⟩
  have fo:nS (jm A env ns frs):=by
   obtain ⟨es,h1,_⟩:=hfrs
   exact ⟨⟨es,by show A.frames.map (env::·)=_;rw [h1];rfl⟩,eF⟩
  have cx:au C (zT fd.scope ns z (!C.hf f)) (jm A env ns frs) n:=by
   refine ⟨ok',fun x=>eK x,fun i x e=>?_,?_,H.1.meth,H.1.attr,fun e=>?_,H.1.hf,?_,?_,?_,fun i a e _=>(List.mem_append.mp (ok'.lay i _ e)).elim id (fun q=>nomatch q),fun i e=>?_⟩
   ·have hx:ns[i]?=some x:=e
    rcases hall x (List.mem_of_getElem? hx) with q | ⟨q,q'⟩
    ·refine .inl ⟨(eK x).trans q,?_⟩
     simp only [jm,hx,eK,q,if_true]
    ·have hne:fd.scope.names.lookup x≠some .local:=by rw [q];intro q;cases q
     rw [←hcellS (s.heap.objs.size+1),←eC] at q'
     obtain ⟨c,hc⟩:=Option.isSome_iff_exists.mp q'
     refine .inr ⟨c,.inl ((eK x).trans q),hc,?_⟩
     simp only [jm,hx,eK,q,hc]
     rfl
   ·show rN C env.globals env.builtins z
    rw [eG.1,eG.2];exact hgl
   ·refine hA.resolve_right fun q=>?_
    replace e:(!C.hf f)=true:=e
    rw [q] at e;cases e
   ·show A.units+3≤3 * (A.depth+1)+4
    exact n1 hunits (by simp +arith only)
   ·show A.depth+1+n≤999
    exact n1 hroom (by simp +arith only)
   ·show interactive env=false
    unfold interactive
    rw [eS,hk];rfl
   ·have e:ns.length≤i:=by simpa [zT] using e
    simp only [jm,List.getElem?_eq_none e]
  have hk':∀b ob,s.heap.get? b=some ob→s₁.heap.get? b=some ob:=hkeep
  have hs0:aZ s.heap s₁.heap:=fun b ob e _=>hk' b ob e
  have R₁:Rel C (jm A env ns frs) ρ (cZ d vs hp) s₁:=by
   refine ⟨?_,⟨_,hns1⟩,fun b hb=>?_,fun i v e=>?_,fun i c e=>?_,fun L hL=>?_,hg1.1.trans hgens⟩
   ·show Hp C ρ hp s₁.heap
    exact hH.up hs0 (fun b _ ob e=>hk' b ob e) fun b ob e=>hk' b ob (hH.base b ob e)
   ·have hb:b∈(jm A env ns frs).W:=(List.mem_append.mp hb).elim id fun q=>by exact aC q
    obtain ⟨h1,h2⟩:=hW b hb
    refine ⟨fun q=>?_,bM (m:=⟨[],hp⟩) hH h1,h2⟩
    obtain ⟨o',e'⟩:=Hp.there (m:=⟨[],hp⟩) hH q
    exact aX h1 e'
   ·have hv:=tS e
    obtain ⟨w,hw1,hw2⟩:=rl.get hv
    have hi:i<ps.length:=by rw [←hwl];exact (List.getElem?_eq_some_iff.mp hw1).1
    have hpi:ps[i]?=some ps[i]:=List.getElem?_eq_getElem hi
    have hni:ns[i]?=some ps[i]:=by
     obtain ⟨t,rfl⟩:=hpre
     rw [List.getElem?_append_left hi];exact hpi
    have hz:(ps[i],w)∈ps.zip ws:=List.mem_of_getElem? (zU hwl hpi hw1)
    rcases cx.nm i ps[i] hni with ⟨q1,q2⟩ | ⟨c,q1,q2,q3⟩
    ·refine ⟨_,q2,_,w,hns1,?_,hw2.up hs0 (List.prefix_refl _)⟩
     exact tQ _ _ _ _ _ hzn hz q1
    ·refine ⟨_,q3,w,?_,hw2.up hs0 (List.prefix_refl _)⟩
     have:=(hcl ps[i] c q2).1
     rw [tR _ _ _ _ w hzn hz] at this
     ·exact this
     ·intro q
      have q1':env.kindOf ps[i]=some .cell∨env.kindOf ps[i]=some .free∧cdc ps[i]=false:=q1
      rw [q] at q1'
      rcases q1' with q1' | ⟨q1',_⟩<;>cases q1'
   ·obtain ⟨x,hx,⟨q,q'⟩ | ⟨q,c',hc,q'⟩⟩:=hlay i _ e
    ·cases q'
    ·cases q';exact ⟨_,(hcl x c hc).1⟩
   ·rcases List.mem_cons.mp hL with rfl | hL
    ·refine ⟨fun q=>?_,bM (m:=⟨[],hp⟩) hH fL,?_⟩
     ·obtain ⟨o',e'⟩:=Hp.there (m:=⟨[],hp⟩) hH q
      exact aX fL e'
     ·obtain ⟨o,es,ep,e1,e2,_⟩:=hns1
      exact ⟨o,e1,es,ep,e2⟩
    ·obtain ⟨h1,h2,o,h3,h4⟩:=hout L hL
     exact ⟨h1,h2,o,hk' L o h3,h4⟩
  have hnW:∀b ob,s.heap.get? b=some ob→b∉(jm A env ns frs).W:=fun b ob e q=>by rw [(hW b q).1] at e;exact aw e
  have hnn:∀b,s₁.heap.get? b=none→s.heap.get? b=none:=fun b q=>by
   cases e:s.heap.get? b with
   | none=>rfl
   | some ob=>rw [hk' b ob e] at q;exact pT q
  have hst:∀{ρ' s'},aq (jm A env ns frs).W ρ s₁ ρ' s'→aq [] ρ s ρ' s':=fun {ρ' s'} st=>
   ⟨st.pre,fun b hb=>(st.new b hb).imp id (hnn b),fun b ob e h1 _=>st.keep b ob (hk' b ob e) h1 (hnW b ob e),fun b ob e hsd=>st.solid b ob (hk' b ob e) hsd,fun b ob e=>st.alive b ob (hk' b ob e),st.gens.trans hg1.1,st.os.trans hg1.2⟩
  refine wpAny_mono (dP G d.body (fun c m=>X c m.heap) _ _ cx fo body hchk (fin Q) (cZ d vs hp) hw s₁ ρ R₁) (fun fl s' hf=>?_) fun e s' he=>?_
  rotate_left
  ·exact False.elim he
  obtain ⟨ρ',m',f',st,R',hfl,hq⟩:=hf
  have key:∀v x,Rep C ρ' s'.heap x v→Q x m'.heap→Df C Q ρ s v s':=fun v x rx hq=>⟨ρ',m'.heap,x,hst st,R'.hp,rx,hq⟩
  cases f' with
  | next=>obtain rfl:=hfl.inv;exact key .none .none .none hq
  | brk=>exact hq.elim
  | cont=>exact hq.elim
  | ret r=>obtain ⟨v,rfl,rv⟩:=hfl.inv;exact key _ _ rv hq
theorem tT {F:Fm}{m:MS}{s s':Shared}{ρ':List Addr}{hp':List MO}(okF:aU F)(R:Rel C F ρ m s)(st:aq [] ρ s ρ' s')(hH:Hp C ρ' hp' s'.heap):aq F.W ρ s ρ' s'∧Rel C F ρ' ⟨m.vars,hp'⟩ s':=by
 have hD:∀b ob,s.heap.get? b=some ob→b∉ρ→kz s.heap s'.heap b:=fun b ob e hb ob' e'=>by
  obtain rfl:=same e e'
  rcases st.keep b ob e hb (by exact List.not_mem_nil) with q | ⟨_,sl,q⟩
  ·exact ⟨_,q,rfl,rfl⟩
  ·exact ⟨_,q,rfl,rfl⟩
 refine ⟨⟨st.pre,st.new,fun b ob e h1 _=>st.keep b ob e h1 (by exact List.not_mem_nil),st.solid,st.alive,st.gens,st.os⟩,R.up okF st.solid st.pre hH st.new (fun b hb=>?_) (fun L hL=>?_) st.gens⟩
 ·obtain ⟨h1,_,ob,e,_⟩:=R.w b hb
  exact hD b ob e h1
 ·obtain ⟨h1,_,ob,e,_⟩:=R.out L hL
  exact hD L ob e h1
set_option tactic.hygienic true in
theorem Dg (G:GOk C){z:Sg}{P:Nat→Option Fn}(H:rO C z P):aK P (Call C):=by
 intro n f vs Q X hp d hP hlen hw F m s ρ ws a okF hA hm R rl hroom hunits hfa
 refine wpAny_mono (mY G H hP hlen hw hA (by rw [←hm];exact R.hp) R.gens rl okF.frs R.out hroom hunits hfa) (fun v s' hr=>?_) fun e s' hr=>?_
 ·obtain ⟨ρ',hp',x,st,hH,rx,hq⟩:=hr
  obtain ⟨st',R'⟩:=tT okF R st hH
  exact ⟨ρ',⟨m.vars,hp'⟩,x,st',R',rx,rfl,hq⟩
 ·exact False.elim hr
end
end Internal
end
section
namespace Internal
open PySem
noncomputable def eX (ns:List Str)(mg:Str→Option Value)(h:Heap):Prop:=ns=[]
theorem eX.keeps {ns:List Str}{mg:Str→Option Value}{h h':Heap}(x:eX ns mg h)(k:∀b o,h.get? b=some o→h'.get? b=some o):eX ns mg h':=x
end Internal
end
section
namespace Internal
open PySem
noncomputable def jn (x:Str)(es:List (List Nat × Int))(prog:Program)(w:World)(h:Heap):Prop:=∃mg a kvs,h.Ns mainGlobals mg∧mg x=some (.ref a)∧(a==sysModules)=false∧h.DictOf (strKind prog w) a kvs∧CK es kvs
theorem qI {e:DictEntry}{x:Int × Str × Int}(h:jd e=some x):∃k t i u,e.key=.str k t∧e.val=.int i u∧x=(e.hash,k,i):=by
 unfold jd at h
 cases hk:e.key with
 | str k t=>
  rw [hk] at h
  cases hv:e.val with
  | int i u=>rw [hv] at h;exact ⟨k,t,i,u,rfl,rfl,(Option.some.inj h).symm⟩
  | _=>rw [hv] at h;exact aw h
 | _=>rw [hk] at h;exact aw h
theorem my {e:DictEntry}{l:List DictEntry}{ys:List (Int × Str × Int)}(h:dq (e::l)=some ys):∃x xs,jd e=some x∧dq l=some xs∧ys=x::xs:=by
 replace h:(match jd e with
  | some x=>match dq l with
   | some xs=>some (x::xs)
   | none=>none
  | none=>none)=some ys:=h
 cases h1:jd e with
 | none=>rw [h1] at h;exact aw h
 | some x=>
  rw [h1] at h
  cases h2:dq l with
  | none=>rw [h2] at h;exact aw h
  | some xs=>rw [h2] at h;exact ⟨x,xs,rfl,rfl,(Option.some.inj h).symm⟩
theorem qJ {prog:Program}{w:World}{es:List (List Nat × Int)}{l:List DictEntry}(h:dq l=some (es.map fun p=>(hashStr w (str p.1),str p.1,p.2)))(hl:∀p∈es,p.1.length≤line) :
  ∃kvs,(∀e∈l,∃k,(strKind prog w).is k e.key=true∧e.hash=(strKind prog w).hash k)∧Pairs (strKind prog w) l kvs∧CK es kvs∧kvs.map (·.1)=es.map fun p=>str p.1:=by
 induction l generalizing es with
 | nil=>
  cases es with
  | nil=>exact ⟨[],fun e he=>aC he,.nil,.nil,rfl⟩
  | cons=>exact nomatch Option.some.inj h
 | cons e l ih=>
  obtain ⟨x,xs,h1,h2,h3⟩:=my h
  cases es with
  | nil=>exact nomatch h3
  | cons p es=>
   obtain ⟨hx,rfl⟩:=List.cons.inj h3
   obtain ⟨kvs,k1,k2,k3,k4⟩:=ih h2 fun p hp=>hl p (List.mem_cons_of_mem _ hp)
   obtain ⟨s,t,j,u,ek,ev,rfl⟩:=qI h1
   have e1:hashStr w (str p.1)=e.hash:=congrArg Prod.fst hx
   obtain rfl:str p.1=s:=congrArg (fun q=>q.2.1) hx
   obtain rfl:p.2=j:=congrArg (fun q=>q.2.2) hx
   have hk:(strKind prog w).is (str p.1) e.key=true:=by rw [ek];exact beq_self_eq_true _
   refine ⟨(str p.1,.int p.2 u)::kvs,fun e' he=>?_,.cons hk ev k2,.cons (hl _ (List.mem_cons_self ..)) k3,congrArg (str p.1::·) k4⟩
   rcases List.mem_cons.mp he with rfl | he
   ·exact ⟨str p.1,hk,e1.symm⟩
   ·exact k1 e' he
theorem EN {prog:Program}{w:World}{x:Str}{es:List (List Nat × Int)}(hl:∀p∈es,p.1.length≤line)(hn:(es.map fun p=>str p.1).Nodup){s:Shared}(h:mC x s=oq es w):jn x es prog w s.heap:=by
 unfold mC at h
 refine Classical.byContradiction fun hz=>?_
 cases ha:s.heap.nsMap mainGlobals x with
 | none=>rw [ha] at h;exact aw h
 | some v=>
 rw [ha] at h
 cases v with
 | ref a=>
  dsimp only at h
  cases ho:s.heap.get? a with
  | none=>rw [ho] at h;exact aw h
  | some o=>
  rw [ho] at h
  dsimp only at h
  cases hd:o.data with
  | dict ds ep=>
   rw [hd] at h
   dsimp only at h
   cases hc:(a != sysModules&&o.cls==.type "dict"&&o.dict.isNone&&o.slots.size==0&&s.heap.isNs mainGlobals) with
   | false=>rw [hc] at h;exact aw h
   | true=>
     rw [hc] at h
     refine hz ?_
     obtain ⟨hc,h5⟩:=Bool.and_eq_true_iff.mp hc
     obtain ⟨hc,h4⟩:=Bool.and_eq_true_iff.mp hc
     obtain ⟨hc,h3⟩:=Bool.and_eq_true_iff.mp hc
     obtain ⟨h1,h2⟩:=Bool.and_eq_true_iff.mp hc
     obtain ⟨kvs,k1,k2,k3,k4⟩:=qJ (prog:=prog) h hl
     refine ⟨_,a,kvs,.of_isNs h5,ha,by simpa using h1,⟨o,ds,ep,ho,⟨eq_of_beq h2,Option.isNone_iff_eq_none.mp h3,?_⟩,hd,fun e he=>k1 e (by simpa using he),k2,by rw [k4];exact hn⟩,k3⟩
     exact Array.eq_empty_of_size_eq_zero (eq_of_beq h4)
  | _=>rw [hd] at h;exact aw h
 | _=>exact aw h
theorem jn.keeps {x:Str}{es:List (List Nat × Int)}{prog:Program}{w:World}{h h':Heap}(y:jn x es prog w h)(k:∀b o,h.get? b=some o→h'.get? b=some o):jn x es prog w h':=by
 obtain ⟨mg,a,kvs,h1,h2,h3,⟨o,ds,ep,e,r⟩,h5⟩:=y
 exact ⟨mg,a,kvs,h1.keeps k,h2,h3,⟨o,ds,ep,k _ _ e,r⟩,h5⟩
end Internal
end
section
namespace Internal
open PySem PyProof.Rows
noncomputable abbrev Tab:=List (Nat × Str × List Str × Fn)
noncomputable abbrev zW:=List (Nat × Nat × Str × List Str × Fn)
noncomputable abbrev Fw:=List (Nat × Str × List Str)
noncomputable def pf (tab:Tab)(f:Nat):Option Str:=(tab.lookup f).map (·.1)
noncomputable def fnP (tab:Tab)(f:Nat):Option Fn:=(tab.lookup f).map (·.2.2)
noncomputable def tU (mt:zW)(f:Nat):Option (Nat × Str):=(mt.lookup f).map fun e=>(e.1,e.2.1)
noncomputable def mtP (mt:zW)(f:Nat):Option Fn:=(mt.lookup f).map (·.2.2.2)
set_option genCtorIdx false in
structure gK where
 tab:Tab
 mt:zW
 ct:Fw
 xs:List Str
 hf:Nat→Bool
 gl:Nat→Option (Str × MV)
noncomputable def gK.P (t:gK)(f:Nat):Option Fn:=(fnP t.tab f).or (mtP t.mt f)
noncomputable def gK.sg (t:gK):Sg where
 fn:=pf t.tab
 gl:=t.gl
 hf:=t.hf
 cn k:=(t.ct.lookup k).map (·.1)
 xn k:=t.xs[k]?
 mt:=tU t.mt
 at_ k y:=match t.ct.lookup k with
  | some e=>e.2.contains y
  | none=>false
noncomputable def c0:Option Value→Option Addr
 | some (.ref a)=>some a
 | _=>none
noncomputable def lu (z:Sg)(nh:Bool)(ns:List Str)(d:Fn)(params:Arguments)(scope:Scope)(body:List Stmt):Bool:=
 params.posonlyargs.isEmpty&&params.vararg.isNone&&params.kwonlyargs.isEmpty&&params.kwarg.isNone&&!scope.isCoroutine&&!scope.isGenerator&&scope.kind==.function&&
 (params.args.map (·.arg)).length==d.args&&nU scope (params.args.map (·.arg)) ns&&gQ (zT scope ns z nh) d.body body
noncomputable def pg (recs:List DefRec)(t:gK):Bool:=
 t.tab.all fun e=>recs.any fun r=>r.name==e.2.1&&lu t.sg (!t.hf e.1) e.2.2.1 e.2.2.2 r.params r.scope r.body
noncomputable def lw (cs:List ClsRec)(t:gK):Bool:=
 t.mt.all fun e=>(t.tab.lookup e.1).isNone&&ak (t.ct.lookup e.2.1) fun c=>cs.any fun k=>k.name==c.1&&k.meths.any fun m=>m.name==e.2.2.1&&lu t.sg (!t.hf e.1) e.2.2.2.1 e.2.2.2.2 m.params m.scope m.body
noncomputable def ph (cs:List ClsRec)(t:gK):Bool:=t.ct.all fun e=>cs.any fun k=>k.name==e.2.1&&e.2.2.all fun x=>k.statics.contains x
noncomputable def eqV (v w:Value):Bool:=match v with
 | .builtin a=>match w with
  | .builtin b=>a==b
  | _=>false
 | .type a=>match w with
  | .type b=>a==b
  | _=>false
 | _=>false
theorem Dh {v w:Value}(h:eqV v w=true):v=w:=by
 cases v with
 | builtin a=>
  cases w with
  | builtin b=>exact congrArg _ (eq_of_beq h)
  | _=>exact ff h
 | type a=>
  cases w with
  | type b=>exact congrArg _ (eq_of_beq h)
  | _=>exact ff h
 | _=>exact ff h
noncomputable def Bd (p:Program)(loose:List Str):Bool:=
 bZ.all fun q=>!startupNames.contains q.1&&!loose.contains q.1&&!((recsOf p).map (·.name)).contains q.1&&!((litsOf p).map (·.1)).contains q.1&&!((clssOf p loose).map (·.name)).contains q.1&&!(q.1==("__name__":Str))&&
  ak (bootBuiltins q.1) (eqV q.2)
set_option tactic.hygienic true in
theorem dA {α:Type}:∀{l:List (Nat × α)}{k:Nat}{v:α},l.lookup k=some v→(k,v)∈l
 | [],k,v,h=>by exact aw h
 | (a,b)::r,k,v,h=>by
  rw [List.lookup_cons] at h
  split at h
  ·rename_i e
   obtain rfl:=Option.some.inj h
   have:k=a:=by exact eq_of_beq e
   subst this
   exact List.mem_cons_self ..
  ·exact List.mem_cons_of_mem _ (dA h)
set_option tactic.hygienic true in
theorem lC:∀{ps:List Str}{vs:List Value}{x:Str},vs.length=ps.length→x∈ps→((ps.zip vs).lookup x).isSome=true
 | [],_,_,_,h=>by exact aC h
 | p::ps,[],_,h,_=>by cases h
 | p::ps,v::vs,x,hl,h=>by
  rw [List.zip_cons_cons,List.lookup_cons]
  split
  ·rfl
  ·rename_i e
   refine lC (by simpa using hl) ?_
   rcases List.mem_cons.mp h with rfl | h
   ·simp at e
   ·exact h
theorem gR:∀{ps:List Str}{vs:List Value}(pre:List (Str × Value)),vs.length=ps.length→ps.Nodup→(∀x∈ps,pre.lookup x=none)→ps.filterMap (fun n=>((pre++ps.zip vs).lookup n).map (n,·))=ps.zip vs
 | [],_,_,_,_,_=>rfl
 | p::ps,[],_,h,_,_=>by cases h
 | p::ps,v::vs,pre,hl,hn,hp=>by
  rw [List.nodup_cons] at hn
  have e1:(pre++(p::ps).zip (v::vs)).lookup p=some v:=by
   rw [List.lookup_append,hp p (List.mem_cons_self ..)]
   simp [List.lookup_cons]
  rw [List.filterMap_cons,e1]
  simp only [Option.map_some]
  rw [List.zip_cons_cons]
  congr 1
  have e2:pre++(p,v)::ps.zip vs=(pre++[(p,v)])++ps.zip vs:=by simp
  rw [e2]
  refine gR (pre++[(p,v)]) (by simpa using hl) hn.2 fun x hx=>?_
  rw [List.lookup_append,hp x (List.mem_cons_of_mem _ hx)]
  have:(x==p)=false:=by
   cases e:x==p with
   | false=>rfl
   | true=>
    have:x=p:=by exact eq_of_beq e
    subst this;exact absurd hx hn.1
  simp [List.lookup_cons,this]
theorem pj {fd:FuncData}{vals:List Value}(h1:fd.params.posonlyargs=[])(h2:fd.params.vararg=none)(h3:fd.params.kwonlyargs=[])(h4:fd.params.kwarg=none)(h5:fd.defaults=.none)
  (e5:(decide (vals.length > (fd.params.args.map (·.arg)).length))=false) (e2:(fd.params.args.map (·.arg)).filter (fun n=>(((fd.params.args.map (·.arg)).zip vals).lookup n).isNone)=[])
  (e3:(fd.params.args.map (·.arg)).filterMap (fun n=>(((fd.params.args.map (·.arg)).zip vals).lookup n).map (n,·))=(fd.params.args.map (·.arg)).zip vals):bindArgs fd ⟨vals,[]⟩=pure ((fd.params.args.map (·.arg)).zip vals):=by
 obtain ⟨a1,a2,⟨b1,b2,b3,b4,b5,b6,b7⟩,a4,a5,a6,a7,a8,a9,a10,a11,a12,a13,a14,a15⟩:=fd
 dsimp only at h1 h2 h3 h4 h5 e5 e2 e3 ⊢
 subst h1 h2 h3 h4 h5
 refine (if_neg (c:=(decide (vals.length > (b2.map (·.arg)).length)&&true)=true) (by rw [e5];decide)).trans ?_
 have hd:∀k,List.drop k ((none:Option (Array Value)).getD #[]).toList=[]:=fun k=>List.drop_nil
 rw [hd]
 refine (if_neg (c:=(!(((b2.map (·.arg)).take ((b2.map (·.arg)).length-0)).filter (fun n=>(((b2.map (·.arg)).zip vals).lookup n).isNone)).isEmpty)=true) (by rw [Nat.sub_zero,List.take_length,e2];decide)).trans ?_
 have hz:(List.drop ((b2.map (·.arg)).length-0) (b2.map (·.arg))).zip ([]:List Value)=[]:=List.zip_nil_right
 refine (congrArg (fun l=>(forIn (m:=Sem) l ((b2.map (·.arg)).zip vals) _ >>= _)) hz).trans ?_
 exact congrArg (fun l=>(pure l:Sem (List (Str × Value)))) ((congrArg (List.filterMap _) (List.append_nil (b2.map (·.arg)))).trans e3)
theorem qK {fd:FuncData}{vals:List Value}(h1:fd.params.posonlyargs=[])(h2:fd.params.vararg=none)(h3:fd.params.kwonlyargs=[])(h4:fd.params.kwarg=none)(h5:fd.defaults=.none)
  (hn:(fd.params.args.map (·.arg)).Nodup) (hl:vals.length=(fd.params.args.map (·.arg)).length):bindArgs fd ⟨vals,[]⟩=pure ((fd.params.args.map (·.arg)).zip vals):=by
 have e1:∀x∈fd.params.args.map (·.arg),(((fd.params.args.map (·.arg)).zip vals).lookup x).isNone=false:=fun x hx=>by
  have:=lC hl hx
  cases e:((fd.params.args.map (·.arg)).zip vals).lookup x with
  | none=>rw [e] at this;cases this
  | some=>rfl
 have e2:(fd.params.args.map (·.arg)).filter (fun n=>(((fd.params.args.map (·.arg)).zip vals).lookup n).isNone)=[]:=by
  rw [List.filter_eq_nil_iff];intro x hx;rw [e1 x hx];simp
 have e3:=gR (ps:=fd.params.args.map (·.arg)) (vs:=vals) [] hl hn fun _ _=>rfl
 rw [List.nil_append] at e3
 exact pj h1 h2 h3 h4 h5 (decide_eq_false (by rw [hl];exact Nat.lt_irrefl _)) e2 e3
end Internal
end
section
namespace Internal
open PySem PySem.W PyProof.Rows
section
variable {p:Program}{loose:List Str}{mean:ExcName→Option Value}{mg mb:Str→Option Value}{h:Heap}{prog:Program}{w:World}{t:gK}{cm:Nat→Str→Option Value}
noncomputable abbrev dU (prog:Program) (w:World) (h:Heap) (t:gK) (mg:Str→Option Value) (cm:Nat→Str→Option Value):Glo where
 prog:=prog
 w:=w
 base:=h
 fa f:=match pf t.tab f with
  | some x=>c0 (mg x)
  | none=>match tU t.mt f with
   | some q=>c0 (cm q.1 q.2)
   | none=>none
 ca k:=match t.ct.lookup k with
  | some e=>c0 (mg e.1)
  | none=>none
 xa k:=match t.xs[k]? with
  | some x=>c0 (mg x)
  | none=>none
 cm:=cm
 hf:=t.hf
theorem lD {o:Option Value}{a:Addr}(e:c0 o=some a):o=some (.ref a):=by
 cases o with
 | none=>exact aw e
 | some v=>cases v<;>first | ((first | exact aw e | obtain rfl:=Option.some.inj e);rfl) | exact aw e
end
end Internal
end
section
namespace Internal
open PySem PySem.W PyProof.Rows
section
variable {p:Program}{loose:List Str}{mean:ExcName→Option Value}{mg mb:Str→Option Value}{h:Heap}{prog:Program}{w:World}{t:gK}{cm:Nat→Str→Option Value}
theorem EO (XF:eX t.xs mg h):GX (dU prog w h t mg cm) where
 nox:=fun k=>by
  show (match t.xs[k]? with
   | some x=>c0 (mg x)
   | none=>none)=none
  rw [show t.xs=[] from XF];rfl
theorem Di (XF:eX t.xs mg h){k:Nat}{x:Str}(e:t.sg.xn k=some x):∃K,(dU prog w h t mg cm).xa k=some K∧mg x=some (.ref K):=by
 replace e:t.xs[k]?=some x:=e
 rw [show t.xs=[] from XF] at e;exact aw e
theorem Dj {C:Glo}{ρ:List Addr}{s s':Shared}{e:Value}{P:Prop}(hx:ErC C (fun _ _=>False) ρ s e s'):P:=False.elim hx
end
end Internal
end
section
namespace Internal
open PySem PySem.W PyProof.Rows
section
variable {p:Program}{loose:List Str}{mean:ExcName→Option Value}{mg mb:Str→Option Value}{h:Heap}{prog:Program}{w:World}{t:gK}{cm:Nat→Str→Option Value}
noncomputable def xh (t:gK)(mg:Str→Option Value)(h:Heap)(cm:Nat→Str→Option Value):Prop:=∀k e,t.ct.lookup k=some e→∃K N,mg e.1=some (.ref K)∧ClsAt h K N (cm k)
inductive FdO (h:Heap)(v:Option Value)(ps:Arguments)(sc:Scope)(body:List Stmt):Prop
 | mk (a:Addr) (o:Obj) (fd:FuncData) (h1:v=some (.ref a)) (h2:h.get? a=some o) (h3:o.data=.func fd) (h4:h.CodeRec fd.code fd.qualname) (h5:fd.body=.stmts body) (h6:fd.closure=[]) (h7:fd.defaults=.none) (h8:fd.params=ps) (h9:fd.scope=sc) (h10:fd.globals=mainGlobals) (h11:fd.builtins=builtinsNs)
theorem Dk (T:Top p loose mean mg mb h){r:DefRec}(hr:r∈recsOf p):FdO h (mg r.name) r.params r.scope r.body:=by
 obtain ⟨a,o,pm,code,doc,h1,h2,h3,h4⟩:=T.fn r hr
 exact ⟨a,o,_,h1,h2,h3,h4,rfl,rfl,rfl,rfl,rfl,rfl,rfl⟩
theorem xi {c:ClsRec}{K N:Addr}{mN:Str→Option Value}(P:PlainAt h c K N mN){m:MethRec}(hm:m∈c.meths):FdO h (mN m.name) m.params m.scope m.body:=by
 obtain ⟨a,o,pm,code,doc,h1,h2,_,h3,h4⟩:=P.meths m hm
 exact ⟨a,o,_,h1,h2,h3,h4,rfl,rfl,rfl,rfl,rfl,rfl,rfl⟩
theorem qL (hchk:pg (recsOf p) t=true){f:Nat}{x:Str}{ns:List Str}{d:Fn}(e:t.tab.lookup f=some (x,ns,d)):∃r∈recsOf p,r.name=x∧lu t.sg (!t.hf f) ns d r.params r.scope r.body=true:=by
 unfold pg at hchk
 rw [List.all_eq_true] at hchk
 have:=hchk _ (dA e)
 rw [List.any_eq_true] at this
 obtain ⟨r,hr,h⟩:=this
 rw [Bool.and_eq_true] at h
 exact ⟨r,hr,eq_of_beq h.1,h.2⟩
theorem zX {K N N':Addr}{m m':Str→Option Value}(x:ClsAt h K N m)(y:ClsAt h K N' m'):m=m':=by
 obtain ⟨nm,q,bs,sn,sub,col,dd,k0,k1,k2,k3,k5,e⟩:=kY x
 obtain ⟨nm',q',bs',sn',sub',col',dd',l0,l1,l2,l3,l5,e'⟩:=kY y
 have hN:N=N':=by
  have:=congrArg Obj.data (same e e')
  injection this with q
  injection q
 subst hN
 exact jg x.ns y.ns
theorem lE (TE:TopE p loose mg h)(hcm:xh t mg h cm){k:Nat}{e:Str × List Str}(hk:t.ct.lookup k=some e){c:ClsRec}(hc:c∈plainsOf p loose)(hn:c.name=e.1):∃K N,mg e.1=some (.ref K)∧PlainAt h c K N (cm k):=by
 obtain ⟨K,N,h1,h2⟩:=hcm k e hk
 obtain ⟨C,N',mN,h3,P⟩:=TE c hc
 rw [hn,h1] at h3;cases h3
 have:=zX P.cls h2
 subst this
 exact ⟨K,N',h1,P.ofCmp⟩
inductive Dl (pl:List ClsRec)(t:gK)(f k:Nat)(x:Str)(ns:List Str)(d:Fn):Prop
 | mk (h0:(t.tab.lookup f).isNone=true) (ce:Str × List Str) (hce:t.ct.lookup k=some ce) (c:ClsRec) (hc:c∈pl) (hn:c.name=ce.1) (m:MethRec) (hm:m∈c.meths) (hmn:m.name=x) (hck:lu t.sg (!t.hf f) ns d m.params m.scope m.body=true)
theorem nV (hm:lw (plainsOf p loose) t=true){f k:Nat}{x:Str}{ns:List Str}{d:Fn}(e:t.mt.lookup f=some (k,x,ns,d)):Dl (plainsOf p loose) t f k x ns d:=by
 unfold lw at hm
 rw [List.all_eq_true] at hm
 have:=hm _ (dA e)
 rw [Bool.and_eq_true] at this
 obtain ⟨h0,h1⟩:=this
 obtain ⟨ce,hce,h1⟩:=ae h1
 rw [List.any_eq_true] at h1
 obtain ⟨c,hc,h1⟩:=h1
 rw [Bool.and_eq_true] at h1
 obtain ⟨h2,h3⟩:=h1
 rw [List.any_eq_true] at h3
 obtain ⟨m,hm,h3⟩:=h3
 rw [Bool.and_eq_true] at h3
 exact ⟨h0,ce,hce,c,hc,eq_of_beq h2,m,hm,eq_of_beq h3.1,h3.2⟩
theorem EP (TE:TopE p loose mg h)(hct:ph (plainsOf p loose) t=true):∃cm,xh t mg h cm:=by
 refine Classical.axiomOfChoice (r:=fun k m=>∀e,t.ct.lookup k=some e→∃K N,mg e.1=some (.ref K)∧ClsAt h K N m) fun k=>?_
 cases hk:t.ct.lookup k with
 | none=>exact ⟨fun _=>none,fun e he=>by exact aw he⟩
 | some e=>
  unfold ph at hct
  rw [List.all_eq_true] at hct
  have:=hct _ (dA hk)
  rw [List.any_eq_true] at this
  obtain ⟨c,hc,h1⟩:=this
  rw [Bool.and_eq_true] at h1
  obtain ⟨C,N,mN,h3,P⟩:=TE c hc
  refine ⟨mN,fun e' he=>?_⟩
  obtain rfl:=Option.some.inj he
  exact ⟨C,N,by rw [←eq_of_beq h1.1];exact h3,P.cls⟩
theorem Be (hct:ph (plainsOf p loose) t=true){k:Nat}{e:Str × List Str}(hk:t.ct.lookup k=some e):∃c∈plainsOf p loose,c.name=e.1∧∀x,e.2.contains x=true→x∈c.statics:=by
 unfold ph at hct
 rw [List.all_eq_true] at hct
 have:=hct _ (dA hk)
 rw [List.any_eq_true] at this
 obtain ⟨c,hc,h1⟩:=this
 rw [Bool.and_eq_true] at h1
 refine ⟨c,hc,eq_of_beq h1.1,fun x hx=>?_⟩
 have:=List.all_eq_true.mp h1.2 x (List.contains_iff_mem.mp hx)
 exact List.contains_iff_mem.mp this
theorem Bf {f:Nat}{x:Str}{ns:List Str}{d:Fn}(e:t.tab.lookup f=some (x,ns,d)){a:Addr}(h1:mg x=some (.ref a)):(dU prog w h t mg cm).fa f=some a:=by
 show (match pf t.tab f with
  | some x=>c0 (mg x)
  | none=>_)=some a
 unfold pf
 rw [e]
 show c0 (mg x)=some a
 rw [h1];rfl
theorem ER {f k:Nat}{x:Str}{ns:List Str}{d:Fn}(e0:(t.tab.lookup f).isNone=true)(e:t.mt.lookup f=some (k,x,ns,d)){a:Addr}(h1:cm k x=some (.ref a)):(dU prog w h t mg cm).fa f=some a:=by
 show (match pf t.tab f with
  | some x=>c0 (mg x)
  | none=>match tU t.mt f with
   | some q=>c0 (cm q.1 q.2)
   | none=>none)=some a
 unfold pf tU
 rw [Option.isNone_iff_eq_none.mp e0,e]
 show c0 (cm k x)=some a
 rw [h1];rfl
theorem xj {f:Nat}{a:Addr}(e:(dU prog w h t mg cm).fa f=some a):(∃x ns d,t.tab.lookup f=some (x,ns,d)∧mg x=some (.ref a))∨(t.tab.lookup f=none∧∃k x ns d,t.mt.lookup f=some (k,x,ns,d)∧cm k x=some (.ref a)):=by
 replace e:(match pf t.tab f with
  | some x=>c0 (mg x)
  | none=>match tU t.mt f with
   | some q=>c0 (cm q.1 q.2)
   | none=>none)=some a:=e
 unfold pf tU at e
 cases q:t.tab.lookup f with
 | some z=>
  obtain ⟨x,ns,d⟩:=z
  rw [q] at e
  exact .inl ⟨x,ns,d,rfl,lD e⟩
 | none=>
  rw [q] at e
  cases q2:t.mt.lookup f with
  | none=>rw [q2] at e;cases e
  | some z=>
   obtain ⟨k,x,ns,d⟩:=z
   rw [q2] at e
   exact .inr ⟨rfl,k,x,ns,d,rfl,lD e⟩
theorem xk {k:Nat}{K:Addr}(e:(dU prog w h t mg cm).ca k=some K):∃ce,t.ct.lookup k=some ce∧mg ce.1=some (.ref K):=by
 replace e:(match t.ct.lookup k with
  | some e=>c0 (mg e.1)
  | none=>none)=some K:=e
 cases q:t.ct.lookup k with
 | none=>rw [q] at e;cases e
 | some ce=>rw [q] at e;exact ⟨ce,rfl,lD e⟩
theorem ET (T:Top p loose mean mg mb h)(TE:TopE p loose mg h)(XF:eX t.xs mg h)(hcm:xh t mg h cm)(hi:importsNone p=true)(hchk:pg (recsOf p) t=true)(hm:lw (plainsOf p loose) t=true)(hct:ph (plainsOf p loose) t=true):GOk (dU prog w h t mg cm) where
 sys:=by
  obtain ⟨mm,⟨o,es,ep,e,_⟩,_⟩:=(T.seer hi).mods
  show (h.get? sysModules).isSome=true
  rw [e];rfl
 nolimit:=T.nolimit
 fns:=fun f a e=>by
  rcases xj e with ⟨x,ns,d,e1,e2⟩ | ⟨_,k,x,ns,d,e1,e2⟩
  ·obtain ⟨r,hr,rfl,_⟩:=qL hchk e1
   obtain ⟨a',o,fd,h1,h2,h3⟩:=Dk T hr
   rw [e2] at h1;cases h1
   exact ⟨o,_,h2,h3⟩
  ·obtain ⟨_,ce,hce,c,hc,hn,m,hm,rfl,_⟩:=nV hm e1
   obtain ⟨K,N,_,P⟩:=lE TE hcm hce hc hn
   obtain ⟨a',o,fd,h1,h2,h3⟩:=xi P hm
   rw [e2] at h1;cases h1
   exact ⟨o,_,h2,h3⟩
 cls:=fun k K e=>by
  obtain ⟨ce,h1,h2⟩:=xk e
  obtain ⟨K',N,h3,h4⟩:=hcm k ce h1
  rw [h2] at h3;cases h3
  exact ⟨N,h4⟩
 quiet:=fun k K e=>by
  obtain ⟨ce,h1,h2⟩:=xk e
  obtain ⟨c,hc,hn,_⟩:=Be hct h1
  obtain ⟨K',N,_,P⟩:=lE TE hcm h1 hc hn
  exact ⟨P.quiet _ (List.mem_append_left _ (.head _)),P.quiet _ (List.mem_append_left _ (.tail _ (.head _))),P.quiet _ (List.mem_append_left _ (.tail _ (.tail _ (.head _))))⟩
 x:=EO XF
theorem xl {C:Glo}{z:Sg}{nh:Bool}{ns:List Str}{d:Fn}{a:Addr}{v:Option Value}{ps:Arguments}{sc:Scope}{body:List Stmt}(fo:FdO C.base v ps sc body)(hv:v=some (.ref a))(hc:lu z nh ns d ps sc body=true)(hg:rN C mainGlobals builtinsNs z):EM C z nh d a:=by
 obtain ⟨a',o,fd,h1,ho,hd,hcr,hb,hcl,hdf,rfl,rfl,h10,h11⟩:=fo
 obtain rfl:a=a':=by rw [hv] at h1;exact Value.ref.inj (Option.some.inj h1)
 obtain ⟨hc,c10⟩:=aj hc
 obtain ⟨hc,c9⟩:=aj hc
 obtain ⟨hc,c8⟩:=aj hc
 obtain ⟨hc,c7⟩:=aj hc
 obtain ⟨hc,c6⟩:=aj hc
 obtain ⟨hc,c5⟩:=aj hc
 obtain ⟨hc,c4⟩:=aj hc
 obtain ⟨hc,c3⟩:=aj hc
 obtain ⟨c1,c2⟩:=aj hc
 have hnd:(fd.params.args.map (·.arg)).Nodup:=by
  have:=(aj (aj c9).1)
  exact (of_decide_eq_true this.2).sublist (List.isPrefixOf_iff_prefix.mp this.1).sublist
 exact ⟨o,fd,body,fd.params.args.map (fun x:Arg=>x.arg),ns,ho,hd,hcr,hb,hcl,jB c5,jB c6,eq_of_beq c7,fun vals hv=>qK (List.isEmpty_iff.mp c1) (Option.isNone_iff_eq_none.mp c2) (List.isEmpty_iff.mp c3) (Option.isNone_iff_eq_none.mp c4) hdf hnd hv,eq_of_beq c8,c9,c10,by rw [h10,h11];exact hg⟩
theorem EU (T:Top p loose mean mg mb h)(TE:TopE p loose mg h)(XF:eX t.xs mg h)(hcm:xh t mg h cm)(hchk:pg (recsOf p) t=true)(hm:lw (plainsOf p loose) t=true)(hct:ph (plainsOf p loose) t=true)(hb:Bd p loose=true)
  (hgl:∀g x v,t.gl g=some (x,v)→∃u,mg x=some u∧∀ρ h',h.StaysIn h'→Rep (dU prog w h t mg cm) ρ h' v u):rO (dU prog w h t mg cm) t.sg t.P:=by
 have hG:rN (dU prog w h t mg cm) mainGlobals builtinsNs t.sg:=by
  refine ⟨mg,mb,T.g,T.b,fun f' x' e'=>?_,hgl,fun x' v' hm=>?_,fun k x e=>?_,fun k x e=>?_⟩
  ·obtain ⟨⟨y,ns,d⟩,q,rfl⟩:=Option.map_eq_some_iff.mp e'
   obtain ⟨r,hr,hrn,_⟩:=qL hchk q
   obtain ⟨a,_,_,g1,_⟩:=Dk T hr
   rw [hrn] at g1
   exact ⟨a,Bf q g1,g1⟩
  ·have:=List.all_eq_true.mp hb _ hm
   obtain ⟨hc,b7⟩:=aj this
   obtain ⟨hc,b6⟩:=aj hc
   obtain ⟨hc,b5⟩:=aj hc
   obtain ⟨hc,b4⟩:=aj hc
   obtain ⟨hc,b3⟩:=aj hc
   obtain ⟨b1,b2⟩:=aj hc
   have no:∀{l:List Str},(!l.contains x')=true→x'∉l:=fun q hx=>by
    have q:=jB q
    rw [List.contains_iff_mem.mpr hx] at q;exact tf q
   refine ⟨T.free x' (no b1) (no b2) (no b3) (no b4) (no b5),?_⟩
   rw [T.builtins x' fun e=>by
    have q:=jB b6
    rw [beq_iff_eq.mpr e] at q;exact tf q]
   obtain ⟨u,h1,h2⟩:=ae b7
   exact h1.trans (congrArg some (Dh h2).symm)
  ·obtain ⟨ce,q,rfl⟩:=Option.map_eq_some_iff.mp e
   obtain ⟨K,N,h1,_⟩:=hcm k ce q
   refine ⟨K,?_,h1⟩
   show (match t.ct.lookup k with
    | some e=>c0 (mg e.1)
    | none=>none)=some K
   rw [q]
   show c0 (mg ce.1)=some K
   rw [h1];rfl
  ·exact Di XF e
 refine ⟨⟨fun f k x e=>?_,fun k x e=>?_,rfl⟩,fun f d a hP e=>?_⟩
 ·obtain ⟨⟨k',x',ns,d⟩,q,e⟩:=Option.map_eq_some_iff.mp e
  obtain ⟨rfl,rfl⟩:=Prod.mk.inj e
  obtain ⟨h0,ce,hce,c,hc,hn,m,hm,hmn,_⟩:=nV hm q
  obtain ⟨K,N,_,P⟩:=lE TE hcm hce hc hn
  obtain ⟨a',o,pm,cd,doc,h1,h2,h3,_⟩:=P.meths m hm
  rw [hmn] at h1
  exact ⟨a',ER h0 q h1,h1,o,h2,h3⟩
 ·replace e:(match t.ct.lookup k with
   | some e=>e.2.contains x
   | none=>false)=true:=e
  cases q:t.ct.lookup k with
  | none=>rw [q] at e;exact ff e
  | some ce=>
   rw [q] at e
   obtain ⟨c,hc,hn,hq⟩:=Be hct q
   obtain ⟨K',N,_,P⟩:=lE TE hcm q hc hn
   exact P.quiet _ (List.mem_append_right _ (hq x e))
 ·replace hP:(fnP t.tab f).or (mtP t.mt f)=some d:=hP
  unfold fnP mtP at hP
  rcases xj e with ⟨x,ns,d',e1,e2⟩ | ⟨e0,k,x,ns,d',e1,e2⟩
  ·rw [e1] at hP
   obtain rfl:d'=d:=Option.some.inj hP
   obtain ⟨r,hr,hrn,hc⟩:=qL hchk e1
   exact xl (C:=dU prog w h t mg cm) (Dk T hr) (by rw [hrn];exact e2) hc hG
  ·rw [e0,e1] at hP
   obtain rfl:d'=d:=Option.some.inj hP
   obtain ⟨_,ce,hce,c,hc,hn,m,hm,hmn,hck⟩:=nV hm e1
   obtain ⟨K,N,_,P⟩:=lE TE hcm hce hc hn
   exact xl (C:=dU prog w h t mg cm) (xi P hm) (by rw [hmn];exact e2) hck hG
theorem Dm {P:Params}{a:Addr}{vs:List Value}{is:List Int}{xs:List WData}(W:Well P h (.ref a) (.list xs))(hl:h.IsList a vs.toArray)(hI:IntsAre vs is)(hz:is.length≤line){ρ:List Addr}{h':Heap} :
  Rep (dU prog w h t mg cm) ρ h' (.scr is) (.ref a):=by
 cases W with
 | @list _ us _ e _=>
  obtain ⟨o,e',hc,n,hd⟩:=hl
  obtain rfl:=same e e'
  simp only [Data.seq.injEq] at hd
  have:us=vs:=by simpa using hd.1
  subst this
  exact .scr e hI hz
theorem xm (T:Top p loose mean mg mb h)(TE:TopE p loose mg h)(XF:eX t.xs mg h)(hcm:xh t mg h cm)(hi:importsNone p=true)(hchk:pg (recsOf p) t=true)(hm:lw (plainsOf p loose) t=true)(hct:ph (plainsOf p loose) t=true)(hb:Bd p loose=true)
  (hgl:∀g x v,t.gl g=some (x,v)→∃u,mg x=some u∧∀ρ h',h.StaysIn h'→Rep (dU prog w h t mg cm) ρ h' v u)
  {s:Shared}(hs:s.heap=h) (hg:s.gens=#[]) {f:Nat}{x:Str}{ns:List Str}{d:Fn}(hf:t.tab.lookup f=some (x,ns,d)) {fa:Addr}(hmg:mg x=some (.ref fa)) (hd:d.args=1) {is:List Int}{a:Addr}
  (hr:Rep (dU prog w h t mg cm) [] h (.scr is) (.ref a)) (hlaw:∀K:KT,aK t.P K→ax K 600 d.body (fin fun v _=>v=.bool true) (fun _ _=>False) (cZ d [.scr is] [])) {E:Value→Shared→Prop}{Q:Value→Shared→Prop}
  (hQ:∀s',(∀b o,h.get? b=some o→s'.heap.get? b=some o)→s'.os=s.os→s'.gens=#[]→Q (.bool true) s'):wpAny (model prog w) callerA (call (.ref fa) [.ref a]) Q E s:=by
 subst hs
 have G:GOk (dU prog w s.heap t mg cm):=ET T TE XF hcm hi hchk hm hct
 have H:rO (dU prog w s.heap t mg cm) t.sg t.P:=EU T TE XF hcm hchk hm hct hb hgl
 have hfa:(dU prog w s.heap t mg cm).fa f=some fa:=Bf hf hmg
 have hP:t.P f=some d:=by
  show (fnP t.tab f).or (mtP t.mt f)=some d
  unfold fnP
  rw [hf];rfl
 have hH:Hp (dU prog w s.heap t mg cm) [] [] s.heap:=⟨fun b o e=>e,rfl,List.nodup_nil,fun _ h=>(by exact aC h),fun i o a e=>(by simp at e)⟩
 refine wpAny_mono (mY (C:=dU prog w s.heap t mg cm) (X:=fun _ _=>False) G H hP (vs:=[.scr is]) (by rw [hd];rfl) (hlaw _ (Dg G H)) (A:=callerA) (.inl rfl) hH hg (.cons hr .nil) (frs:=[]) ⟨[],rfl,fun e he=>(by exact aC he)⟩ (fun L hL=>(by exact aC hL)) (by show 1+300+601≤999;exact nb rfl) (by show 4≤3 * 301+4;exact nb rfl) hfa)
  (fun v s' hr=>?_) fun e s' hx=>Dj hx
 obtain ⟨ρ',hp',y,st,hH',ry,hq⟩:=hr
 subst hq
 cases ry
 exact hQ s' hH'.base st.os (st.gens.trans hg)
theorem xo {R:WRecords}{t:WTm}{c:WCtx}(h:WTm.value R t c=some (.bool true)):WTm.holds R t c=true:=by
 unfold WTm.holds;rw [h]
theorem tV (l:OpenLaw)(args ds:List WData):l.row.toRowW.claim.post args (.bool true) ds=true:=by
 show (WShape.has [] (.bool true) .bool&&WTm.holds [] (.eq .res (.lit (.bool true))) _)=true
 rw [Bool.and_eq_true]
 have e:W.same (WData.bool true) (WData.bool true)=true:=by decide +kernel
 refine ⟨by decide +kernel,?_⟩
 exact xo (congrArg (fun b=>some (WData.bool b)) e)
end
end Internal
end
section
namespace Internal
open PySem PySem.W PyProof.Rows
section
variable {p:Program}{loose:List Str}{mean:ExcName→Option Value}{mg mb:Str→Option Value}{h:Heap}{prog:Program}{w w':World}{t:gK}{cm:Nat→Str→Option Value}
noncomputable def zY (prog:Program)(w:World)(h:Heap)(t:gK)(mg:Str→Option Value)(cm:Nat→Str→Option Value)(x:Str)(v:MV):Prop:=∃u,mg x=some u∧∀ρ h',h.StaysIn h'→Rep (dU prog w h t mg cm) ρ h' v u
noncomputable def isI (o:Option PyData)(i:Int):Bool:=match o with
 | some (.int j)=>j==i
 | _=>false
theorem Dn {o:Option PyData}{i:Int}(h:isI o i=true):o=some (.int i):=by
 cases o with
 | none=>exact ff h
 | some d=>
  cases d with
  | int j=>exact congrArg (fun j=>some (PyData.int j)) (eq_of_beq h)
  | _=>exact ff h
noncomputable def isT (o:Option PyData)(s:List Nat):Bool:=match o with
 | some (.str x)=>x.cps.toList==s
 | _=>false
theorem Dp {o:Option PyData}{s:List Nat}(h:isT o s=true):o=some (.str (str s)):=by
 cases o with
 | none=>exact ff h
 | some d=>
  cases d with
  | str x=>obtain rfl:=eq_of_beq h;rfl
  | _=>exact ff h
theorem qM (T:Top p loose mean mg mb h){x:Str}{i:Int}(e:isI (valOf p x) i=true):zY prog w h t mg cm x (.int i):=by
 obtain ⟨v,h1,h2⟩:=T.const x _ (Dn e)
 refine ⟨v,h1,fun ρ h' _=>?_⟩
 cases h2 h'
 exact .int _ _
theorem xp (T:Top p loose mean mg mb h){x:Str}{s:List Nat}(e:isT (valOf p x) s=true)(hs:s.length≤line):zY prog w h t mg cm x (.str s):=by
 obtain ⟨v,h1,h2⟩:=T.const x _ (Dp e)
 refine ⟨v,h1,fun ρ h' _=>?_⟩
 cases h2 h'
 exact .str _ _ hs
theorem xq (B:Tables p w' mg h){x:Str}{ss:List (List Nat)}(e:tupStrsOf p x=some (ss.map fun s=>(str s:Str)))(hs:∀s∈ss,s.length≤line):zY prog w h t mg cm x (.gt ss):=by
 obtain ⟨a,vs,h1,⟨o,h2,h3,n,h4⟩,h5⟩:=B.tupS x _ e
 refine ⟨.ref a,h1,fun ρ h' _=>.gt h2 h3 h4 ?_⟩
 clear e h1 h2 h3 h4
 induction ss generalizing vs with
 | nil=>cases h5;exact .nil
 | cons s ss ih=>
  cases h5 with
  | cons _ t r=>exact .cons (.str _ _ (hs s (List.mem_cons_self ..))) (ih (fun x hx=>hs x (List.mem_cons_of_mem _ hx)) _ r)
theorem zZ (T:Top p loose mean mg mb h){x:Str}{es:List (List Nat × Int)}(y:jn x es prog w h):zY prog w h t mg cm x (.cdict es):=by
 obtain ⟨mg',a,kvs,h1,h2,h3,h4,h5⟩:=y
 cases jg h1 T.g
 exact ⟨.ref a,h2,fun ρ h' _=>.cdict h3 h4 h5⟩
end
end Internal
end
section
namespace Internal
open PySem
noncomputable abbrev vA:ME:=.cst (.int 1)
noncomputable abbrev vB:ME:=.cst (.int 0)
noncomputable abbrev vC:ME:=.cst (.str [110,117,109,98,101,114])
noncomputable abbrev vD:ME:=.var 0
noncomputable abbrev vE:ME:=.cst (.str [110,97,109,101])
noncomputable abbrev vF:ME:=.cst (.int 2)
noncomputable abbrev vG:ME:=.cst (.str [115,101,116])
noncomputable abbrev vH:ME:=.var 1
noncomputable abbrev vI:ME:=.var 2
noncomputable abbrev vJ:ME:=.var 3
noncomputable abbrev vK:ME:=.cst (.str [119,104,105,108,101])
noncomputable abbrev vL:ME:=.cst (.str [116,101,108,108])
noncomputable abbrev vM:ME:=.cst (.str [115,107,105,112])
noncomputable abbrev vN:ME:=.cst (.int 3)
noncomputable abbrev vO:ME:=.cst (.int 5)
noncomputable abbrev vP:ME:=.cst (.bool false)
noncomputable abbrev vQ:ME:=.var 4
noncomputable abbrev vR:ME:=.cst (.str [97,98,99,100,101,102,103,104,105,106,107,108,109,110,111,112,113,114,115,116,117,118,119,120,121,122])
noncomputable abbrev vS:ME:=.cst (.int 4)
noncomputable abbrev vT:ME:=.var 5
noncomputable abbrev vU:ME:=.cst (.str [105,102])
noncomputable abbrev vV:ME:=.cst (.str [47])
noncomputable abbrev vW:ME:=.var 6
noncomputable abbrev vX:ME:=.cst (.int 8)
noncomputable abbrev vY:ME:=.cst (.str [122,122])
noncomputable abbrev vZ:ME:=.cst (.str [43])
noncomputable abbrev uA:ME:=.var 7
noncomputable abbrev uB:ME:=.cst (.str [60])
noncomputable abbrev uC:ME:=.cst (.int 7)
noncomputable abbrev uD:ME:=.cst (.str [101,108,115,101])
noncomputable abbrev uE:ME:=.cst (.int 10)
noncomputable abbrev uF:ME:=.cst (.int 6)
noncomputable abbrev uG:ME:=.var 8
noncomputable abbrev uH:ME:=.cst (.str [101,110,100])
noncomputable abbrev uI:ME:=.cst (.str [])
noncomputable abbrev uJ:ME:=.cst (.int 12)
noncomputable abbrev uK:ME:=.cst (.str [110,111,117,103,104,116])
noncomputable abbrev uL:ME:=.cst (.int 20)
noncomputable abbrev uM:ME:=.cst (.int 15)
noncomputable def jG:Fn:=⟨2,2,[.ret (.and [.isi vD [.int],.not (.isi vD [.bool]),.cmp2 .le .le vB vD vH])]⟩
noncomputable def iC:Fn:=⟨1,1,[.ret (.call 22 [vD,.bin .sub (.glob 0 (.int 1000000)) vA])]⟩
noncomputable def lF:Fn:=⟨1,2,[.ite (.or [.not (.isi vD [.str]),.not (.cmp2 .le .le vA (.blt .len [vD]) (.glob 5 (.int 8))),.cmp .inn vD (.glob 1 (.gt [[115,101,116],[116,101,108,108],[115,107,105,112],[105,102],[101,108,115,101],[119,104,105,108,101],[101,110,100]]))]) [.ret vP] [],.ite (.cmp .nin (.idx vD vB) (.glob 3 (.str [97,98,99,100,101,102,103,104,105,106,107,108,109,110,111,112,113,114,115,116,117,118,119,120,121,122]))) [.ret vP] [],.for_ [1] false .val [vD] [.ite (.and [.cmp .nin vH (.glob 3 (.str [97,98,99,100,101,102,103,104,105,106,107,108,109,110,111,112,113,114,115,116,117,118,119,120,121,122])),.cmp .nin vH (.glob 4 (.str [48,49,50,51,52,53,54,55,56,57]))]) [.ret vP] []],.ret (.cst (.bool true))]⟩
noncomputable def cb:Fn:=⟨2,3,[.ite (.cmp .gt vH (.glob 6 (.int 12))) [.raise 4] [],.ite (.or [.not (.isi vD [.tuple]),.not (.cmp2 .le .le vF (.blt .len [vD]) vN),.not (.isi (.idx vD vB) [.str])]) [.raise 3] [],.ite (.cmp .eq (.blt .len [vD]) vF) [.asg [2] false (.or [.and [.cmp .eq (.idx vD vB) vC,.call 23 [.idx vD vA]],.and [.cmp .eq (.idx vD vB) vE,.call 24 [.idx vD vA]]]),.ite (.not vI) [.raise 3] [],.ret (.cst .none)] [],.ite (.cmp .nin (.idx vD vB) (.glob 2 (.gt [[43],[45],[42],[47],[60],[61]]))) [.raise 3] [],.expr (.call 55 [.idx vD vA,.bin .add vH vA]),.expr (.call 55 [.idx vD vF,.bin .add vH vA])]⟩
noncomputable def de:Fn:=⟨1,1,[.ite (.cmp .eq (.idx vD vB) vC) [.ret (.list [])] [],.ite (.cmp .eq (.idx vD vB) vE) [.ret (.list [.idx vD vA])] [],.ret (.bin .add (.call 0 [.idx vD vA]) (.call 0 [.idx vD vF]))]⟩
noncomputable def jH:Fn:=⟨1,1,[.ret (.blt .sortedSet [.call 0 [vD]])]⟩
noncomputable def bH:Fn:=⟨1,2,[.ite (.cmp .eq (.blt .len [vD]) vF) [.ret (.list [])] [],.asg [1] false (.bin .add (.call 2 [.idx vD vA]) (.call 2 [.idx vD vF])),.ite (.cmp .eq (.idx vD vB) vV) [.asg [1] false (.bin .add vH (.call 0 [.idx vD vF]))] [],.ret vH]⟩
noncomputable def fK:Fn:=⟨1,1,[.ret (.blt .sortedSet [.call 2 [vD]])]⟩
noncomputable def eY:Fn:=⟨1,1,[.ite (.cmp .eq (.blt .len [vD]) vF) [.ret vP] [],.ret (.or [.cmp .eq (.idx vD vB) vV,.call 4 [.idx vD vA],.call 4 [.idx vD vF]])]⟩
noncomputable def jI:Fn:=⟨1,1,[.ret (.isi vD [.list,.tuple])]⟩
noncomputable def iE:Fn:=⟨1,1,[.ite (.cmp .eq (.idx vD vB) vU) [.ret (.list [.idx vD vF,.idx vD vN])] [],.ite (.cmp .eq (.idx vD vB) vK) [.ret (.list [.idx vD vF])] [],.ret (.list [])]⟩
noncomputable def gS:Fn:=⟨1,1,[.ite (.cmp .eq (.idx vD vB) vM) [.ret (.cst .none)] [],.ite (.cmp .eq (.idx vD vB) vG) [.ret (.idx vD vF)] [],.ret (.idx vD vA)]⟩
noncomputable def jJ:Fn:=⟨1,2,[.ite (.or [.not (.isi vD [.tuple]),.cmp .eq (.blt .len [vD]) vB,.not (.isi (.idx vD vB) [.str])]) [.ret vP] [],.ite (.or [.cmp .nin (.idx vD vB) (.glob 9 (.cdict [([115,101,116],3),([116,101,108,108],2),([115,107,105,112],1),([105,102],4),([119,104,105,108,101],3)])),.cmp .ne (.blt .len [vD]) (.idx (.glob 9 (.cdict [([115,101,116],3),([116,101,108,108],2),([115,107,105,112],1),([105,102],4),([119,104,105,108,101],3)])) (.idx vD vB))]) [.ret vP] [],.ite (.and [.cmp .eq (.idx vD vB) vG,.not (.call 24 [.idx vD vA])]) [.ret vP] [],.ret (.blt .all [.comp (.call 56 [vH]) [1] false .val [.call 25 [vD]] []])]⟩
noncomputable def iG:Fn:=⟨2,4,[.for_ [2] false .val [vD] [.ite (.not (.call 57 [vI])) [.raise 3] [],.ite (.cmp .gt vH (.glob 7 (.int 8))) [.raise 4] [],.ite (.cmp .ne (.idx vI vB) vM) [.expr (.call 55 [.call 26 [vI],vA])] [],.for_ [3] false .val [.call 25 [vI]] [.expr (.call 58 [vJ,.bin .add vH vA])]]]⟩
noncomputable def gT:Fn:=⟨2,3,[.ite (.not (.call 56 [vD])) [.raise 1] [],.for_ [2] false .val [vD] [.ite (.not (.call 24 [vI])) [.raise 1] [],.ite (.cmp .inn vI vH) [.raise 2] [],.expr (.mth .append vH [vI])]]⟩
noncomputable def lG:Fn:=⟨1,3,[.asg [1] false (.list []),.for_ [2] false .val [vD] [.ite (.cmp .eq (.idx vI vB) vU) [.expr (.mth .append vH [.tup [.idx vI vB,.idx vI vA,.call 60 [.idx vI vF],.call 60 [.idx vI vN]]])] [.ite (.cmp .eq (.idx vI vB) vK) [.expr (.mth .append vH [.tup [.idx vI vB,.idx vI vA,.call 60 [.idx vI vF]]])] [.expr (.mth .append vH [vI])]]],.ret (.blt .tuple [vH])]⟩
noncomputable def jK:Fn:=⟨3,8,[.asg [3] false (.list []),.asg [4] false vH,.for_ [5] false .val [vD] [.expr (.mth .append vJ [.tup [vQ,vT,vI]]),.asg [4] false (.bin .add vQ vA),.for_ [6] false .val [.call 25 [vT]] [.asg [7] false (.call 61 [vW,vQ,.bin .add vI (.tup [.idx vT vA])]),.expr (.mth .extend vJ [uA]),.asg [4] false (.bin .add vQ (.blt .len [uA]))]],.ret vJ]⟩
noncomputable def db:Fn:=⟨4,6,[.asg [4] false (.list []),.expr (.call 59 [vH,vQ]),.asg [5] false (.blt .len [vQ]),.expr (.call 59 [vI,vQ]),.ite (.not (.call 56 [vJ])) [.raise 3] [],.expr (.call 58 [vJ,vA]),.setAttr 0 vD [111,112,101,110,115] (.sl vQ none (some vT)),.setAttr 0 vD [115,101,99,114,101,116,115] (.sl vQ (some vT) none),.setAttr 0 vD [114,111,119,115] (.call 60 [vJ])]⟩
noncomputable def fy:Fn:=⟨2,2,[.ite (.cmp .inn vH (.attr 0 vD [111,112,101,110,115])) [.ret (.cst (.str [111,112,101,110]))] [],.ite (.cmp .inn vH (.attr 0 vD [115,101,99,114,101,116,115])) [.ret (.cst (.str [115,101,99,114,101,116]))] [],.ret (.cst (.str [102,114,101,101]))]⟩
noncomputable def fA:Fn:=⟨1,1,[.ret (.tup [.blt .list [.attr 0 vD [111,112,101,110,115]],.blt .list [.attr 0 vD [115,101,99,114,101,116,115]]])]⟩
noncomputable def eh:Fn:=⟨1,1,[.ret (.attr 0 vD [114,111,119,115])]⟩
noncomputable def fM:Fn:=⟨1,3,[.asg [1] false (.list []),.for_ [2] false .val [vD] [.expr (.mth .extend vH [.call 1 [vI]])],.ret vH]⟩
noncomputable def gV:Fn:=⟨2,3,[.asg [2] false (.call 101 [vH]),.ite (.cmp .ne (.idx vD vB) vM) [.asg [2] false (.bin .add vI (.call 1 [.call 26 [vD]]))] [],.ret (.blt .sortedSet [vI])]⟩
noncomputable def pk:Fn:=⟨1,6,[.asg [1] false (.list []),.for_ [2,3,4] true .val [.call 61 [.umth 0 67 [98,108,111,99,107] vD [],vA,.tup []]] [.ite (.cmp .eq (.idx vJ vB) vG) [.expr (.mth .extend vH [.comp (.tup [vI,vT,.idx vJ vA]) [5] false .val [.call 102 [vJ,vQ]] []])] []],.ret vH]⟩
noncomputable def iH:Fn:=⟨1,9,[.asg [1] false .dict0,.asg [2] false (.list []),.for_ [3] false .val [.idx (.umth 0 66 [116,111,108,100] vD []) vA] [.setIdx vH vJ (.list [.tup [vB,vJ]]),.expr (.mth .append vI [vJ])],.asg [4] false (.call 103 [vD]),.asg [5] false vB,.while_ (.cmp .lt vT (.blt .len [vI])) [.asg [6] false (.idx vI vT),.asg [5] false (.bin .add vT vA),.for_ [7,8,3] true .val [vQ] [.ite (.and [.cmp .eq uG vW,.cmp .nin vJ vH,.cmp .eq (.umth 0 65 [107,105,110,100] vD [vJ]) (.cst (.str [102,114,101,101]))]) [.setIdx vH vJ (.bin .add (.idx vH vW) (.list [.tup [uA,vJ]])),.expr (.mth .append vI [vJ])] []]],.ret vH]⟩
noncomputable def dQ:Fn:=⟨3,4,[.asg [3] false (.list []),.ite (.and [.cmp .eq (.idx vH vB) vG,.cmp .eq (.umth 0 65 [107,105,110,100] vD [.idx vH vA]) (.cst (.str [111,112,101,110]))]) [.expr (.mth .append vJ [.tup [vG,.call 102 [vH,vI]]])] [],.ite (.cmp .eq (.idx vH vB) vL) [.expr (.mth .append vJ [.tup [vL,.call 102 [vH,vI]]])] [],.ite (.cmp .eq (.idx vH vB) vK) [.expr (.mth .append vJ [.tup [.cst (.str [116,117,114,110]),.call 102 [vH,vI]]])] [],.ite (.and [.cmp .ne (.idx vH vB) vM,.call 4 [.call 26 [vH]]]) [.expr (.mth .append vJ [.tup [uK,.bin .add (.call 3 [.call 26 [vH]]) (.call 101 [vI])]])] [],.ret vJ]⟩
noncomputable def jL:Fn:=⟨2,4,[.asg [2] false (.cst .none),.for_ [3] false .val [vH] [.ite (.and [.cmp .inn vJ vD,.or [.isN true vI,.cmp .lt (.blt .len [.idx vD vJ]) (.blt .len [vI])]]) [.asg [2] false (.idx vD vJ)] []],.ret vI]⟩
noncomputable def mZ:Fn:=⟨1,9,[.asg [1] false (.call 104 [vD]),.for_ [2,3,4] true .val [.call 61 [.umth 0 67 [98,108,111,99,107] vD [],vA,.tup []]] [.for_ [5,6] true .val [.call 111 [vD,vJ,vQ]] [.asg [7] false (.call 112 [vH,vW]),.ite (.isN false uA) [.asg [8] false uI,.ite (.cmp .eq vT vG) [.asg [8] false (.idx vJ vA)] [],.ret (.tup [vT,.bin .add uA (.list [.tup [vI,uG]])])] []]],.ret (.cst .none)]⟩
noncomputable def iI:Fn:=⟨1,1,[.ret (.and [.isi vD [.int],.not (.isi vD [.bool])])]⟩
noncomputable def fN:Fn:=⟨2,2,[.ite (.cmp .lt vH (.blt .len [vD])) [.ret (.idx vD vH)] [],.ret vB]⟩
noncomputable def iJ:Fn:=⟨1,1,[.ret (.bin .mod (.bin .add (.bin .mul vD (.cst (.int 48271))) (.cst (.int 7919))) (.cst (.int 2147483647)))]⟩
noncomputable def fO:Fn:=⟨1,4,[.asg [1] false (.idx vR (.bin .mod (.bin .fdiv vD vX) (.cst (.int 26)))),.asg [2] false vD,.for_ [3] false .range1 [.bin .mod vD vX] [.asg [2] false (.call 6 [vI]),.asg [1] false (.bin .add vH (.idx (.cst (.str [97,98,99,100,101,102,103,104,105,106,107,108,109,110,111,112,113,114,115,116,117,118,119,120,121,122,48,49,50,51,52,53,54,55,56,57])) (.bin .mod vI (.cst (.int 36)))))],.ite (.cmp .inn vH (.list [vG,vL,vM,vU,uD,vK,uH])) [.ret (.bin .add vH (.cst (.str [48])))] [],.ret vH]⟩
noncomputable def fP:Fn:=⟨2,6,[.asg [2] false vR,.asg [3] false (.bin .mod vH (.blt .len [vD])),.ite (.cmp .gt vJ vB) [.asg [2] false (.bin .add vI (.cst (.str [48,49,50,51,52,53,54,55,56,57])))] [],.asg [4] false (.bin .add (.bin .add (.mth .find vI [.idx vD vJ]) vA) (.bin .mod (.bin .fdiv vH vX) (.bin .sub (.blt .len [vI]) vA))),.asg [5] false (.bin .add (.bin .add (.sl vD none (some vJ)) (.idx vI (.bin .mod vQ (.blt .len [vI])))) (.sl vD (some (.bin .add vJ vA)) none)),.ite (.cmp .inn vT (.list [vG,vL,vM,vU,uD,vK,uH])) [.ret (.bin .add vT (.cst (.str [48])))] [],.ret vT]⟩
noncomputable def eZ:Fn:=⟨2,5,[.asg [2] false (.list []),.for_ [3] false .range1 [uE] [.asg [0] false (.call 6 [vD]),.asg [4] false (.call 7 [.bin .fdiv vD vO]),.ite (.and [.cmp .eq (.bin .mod vJ vF) vA,.cmp .eq (.bin .mod (.bin .fdiv vH vS) vF) vA]) [.asg [4] false (.call 8 [.idx vI (.bin .sub vJ vA),.call 6 [.bin .add vH vJ]])] [],.while_ (.or [.cmp .inn vQ vI,.cmp .inn vQ (.list [vG,vL,vM,vU,uD,vK,uH])]) [.asg [4] false (.bin .add (.sl vQ none (some uC)) (.idx vR (.bin .mod (.bin .add (.bin .add vH (.blt .len [vQ])) vJ) (.cst (.int 26))))),.asg [1] false (.bin .add vH vO)],.expr (.mth .append vI [vQ])],.ret vI]⟩
noncomputable def dW:Fn:=⟨2,2,[.ite (.and [.cmp .ne vH (.list []),.cmp .gt (.bin .mod vD vN) vB]) [.ret (.tup [vE,.idx vH (.bin .mod (.bin .fdiv vD vN) (.blt .len [vH]))])] [],.ite (.cmp .eq (.bin .mod (.bin .fdiv vD vN) vS) vB) [.ret (.tup [vC,.bin .mod (.bin .fdiv vD uJ) (.bin .pow uE uF)])] [],.ret (.tup [vC,.bin .mod (.bin .fdiv vD uJ) vO])]⟩
noncomputable def cw:Fn:=⟨5,7,[.asg [0] false (.call 6 [vD]),.ite (.or [.cmp .eq vQ vA,.cmp .lt (.bin .mod vD vX) vN]) [.ret (.call 10 [.bin .fdiv vD vX,vH])] [],.asg [5] false (.idx (.list [vZ,.cst (.str [45]),.cst (.str [42]),uB,.cst (.str [61]),vZ,.cst (.str [45]),uB,vV,vV]) (.bin .mod (.bin .fdiv vD vX) (.idx (.list [vX,uE]) (.blt .int [vJ])))),.asg [6] false (.call 11 [.bin .add (.bin .mul vD vN) vA,vH,vI,vJ,.bin .sub vQ vA]),.ite (.and [.cmp .eq vT vV,.cmp .lt (.bin .mod (.bin .fdiv vD (.cst (.int 80))) vS) vN]) [.ret (.tup [vT,vW,.tup [vC,.bin .add vA (.bin .mod (.bin .fdiv vD (.cst (.int 320))) (.cst (.int 9)))]])] [],.ite (.cmp .eq vT vV) [.ret (.tup [vT,vW,.call 11 [.bin .add (.bin .mul vD vO) vF,vI,vI,vJ,.bin .sub vQ vA]])] [],.ret (.tup [vT,vW,.call 11 [.bin .add (.bin .mul vD vO) vF,vH,vI,vJ,.bin .sub vQ vA]])]⟩
noncomputable def bd:Fn:=⟨1,1,[.ite (.cmp .eq (.idx vD vB) vC) [.ret (.list [])] [],.ite (.cmp .eq (.idx vD vB) vE) [.ret (.list [.idx vD vA])] [],.ret (.bin .add (.call 37 [.idx vD vA]) (.call 37 [.idx vD vF]))]⟩
noncomputable def bJ:Fn:=⟨4,8,[.asg [4] false (.sl vD none (some vO)),.asg [5] false vD,.ite (.or [.and [.cmp .eq vJ vB,.cmp .eq (.bin .mod (.bin .fdiv vH uJ) vF) vB],.and [.cmp .eq vJ vF,vI,.cmp .gt (.bin .mod (.bin .fdiv vH uJ) vN) vB]]) [.asg [5] false vQ] [.ite (.cmp .eq vJ vF) [.asg [5] false (.sl vD (some vO) none)] []],.ite (.cmp .gt vJ vB) [.asg [4] false vT] [],.asg [6] false (.call 11 [vH,vT,vQ,.or [.cmp .gt vJ vB,.not vI],.bin .add vA (.bin .mod (.bin .fdiv vH (.cst (.int 24))) vS)]),.ret (.tup [vW,.cmp .ne (.comp uA [7] false .val [.call 37 [vW]] [.cmp .inn uA (.sl vD (some vO) none)]) (.list [])])]⟩
noncomputable def dX:Fn:=⟨1,2,[.asg [1] false (.mth .pop vD []),.ite (.cmp .eq (.idx vH vB) vK) [.ite (.and [.cmp .eq (.idx (.idx vH vA) vB) uB,.cmp .eq (.idx (.idx (.idx vH vA) vA) vB) vE]) [.expr (.mth .append (.idx vH vF) [.tup [vG,.idx (.idx (.idx vH vA) vA) vA,.tup [vZ,.idx (.idx vH vA) vA,.tup [vC,vA]]]])] [],.expr (.mth .append (.idx (.idx vD (.neg vA)) vF) [.tup [vK,.idx vH vA,.blt .tuple [.idx vH vF]]])] [.ite (.isN true (.idx vH vS)) [.expr (.mth .append vD [.list [.idx vH vB,.idx vH vA,.list [],.idx vH vN,.blt .tuple [.idx vH vF]]])] [.expr (.mth .append (.idx (.idx vD (.neg vA)) vF) [.tup [vU,.idx vH vA,.idx vH vS,.blt .tuple [.idx vH vF]]])]]]⟩
noncomputable def e8:Fn:=⟨4,11,[.asg [4] false (.bin .mod vI uJ),.asg [5] false (.cmp .ne (.comp (.var 10) [10] false .val [vD] [.idx (.var 10) vN]) (.list [])),.asg [6,7] true (.call 38 [vH,vI,vT,vJ]),.asg [8] false (.and [.cmp .eq vJ vB,.or [vT,uA]]),.ite (.cmp .eq vJ vF) [.asg [4] false (.idx (.list [vB,vS,vX,vB]) (.bin .mod (.bin .fdiv vI uC) vS))] [],.ite (.cmp .lt vQ vS) [.asg [9] false (.idx (.list [vH,vH,.idx (.list [.sl vH none (some vO),.sl vH (some vO) none]) (.blt .int [.cmp .eq (.bin .mod (.bin .fdiv vI uC) vS) vN])]) vJ),.ite uG [.asg [9] false (.sl vH (some vO) none)] [],.expr (.mth .append (.idx (.idx vD (.neg vA)) vF) [.tup [vG,.idx (.var 9) (.bin .mod (.bin .fdiv vI (.cst (.int 96))) (.blt .len [.var 9])),vW]])] [.ite (.and [.cmp .eq vQ vS,.not uG]) [.expr (.mth .append (.idx (.idx vD (.neg vA)) vF) [.tup [vL,vW]])] [.ite (.cmp .eq vQ vO) [.expr (.mth .append (.idx (.idx vD (.neg vA)) vF) [.tup [vM]])] [.ite (.and [.cmp .lt vQ vX,.cmp .lt (.blt .len [vD]) vX]) [.expr (.mth .append vD [.list [vU,vW,.list [],uA,.cst .none]])] [.ite (.and [.cmp .lt vQ uE,.cmp .lt (.blt .len [vD]) vX,.not uG]) [.ite (.and [.cmp .eq vJ vB,.cmp .gt (.bin .mod (.bin .fdiv vI (.cst (.int 96))) vS) vB]) [.asg [6] false (.tup [uB,.tup [vE,.idx vH (.bin .mod (.bin .fdiv vI (.cst (.int 384))) vO)],.tup [vC,.bin .add vA (.bin .mod (.bin .fdiv vI (.cst (.int 1920))) vS)]])] [],.expr (.mth .append vD [.list [vK,vW,.list [],uA,.cst .none]])] [.ite (.cmp .gt (.blt .len [vD]) vA) [.expr (.call 39 [vD])] []]]]]]]⟩
noncomputable def cV:Fn:=⟨3,8,[.asg [3] false (.list [.list [uI,.cst .none,.list [],vP,.cst .none]]),.for_ [4,5] true .enum [vD] [.asg [6] false (.call 6 [.bin .mul (.call 6 [.bin .add vT (.bin .mul (.cst (.int 131)) vQ)]) (.bin .add vQ vF)]),.asg [7] false vB,.ite (.and [.cmp .eq vI vA,.cmp .eq (.bin .mod (.bin .fdiv vW (.cst (.int 4096))) vS) vB]) [.asg [7] false vA] [],.ite (.and [.cmp .gt vI vA,.cmp .eq vQ (.bin .mod vI (.blt .len [vD]))]) [.asg [7] false vF] [],.expr (.call 40 [vJ,vH,vW,uA])],.while_ (.cmp .gt (.blt .len [vJ]) vA) [.expr (.call 39 [vJ])],.ret (.idx (.idx vJ vB) vF)]⟩
noncomputable def gW:Fn:=⟨1,1,[.ite (.cmp .eq (.idx vD vB) vG) [.ret (.list [])] [],.ret (.blt .list [.sl vD (some vF) none])]⟩
noncomputable def fQ:Fn:=⟨1,1,[.ite (.cmp .eq (.idx vD vB) vM) [.ret (.tup [vC,vB])] [],.ret (.idx vD (.bin .add vA (.blt .int [.cmp .eq (.idx vD vB) vG])))]⟩
noncomputable def gX:Fn:=⟨3,5,[.for_ [3] false .val [vD] [.expr (.mth .append vI [.tup [vJ,vH]]),.for_ [4] false .val [.call 72 [vJ]] [.expr (.call 107 [vQ,.bin .add vH (.call 37 [.call 106 [vJ]]),vI])]],.ret vI]⟩
noncomputable def gY:Fn:=⟨2,7,[.asg [2] false (.blt .list [.idx vD vA]),.asg [3] false (.cst (.bool true)),.while_ vJ [.asg [3] false vP,.for_ [4,5] true .val [vH] [.ite (.and [.cmp .eq (.idx vQ vB) vG,.cmp .nin (.idx vQ vA) (.bin .add (.idx vD vB) vI)]) [.ite (.cmp .ne (.comp vW [6] false .val [.bin .add (.call 37 [.idx vQ vF]) vT] [.cmp .inn vW vI]) (.list [])) [.expr (.mth .append vI [.idx vQ vA]),.asg [3] false (.cst (.bool true))] []] []]],.ret vI]⟩
noncomputable def cc:Fn:=⟨2,2,[.ite (.or [.cmp .eq (.idx vD vB) vC,.and [.cmp .eq (.idx vD vB) vE,.not vH]]) [.ret (.list [])] [],.ite (.cmp .eq (.idx vD vB) vE) [.ret (.list [.idx vD vA])] [],.ret (.bin .add (.call 114 [.idx vD vA,vH]) (.call 114 [.idx vD vF,.or [vH,.cmp .eq (.idx vD vB) vV]]))]⟩
noncomputable def bz:Fn:=⟨1,1,[.ite (.cmp .eq (.blt .len [vD]) vF) [.ret vP] [],.ret (.or [.cmp .eq (.idx vD vB) vV,.call 115 [.idx vD vA],.call 115 [.idx vD vF]])]⟩
noncomputable def bu:Fn:=⟨4,11,[.asg [4] false (.call 106 [vH]),.asg [5] false (.list []),.asg [6] false (.comp uG [8] false .val [.bin .add (.call 37 [vQ]) vI] [.cmp .inn uG vJ]),.ite (.and [.cmp .eq (.idx vH vB) vG,.cmp .inn (.idx vH vA) (.idx vD vB)]) [.expr (.mth .append vT [.tup [vG,.idx vH vA,vW]])] [],.ite (.cmp .eq (.idx vH vB) vL) [.expr (.mth .append vT [.tup [vL,uI,vW]])] [],.ite (.cmp .eq (.idx vH vB) vK) [.expr (.mth .append vT [.tup [.cst (.str [116,117,114,110]),uI,vW]])] [],.ite (.call 115 [vQ]) [.asg [7] false (.comp (.var 9) [9] false .val [.bin .add (.call 114 [vQ,vP]) vI] [.cmp .inn (.var 9) vJ]),.expr (.mth .append vT [.tup [uK,uI,uA]])] [],.ite (.cmp .eq (.idx vH vB) vM) [.ret (.list [])] [],.ret (.comp (.var 10) [10] false .val [vT] [.cmp .ne (.idx (.var 10) vF) (.list [])])]⟩
noncomputable def iK:Fn:=⟨3,6,[.for_ [3,4] true .enum [vH] [.asg [5] false (.call 116 [vD,.idx vQ vB,.idx vQ vA,vI]),.ite (.cmp .ne vT (.list [])) [.ret (.bin .add (.tup [.bin .add vJ vA]) (.idx vT vB))] []],.ret (.cst .none)]⟩
noncomputable def fb:Fn:=⟨2,10,[.asg [2] false (.blt .dict [.comp (.tup [uA,vB]) [7] false .val [.idx vD vA] []]),.for_ [3] false .range2 [vA,.bin .add (.blt .len [vH]) vF] [.asg [4] false (.comp uG [8] false .keys [vI] [.cmp .lt (.idx vI uG) vJ]),.for_ [5,6] true .val [vH] [.ite (.and [.cmp .eq (.idx vT vB) vG,.cmp .nin (.idx vT vA) (.idx vD vB),.cmp .nin (.idx vT vA) vI]) [.ite (.cmp .ne (.comp (.var 9) [9] false .val [.bin .add (.call 37 [.idx vT vF]) vW] [.cmp .inn (.var 9) vQ]) (.list [])) [.setIdx vI (.idx vT vA) vJ] []] []]],.ret vI]⟩
noncomputable def jM:Fn:=⟨4,6,[.ite (.or [.not (.isi vJ [.tuple]),.cmp .ne (.blt .len [vJ]) vF,.not (.call 19 [.idx vJ vB]),.not (.cmp2 .le .le vA (.idx vJ vB) (.blt .len [vH]))]) [.ret vP] [],.asg [4,5] true (.idx vH (.bin .sub (.idx vJ vB) vA)),.ite (.or [.cmp .ne (.idx vQ vB) vG,.cmp .ne (.idx vQ vA) (.idx vJ vA),.cmp .inn (.idx vJ vA) (.bin .add (.idx vD vB) (.idx vD vA))]) [.ret vP] [],.ret (.cmp .inn (.idx vI vA) (.bin .add (.call 37 [.idx vQ vF]) vT))]⟩
noncomputable def dB:Fn:=⟨4,7,[.ite (.or [.not (.isi vI [.list]),.cmp .lt (.blt .len [vI]) vF,.not (.isi (.idx vI vB) [.tuple]),.cmp .ne (.blt .len [.idx vI vB]) vF]) [.ret vP] [],.ite (.or [.cmp .ne (.idx (.idx vI vB) vB) vB,.cmp .nin (.idx (.idx vI vB) vA) (.idx vD vA),.cmp .ne (.idx vI (.neg vA)) (.tup [.idx vJ vB,.idx vJ vF])]) [.ret vP] [],.for_ [4] false .range2 [vA,.bin .sub (.blt .len [vI]) vA] [.ite (.not (.call 119 [vD,vH,.idx vI (.bin .sub vQ vA),.idx vI vQ])) [.ret vP] []],.asg [5] false (.call 118 [vD,vH]),.ret (.and [.cmp .inn (.idx (.idx vI (.neg vF)) vA) (.idx vJ vN),.cmp .eq (.blt .len [vI]) (.bin .add vF (.blt .min [.comp (.idx vT vW) [6] false .val [.idx vJ vN] []]))])]⟩
noncomputable def fc:Fn:=⟨4,4,[.ite (.or [.isN true vJ,.isN true vI]) [.ret (.and [.isN true vJ,.isN true vI])] [],.ite (.or [.not (.isi vI [.tuple]),.cmp .ne (.blt .len [vI]) vF,.not (.isi (.idx vI vB) [.str]),.cmp .ne (.idx vI vB) (.idx vJ vA)]) [.ret vP] [],.ret (.call 120 [vD,vH,.idx vI vA,vJ])]⟩
noncomputable def bA:Fn:=⟨3,8,[.asg [3] false (.comp (.bin .mod (.bin .mul uA vI) (.cst (.int 61))) [7] false .range1 [.cst (.int 61)] [.cmp .lt (.bin .mod (.bin .mul uA vI) (.cst (.int 61))) vH]),.asg [4] false (.list []),.for_ [5] false .val [vJ] [.asg [6] false (.idx (.list [.bin .add vY (.blt .str [.bin .sub vT vA]),.idx vD (.cst (.int 9))]) (.blt .int [.cmp .eq vT vB])),.expr (.mth .append vQ [.tup [vG,.bin .add vY (.blt .str [vT]),.tup [vZ,.tup [vE,vW],.tup [vC,vA]]]])],.ret vQ]⟩
noncomputable def cQ:Fn:=⟨3,8,[.asg [3] false (.bin .add vA (.bin .mod vI uL)),.asg [4] false (.call 109 [vD,vJ,.bin .add vA (.bin .mod (.bin .fdiv vI uL) (.cst (.int 60)))]),.for_ [5] false .range1 [.bin .mod (.bin .fdiv vI (.cst (.int 1200))) uC] [.asg [2] false (.call 6 [vI]),.expr (.mth .append vQ [.tup [vG,.bin .add vY (.blt .str [.bin .mod vI vJ]),.tup [vE,.bin .add vY (.blt .str [.bin .mod (.bin .fdiv vI uL) vJ])]]])],.asg [6] false (.bin .add vY (.blt .str [.bin .mod (.bin .fdiv vI (.cst (.int 400))) vJ])),.asg [7] false (.list [.tup [vL,.tup [vV,.tup [vC,uC],.tup [vE,vW]]],.tup [vG,.idx vD vB,.tup [vE,vW]]]),.ret (.bin .add (.bin .add (.sl vH none (some uF)) vQ) (.sl uA (some (.bin .mod vI vF)) none))]⟩
noncomputable def bQ:Fn:=⟨4,8,[.asg [4] false (.idx vD (.bin .mod vJ vO)),.asg [5] false (.idx (.list [.tup [vE,vI],.tup [vZ,.tup [vE,vQ],.tup [vE,vI]],.tup [uB,.tup [vE,vI],.tup [vC,vF]]]) (.bin .mod (.bin .fdiv vJ vO) vN)),.asg [6] false (.tup [vG,vQ,.tup [vZ,.tup [vE,vQ],.tup [vC,vA]]]),.ite (.cmp .eq vH vB) [.ret (.tup [vG,.idx vD (.bin .mod (.bin .fdiv vJ uM) vO),vT])] [],.ite (.cmp .eq vH vA) [.ret (.tup [vL,vT])] [],.ite (.cmp .eq vH vF) [.ret (.tup [vK,.tup [uB,.tup [vE,vI],.tup [vC,vN]],.tup [.tup [vG,vI,.tup [vZ,.tup [vE,vI],.tup [vC,vA]]]]])] [],.ite (.cmp .eq vH vN) [.ret (.tup [vG,.idx vD (.bin .add vO (.bin .mod (.bin .fdiv vJ uM) vO)),.tup [vV,.tup [vC,uC],vT]])] [],.asg [7] false (.idx (.list [.tup [vG,.idx vD (.bin .mod (.bin .fdiv vJ uM) vO),.tup [vZ,.tup [vE,vQ],.tup [vC,vA]]],.tup [vL,.tup [vE,vQ]]]) (.bin .mod vH vF)),.ite (.cmp .eq vH uF) [.asg [7] false (.tup [vK,.tup [uB,.tup [vE,vQ],.tup [vC,vN]],.tup [vW]])] [],.ite (.cmp .eq vH uC) [.asg [7] false (.tup [vG,.idx vD (.bin .add vO (.bin .mod (.bin .fdiv vJ uM) vO)),.tup [vV,.tup [vE,vQ],.tup [vC,.bin .mod (.bin .fdiv vJ (.cst (.int 75))) vF]]])] [],.ret (.tup [vU,vT,.idx (.list [.tup [uA],.tup []]) (.bin .mod (.bin .fdiv vJ (.cst (.int 150))) vF),.idx (.list [.tup [uA],.tup []]) (.bin .sub vA (.bin .mod (.bin .fdiv vJ (.cst (.int 150))) vF))])]⟩
noncomputable def be:Fn:=⟨3,7,[.asg [3] false (.idx vD (.bin .add vO (.bin .mod (.bin .fdiv vI (.cst (.int 24))) vO))),.asg [4] false (.list []),.ite (.cmp .eq (.bin .mod vI vN) vA) [.expr (.mth .append vQ [.tup [vG,.idx vD (.bin .add vO (.bin .mod (.bin .fdiv vI (.cst (.int 120))) vO)),.tup [vZ,.tup [vE,vJ],.tup [vC,vA]]]]),.asg [3] false (.idx vD (.bin .add vO (.bin .mod (.bin .fdiv vI (.cst (.int 120))) vO)))] [],.asg [5] false (.call 123 [vD,.bin .mod (.bin .fdiv vI vN) vX,vJ,.call 6 [vI]]),.ite (.or [.cmp .eq (.bin .mod (.bin .fdiv vI (.cst (.int 500))) vN) vA,.cmp .eq (.bin .mod (.bin .fdiv vI (.cst (.int 500))) uF) vF]) [.asg [5] false (.tup [vU,.tup [.cst (.str [61]),.tup [vE,.idx vD vB],.tup [vE,.idx vD vB]],.tup [vT],.tup [.tup [vM]]])] [],.asg [6] false (.bin .mod (.bin .fdiv vI (.cst (.int 1500))) (.bin .add (.blt .len [vH]) vA)),.ite (.cmp .gt (.bin .mod (.bin .fdiv vI (.cst (.int 500))) vN) vB) [.asg [6] false vB] [],.ret (.bin .add (.bin .add (.bin .add (.sl vH none (some vW)) vQ) (.list [vT])) (.sl vH (some vW) none))]⟩
noncomputable def iL:Fn:=⟨4,7,[.asg [4] false (.call 5 [vD,vF]),.asg [5] false (.call 41 [.sl vD (some vH) (some vI),vJ,.blt .int [.cmp .eq (.bin .mod vQ vS) vN]]),.ite (.or [.cmp .eq (.bin .mod vQ vS) vA,.cmp .eq (.bin .mod vQ vS) vF]) [.asg [6] false (.bin .add (.bin .add (.bin .fdiv vQ vS) (.bin .mul (.cst (.int 1009)) (.bin .mod (.call 5 [vD,vB]) (.bin .pow uE uF)))) (.bin .mul (.cst (.int 31)) (.bin .mod (.call 5 [vD,vA]) (.bin .pow uE uF)))),.ret (.call 124 [vJ,vT,.call 6 [.call 6 [vW]]])] [],.ret vT]⟩
noncomputable def fR:Fn:=⟨2,8,[.asg [2] false (.idx (.list [vB,.bin .mod (.bin .fdiv vH vS) vN,.bin .mod (.bin .fdiv vH vS) uL,vB]) (.bin .mod vH vS)),.asg [3] false (.list [.comp (.bin .add (.cst (.str [121,111])) (.blt .str [vQ])) [4] false .range1 [vI] [],.comp (.bin .add (.cst (.str [121,115])) (.blt .str [vT])) [5] false .range1 [.bin .add vI (.bin .mod (.bin .fdiv vH vS) vF)] []]),.ret (.comp (.comp uA [7] false .val [vW] [.cmp .nin uA vD]) [6] false .val [vJ] [])]⟩
noncomputable def dR:Fn:=⟨3,8,[.asg [3] false (.list [.blt .list [.idx vH vB],.blt .list [.idx vH vA]]),.asg [4] false vI,.for_ [5,6] true .enum [vD] [.ite (.cmp .gt (.bin .mod vQ vN) vB) [.expr (.mth .append (.idx vJ (.bin .fdiv vT vO)) [vW])] [],.asg [4] false (.bin .fdiv vQ vN)],.asg [7] false (.list [.bin .mod (.bin .fdiv vI (.cst (.int 27))) (.blt .max [vA,.blt .len [.idx vJ vB]]),.bin .mod (.bin .fdiv vI (.cst (.int 189))) (.blt .max [vA,.blt .len [.idx vJ vA]])]),.ret (.list [.bin .add (.sl (.idx vJ vB) (some (.idx uA vB)) none) (.sl (.idx vJ vB) none (some (.idx uA vB))),.bin .add (.sl (.idx vJ vA) (some (.idx uA vA)) none) (.sl (.idx vJ vA) none (some (.idx uA vA)))])]⟩
noncomputable def cy:Fn:=⟨1,9,[.asg [1] false (.call 9 [.call 5 [vD,vB],.call 5 [vD,vA]]),.asg [2] false (.call 95 [vH,.call 6 [.call 5 [vD,vA]]]),.asg [3] false (.call 96 [vH,vI,.call 6 [.call 5 [vD,vB]]]),.asg [4] false (.call 125 [vD,vN,.cst (.int 53),vH]),.ite (.cmp .eq (.bin .mod (.bin .fdiv (.call 5 [vD,vF]) vS) vS) vA) [.asg [4] false (.call 122 [vH,vQ,.call 6 [.call 5 [vD,vF]]])] [],.asg [5] false (.call 107 [vQ,.list [],.list []]),.asg [6] false (.new 0 63 [.idx vJ vB,.idx vJ vA,.blt .tuple [vQ]]),.asg [7] false (.call 117 [vJ,vT,.call 108 [vJ,vT]]),.asg [8] false (.call 113 [vW]),.ite (.not (.call 121 [vJ,vT,uG,uA])) [.ret vP] [],.ite (.isN false uG) [.expr (.mth .append (.idx uG vA) [vY])] [],.ite (.isN false (.call 113 [.new 0 63 [.list [.idx vH vB],.list [],.tup [.tup [vL,.tup [vE,.idx vH vB]]]]])) [.ret vP] [],.ret (.and [.call 121 [vJ,vT,.call 113 [vW],uA],.or [.isN true uG,.cmp .eq (.idx (.idx uG vA) (.neg vA)) vY]])]⟩
noncomputable def gl:Nat→Option (Str × MV)
 | 0=>some ("MODULUS",(.int 1000000))
 | 1=>some ("WORDS",(.gt [[115,101,116],[116,101,108,108],[115,107,105,112],[105,102],[101,108,115,101],[119,104,105,108,101],[101,110,100]]))
 | 2=>some ("SIGNS",(.gt [[43],[45],[42],[47],[60],[61]]))
 | 3=>some ("LETTERS",(.str [97,98,99,100,101,102,103,104,105,106,107,108,109,110,111,112,113,114,115,116,117,118,119,120,121,122]))
 | 4=>some ("FIGURES",(.str [48,49,50,51,52,53,54,55,56,57]))
 | 5=>some ("MOST_SIGNS",(.int 8))
 | 6=>some ("DEEPEST",(.int 12))
 | 7=>some ("DEEPEST_ROW",(.int 8))
 | 9=>some ("THINGS",(.cdict [([115,101,116],3),([116,101,108,108],2),([115,107,105,112],1),([105,102],4),([119,104,105,108,101],3)]))
 | _=>none
noncomputable def tab:Tab:=(22,"is_whole",["thing","most"],jG)::
 (23,"is_number",["thing"],iC)::
 (24,"is_name",["thing","sign"],lF)::
 (55,"need_formula",["thing","deep","good"],cb)::
 (0,"all_names",["formula"],de)::
 (1,"names_in",["formula"],jH)::
 (2,"all_right_names",["formula","found"],bH)::
 (3,"right_names",["formula"],fK)::
 (4,"divides",["formula"],eY)::
 (56,"is_block",["thing"],jI)::
 (25,"blocks_in",["row"],iE)::
 (26,"formula_of",["row"],gS)::
 (57,"has_form",["row"],jJ)::
 (58,"need_rows",["block","deep","row","inner"],iG)::
 (59,"need_names",["names","known","name"],gT)::
 (60,"settled",["block","rows","row"],lG)::
 (61,"numbered",["block","first","above","found","number","row","inner","rows"],jK)::
 (101,"names_above",["above","found","formula"],fM)::
 (102,"sources_of",["row","above","found"],gV)::
 (103,"flows",["program","found","number","row","above"],pk)::
 (104,"roads",["program","found","waiting","name","ways","at","source","number","one"],iH)::
 (111,"leaks_of",["program","row","above","found"],dQ)::
 (112,"shortest",["secret","names","best","name"],jL)::
 (113,"looked",["program","secret","number","row","above","way","names","road","last"],mZ)::
 (19,"_law_whole",["_law_found"],iI)::
 (5,"_law_cell_at",["_law_script","_law_k"],fN)::
 (6,"_law_mixed",["_law_number"],iJ)::
 (7,"_law_name_by",["_law_cell","_law_found","_law_number","_law_k"],fO)::
 (8,"_law_twin",["_law_name","_law_cell","_law_some","_law_at","_law_step_here","_law_found"],fP)::
 (9,"_law_names",["_law_one","_law_other","_law_names_here","_law_k","_law_name"],eZ)::
 (10,"_law_end_by",["_law_number","_law_names_here"],dW)::
 (11,"_law_formula_by",["_law_number","_law_names_here","_law_low","_law_divide","_law_left","_law_sign","_law_one"],cw)::
 (37,"_law_all_names",["_law_formula_here"],bd)::
 (38,"_law_row_by",["_law_names_here","_law_more_here","_law_dark","_law_mode","_law_low","_law_some","_law_formula_here"],bJ)::
 (39,"_law_closed",["_law_stack","_law_frame"],dX)::
 (40,"_law_put",["_law_stack","_law_names_here","_law_more_here","_law_mode","_law_way","_law_dark","_law_formula_here","_law_secret_here","_law_shut","_law_some"],e8)::
 (41,"_law_block_by",["_law_cells","_law_names_here","_law_loose","_law_stack","_law_turn","_law_cell","_law_more_here","_law_mode"],cV)::
 (72,"_law_blocks",["_law_row"],gW)::
 (106,"_law_formula",["_law_row"],fQ)::
 (107,"_law_listed",["_law_block","_law_around","_law_rows","_law_row","_law_inner"],gX)::
 (108,"_law_secret",["_law_pairs","_law_rows","_law_secret_here","_law_grown","_law_row","_law_around"],gY)::
 (114,"_law_divisors",["_law_formula_here","_law_right_here"],cc)::
 (115,"_law_has_division",["_law_formula_here"],bz)::
 (116,"_law_leaks",["_law_pairs","_law_row","_law_around","_law_secret_here","_law_formula_here","_law_found","_law_sources","_law_right_here"],bu)::
 (117,"_law_first",["_law_pairs","_law_rows","_law_secret_here","_law_k","_law_one","_law_found"],iK)::
 (118,"_law_far",["_law_pairs","_law_rows","_law_far_here","_law_step_here","_law_known","_law_row","_law_around"],fb)::
 (119,"_law_step",["_law_pairs","_law_rows","_law_ahead","_law_pair","_law_row","_law_around"],jM)::
 (120,"_law_chained",["_law_pairs","_law_rows","_law_chain","_law_leak","_law_k","_law_far_here"],dB)::
 (121,"_law_right",["_law_pairs","_law_rows","_law_told_here","_law_leak"],fc)::
 (109,"_law_row_of_names",["_law_names_here","_law_many","_law_step_here","_law_order","_law_rows","_law_place","_law_before"],bA)::
 (122,"_law_longer",["_law_names_here","_law_block","_law_cell","_law_many","_law_rows","_law_k","_law_last","_law_leaks_here"],cQ)::
 (123,"_law_leaking",["_law_names_here","_law_way","_law_dark","_law_cell","_law_low","_law_one","_law_more_here","_law_inner"],bQ)::
 (124,"_law_with_leak",["_law_names_here","_law_block","_law_cell","_law_dark","_law_rows","_law_leak","_law_at"],be)::
 (125,"_law_drawn",["_law_script","_law_low","_law_high","_law_names_here","_law_cell","_law_block","_law_more_here"],iL)::
 (95,"_law_more",["_law_names_here","_law_cell","_law_many","_law_found"],fR)::
 (96,"_law_told",["_law_names_here","_law_more_here","_law_cell","_law_rows","_law_number","_law_k","_law_name","_law_at"],dR)::
 (126,"law",["_law_script","_law_names_here","_law_more_here","_law_pairs","_law_block","_law_rows","_law_program","_law_leak","_law_told_here"],cy)::[]
noncomputable def mtab:zW:=[(63,0,"__init__",["self","opens","secrets","block","known","many"],db),
 (65,0,"kind",["self","name"],fy),
 (66,0,"told",["self"],fA),
 (67,0,"block",["self"],eh)]
noncomputable def PP (f:Nat):Option Fn:=(fnP tab f).or (mtP mtab f)
end Internal
end
section
namespace Internal
theorem lH {g:Gd}{step:MV→(Fl→MS→Prop)→MS→Prop}{Q:Fl→MS→Prop}(I:Nat→MS→Prop)(Rt:MV→MS→Prop){items:List MV}{m:MS}(h0:I 0 m)(hg:∀i m,I i m→aQ g m.heap)
  (hstep:∀i x m (P:Fl→MS→Prop),items[i]?=some x→I i m→(∀m',I (i+1) m'→P .next m')→(∀m',I (i+1) m'→P .cont m')→(∀r m',Rt r m'→P (.ret r) m')→step x P m)
  (hend:∀m,I items.length m→Q .next m) (hret:∀r m,Rt r m→Q (.ret r) m):dY g step Q items m:=by
 have key:∀(l:List MV) (i:Nat) (m:MS),i+l.length=items.length→items.drop i=l→I i m→dY g step Q l m:=by
  intro l
  induction l with
  | nil=>
   intro i m hl e hI
   have hl:i=items.length:=hl
   subst hl
   rw [oy]
   exact ⟨hg _ m hI,hend m hI⟩
  | cons x l ih=>
   intro i m hl e hI
   have hlt:i<items.length:=by simp only [List.length_cons] at hl;exact n1 (Nat.le_of_eq hl) (by simp +arith only)
   have e':=List.drop_eq_getElem_cons hlt
   rw [e] at e'
   simp only [List.cons.injEq] at e'
   rw [mF]
   refine ⟨hg i m hI,hstep i x m _ (by rw [List.getElem?_eq_getElem hlt,e'.1]) hI (fun m' h'=>?_) (fun m' h'=>?_) fun r m' h'=>hret r m' h'⟩
   ·exact ih (i+1) m' (by simp only [List.length_cons] at hl;lia) e'.2.symm h'
   ·exact ih (i+1) m' (by simp only [List.length_cons] at hl;lia) e'.2.symm h'
 exact key items 0 m (by simp) (by simp) h0
theorem jo {σ:Type}(st:Nat→σ→MS)(I:Nat→σ→Prop){g:Gd}{step:MV→(Fl→MS→Prop)→MS→Prop}{Q:Fl→MS→Prop}{items:List MV}{m:MS}(w:σ)(e0:m=st 0 w)(h0:I 0 w)(hg:∀i w,I i w→aQ g (st i w).heap)
  (hstep:∀i x w (P:Fl→MS→Prop),items[i]?=some x→I i w→(∀w,I (i+1) w→P .next (st (i+1) w))→(∀w,I (i+1) w→P .cont (st (i+1) w))→step x P (st i w)) (hend:∀w,I items.length w→Q .next (st items.length w)):dY g step Q items m:=by
 refine lH (fun i m=>∃w,m=st i w∧I i w) (fun _ _=>False) ⟨w,e0,h0⟩ (fun i m hI=>?_) (fun i x m P hx hI h1 h2 _=>?_) (fun m hI=>?_) (fun _ _ h=>h.elim)
 ·obtain ⟨w,rfl,h⟩:=hI;exact hg i w h
 ·obtain ⟨w,rfl,h⟩:=hI;exact hstep i x w P hx h (fun w h=>h1 _ ⟨w,rfl,h⟩) fun w h=>h2 _ ⟨w,rfl,h⟩
 ·obtain ⟨w,rfl,h⟩:=hI;exact hend w h
theorem iM {α β:Type}(st:Nat→α→β→MS)(I:Nat→α→β→Prop){g:Gd}{step:MV→(Fl→MS→Prop)→MS→Prop}{Q:Fl→MS→Prop}{items:List MV}{m:MS}(a:α)(b:β)(e0:m=st 0 a b)(h0:I 0 a b)(hg:∀i a b,I i a b→aQ g (st i a b).heap)
  (hstep:∀i x a b (P:Fl→MS→Prop),items[i]?=some x→I i a b→(∀a b,I (i+1) a b→P .next (st (i+1) a b))→(∀a b,I (i+1) a b→P .cont (st (i+1) a b))→step x P (st i a b)) (hend:∀a b,I items.length a b→Q .next (st items.length a b)):dY g step Q items m:=
 jo (fun i (w:α × β)=>st i w.1 w.2) (fun i w=>I i w.1 w.2) (a,b) e0 h0 (fun i w=>hg i w.1 w.2) (fun i x w P hx hI h1 h2=>hstep i x w.1 w.2 P hx hI (fun a b h=>h1 (a,b) h) fun a b h=>h2 (a,b) h) fun w=>hend w.1 w.2
theorem nW {α β γ:Type}(st:Nat→α→β→γ→MS)(I:Nat→α→β→γ→Prop){g:Gd}{step:MV→(Fl→MS→Prop)→MS→Prop}{Q:Fl→MS→Prop}{items:List MV}{m:MS}(a:α)(b:β)(c:γ)(e0:m=st 0 a b c)(h0:I 0 a b c)(hg:∀i a b c,I i a b c→aQ g (st i a b c).heap)
  (hstep:∀i x a b c (P:Fl→MS→Prop),items[i]?=some x→I i a b c→(∀a b c,I (i+1) a b c→P .next (st (i+1) a b c))→(∀a b c,I (i+1) a b c→P .cont (st (i+1) a b c))→step x P (st i a b c)) (hend:∀a b c,I items.length a b c→Q .next (st items.length a b c)):dY g step Q items m:=
 jo (fun i (w:α × β × γ)=>st i w.1 w.2.1 w.2.2) (fun i w=>I i w.1 w.2.1 w.2.2) (a,b,c) e0 h0 (fun i w=>hg i w.1 w.2.1 w.2.2) (fun i x w P hx hI h1 h2=>hstep i x w.1 w.2.1 w.2.2 P hx hI (fun a b c h=>h1 (a,b,c) h) fun a b c h=>h2 (a,b,c) h) fun w=>hend w.1 w.2.1 w.2.2
theorem iO {α β γ δ:Type}(st:Nat→α→β→γ→δ→MS)(I:Nat→α→β→γ→δ→Prop){g:Gd}{step:MV→(Fl→MS→Prop)→MS→Prop}{Q:Fl→MS→Prop}{items:List MV}{m:MS}(a:α)(b:β)(c:γ)(d:δ)(e0:m=st 0 a b c d)(h0:I 0 a b c d)(hg:∀i a b c d,I i a b c d→aQ g (st i a b c d).heap)
  (hstep:∀i x a b c d (P:Fl→MS→Prop),items[i]?=some x→I i a b c d→(∀a b c d,I (i+1) a b c d→P .next (st (i+1) a b c d))→(∀a b c d,I (i+1) a b c d→P .cont (st (i+1) a b c d))→step x P (st i a b c d)) (hend:∀a b c d,I items.length a b c d→Q .next (st items.length a b c d)):dY g step Q items m:=
 jo (fun i (w:α × β × γ × δ)=>st i w.1 w.2.1 w.2.2.1 w.2.2.2) (fun i w=>I i w.1 w.2.1 w.2.2.1 w.2.2.2) (a,b,c,d) e0 h0 (fun i w=>hg i w.1 w.2.1 w.2.2.1 w.2.2.2) (fun i x w P hx hI h1 h2=>hstep i x w.1 w.2.1 w.2.2.1 w.2.2.2 P hx hI (fun a b c d h=>h1 (a,b,c,d) h) fun a b c d h=>h2 (a,b,c,d) h) fun w=>hend w.1 w.2.1 w.2.2.1 w.2.2.2
theorem nX {α β γ δ ε:Type}(st:Nat→α→β→γ→δ→ε→MS)(I:Nat→α→β→γ→δ→ε→Prop){g:Gd}{step:MV→(Fl→MS→Prop)→MS→Prop}{Q:Fl→MS→Prop}{items:List MV}{m:MS}(a:α)(b:β)(c:γ)(d:δ)(e:ε)(e0:m=st 0 a b c d e)(h0:I 0 a b c d e)(hg:∀i a b c d e,I i a b c d e→aQ g (st i a b c d e).heap)
  (hstep:∀i x a b c d e (P:Fl→MS→Prop),items[i]?=some x→I i a b c d e→(∀a b c d e,I (i+1) a b c d e→P .next (st (i+1) a b c d e))→(∀a b c d e,I (i+1) a b c d e→P .cont (st (i+1) a b c d e))→step x P (st i a b c d e)) (hend:∀a b c d e,I items.length a b c d e→Q .next (st items.length a b c d e)):dY g step Q items m:=
 jo (fun i (w:α × β × γ × δ × ε)=>st i w.1 w.2.1 w.2.2.1 w.2.2.2.1 w.2.2.2.2) (fun i w=>I i w.1 w.2.1 w.2.2.1 w.2.2.2.1 w.2.2.2.2) (a,b,c,d,e) e0 h0 (fun i w=>hg i w.1 w.2.1 w.2.2.1 w.2.2.2.1 w.2.2.2.2) (fun i x w P hx hI h1 h2=>hstep i x w.1 w.2.1 w.2.2.1 w.2.2.2.1 w.2.2.2.2 P hx hI (fun a b c d e h=>h1 (a,b,c,d,e) h) fun a b c d e h=>h2 (a,b,c,d,e) h) fun w=>hend w.1 w.2.1 w.2.2.1 w.2.2.2.1 w.2.2.2.2
theorem gw {α β γ δ ε ζ:Type}(st:Nat→α→β→γ→δ→ε→ζ→MS)(I:Nat→α→β→γ→δ→ε→ζ→Prop){g:Gd}{step:MV→(Fl→MS→Prop)→MS→Prop}{Q:Fl→MS→Prop}{items:List MV}{m:MS}(a:α)(b:β)(c:γ)(d:δ)(e:ε)(f:ζ)(e0:m=st 0 a b c d e f)(h0:I 0 a b c d e f)(hg:∀i a b c d e f,I i a b c d e f→aQ g (st i a b c d e f).heap)
  (hstep:∀i x a b c d e f (P:Fl→MS→Prop),items[i]?=some x→I i a b c d e f→(∀a b c d e f,I (i+1) a b c d e f→P .next (st (i+1) a b c d e f))→(∀a b c d e f,I (i+1) a b c d e f→P .cont (st (i+1) a b c d e f))→step x P (st i a b c d e f)) (hend:∀a b c d e f,I items.length a b c d e f→Q .next (st items.length a b c d e f)):dY g step Q items m:=
 jo (fun i (w:α × β × γ × δ × ε × ζ)=>st i w.1 w.2.1 w.2.2.1 w.2.2.2.1 w.2.2.2.2.1 w.2.2.2.2.2) (fun i w=>I i w.1 w.2.1 w.2.2.1 w.2.2.2.1 w.2.2.2.2.1 w.2.2.2.2.2) (a,b,c,d,e,f) e0 h0 (fun i w=>hg i w.1 w.2.1 w.2.2.1 w.2.2.2.1 w.2.2.2.2.1 w.2.2.2.2.2) (fun i x w P hx hI h1 h2=>hstep i x w.1 w.2.1 w.2.2.1 w.2.2.2.1 w.2.2.2.2.1 w.2.2.2.2.2 P hx hI (fun a b c d e f h=>h1 (a,b,c,d,e,f) h) fun a b c d e f h=>h2 (a,b,c,d,e,f) h) fun w=>hend w.1 w.2.1 w.2.2.1 w.2.2.2.1 w.2.2.2.2.1 w.2.2.2.2.2
structure A3 (p1 p2 p3:Prop):Prop where
 h1:p1
 h2:p2
 h3:p3
structure A4 (p1 p2 p3 p4:Prop):Prop where
 h1:p1
 h2:p2
 h3:p3
 h4:p4
structure A5 (p1 p2 p3 p4 p5:Prop):Prop where
 h1:p1
 h2:p2
 h3:p3
 h4:p4
 h5:p5
structure A6 (p1 p2 p3 p4 p5 p6:Prop):Prop where
 h1:p1
 h2:p2
 h3:p3
 h4:p4
 h5:p5
 h6:p6
structure A7 (p1 p2 p3 p4 p5 p6 p7:Prop):Prop where
 h1:p1
 h2:p2
 h3:p3
 h4:p4
 h5:p5
 h6:p6
 h7:p7
theorem gz {c:(Bool→MS→Prop)→MS→Prop}{b:(Fl→MS→Prop)→MS→Prop}{Q:Fl→MS→Prop}(I:Nat→MS→Prop)(hno:∀m,¬ I 0 m)
  (hturn:∀k m (W:MS→Prop),I (k+1) m→(∀m',I k m'→W m')→c (fun t m=>match t with
   | true=>b (fun f m=>match f with
    | .next=>W m
    | .cont=>W m
    | .brk=>Q .next m
    | .ret r=>Q (.ret r) m) m
   | false=>Q .next m) m):∀(k:Nat) (m:MS),I k m→du c b Q k m
 | 0,m,h=>(hno m h).elim
 | k+1,m,h=>by
  rw [jy]
  exact hturn k m (fun m=>du c b Q k m) h fun m' h'=>gz I hno hturn k m' h'
theorem rP {σ:Type}(st:σ→MS)(I:Nat→σ→Prop){c:(Bool→MS→Prop)→MS→Prop}{b:(Fl→MS→Prop)→MS→Prop}{Q:Fl→MS→Prop}(hno:∀w,¬ I 0 w)
  (hturn:∀k w (W:MS→Prop),I (k+1) w→(∀w,I k w→W (st w))→c (fun t m=>match t with
   | true=>b (fun f m=>match f with
    | .next=>W m
    | .cont=>W m
    | .brk=>Q .next m
    | .ret r=>Q (.ret r) m) m
   | false=>Q .next m) (st w)) (k:Nat) (w:σ) {m:MS} (e:m=st w) (h:I k w):du c b Q k m:=
 gz (fun k m=>∃w,m=st w∧I k w) (fun m h=>by obtain ⟨w,_,h⟩:=h;exact hno w h) (fun k m W h hW=>by obtain ⟨w,rfl,h⟩:=h;exact hturn k w W h fun w h=>hW _ ⟨w,rfl,h⟩) k m ⟨w,e,h⟩
noncomputable abbrev Hpp:=List MO
theorem aa {h hp:List MO}{o:MO}(x:h<+:hp):h<+:hp++[o]:=x.trans (List.prefix_append _ _)
theorem ai (h:List MO):h<+:h:=List.prefix_refl _
theorem ag {h hp:List MO}(x:h<+:hp){i:Nat}{o:MO}(e:h[i]?=some o):hp[i]?=some o:=by
 obtain ⟨t,rfl⟩:=x
 rw [List.getElem?_append_left (List.getElem?_eq_some_iff.mp e).1];exact e
theorem aM {h hp:List MO}(x:h<+:hp){i:Nat}{o:MO}(e:h.length≤i):h<+:hp.set i o:=by
 obtain ⟨t,rfl⟩:=x
 rw [List.set_append_right _ _ e]
 exact List.prefix_append _ _
theorem ac {α:Type}(h:List α)(o:α):(h++[o])[h.length]?=some o:=by simp
theorem ah {α:Type}{h:List α}{o o':α}{i:Nat}(e:h[i]?=some o):(h++[o'])[i]?=some o:=by
 rw [List.getElem?_append_left (List.getElem?_eq_some_iff.mp e).1];exact e
theorem get_set {α:Type}{h:List α}{o o':α}{i:Nat}(e:h[i]?=some o):(h.set i o')[i]?=some o':=by
 have:=(List.getElem?_eq_some_iff.mp e).1
 simp [this]
theorem iP {m:MS}{o:MO}:(m.push o).heap[m.heap.length]?=some o:=ac _ _
theorem fe {m:MS}{o o':MO}{i:Nat}(e:m.heap[i]?=some o):(m.push o').heap[i]?=some o:=ah e
theorem tW {m:MS}{o o':MO}:((m.push o).push o').heap[m.heap.length]?=some o:=ah (ac _ _)
theorem dS {k:Int}{hp:List MO}(h1:-16777216≤k)(h2:k≤16777216):cj .range1 [.int k] hp=some ((List.range k.toNat).map (fun (i:Nat)=>.int i),none):=by
 show (match decide (-16777216≤k∧k≤16777216) with
  | true=>some ((List.range k.toNat).map (fun (i:Nat)=>MV.int i),none)
  | false=>none)=_
 rw [decide_eq_true ⟨h1,h2⟩]
theorem aF {r:Nat}{xs:List MV}{hp:List MO}(e:hp[r]?=some (.list xs)):cj .val [.ref r] hp=some (xs,some (r,.list xs)):=by
 show (match hp[r]? with
  | some (.list xs)=>some (xs,some (r,MO.list xs))
  | _=>none)=_
 rw [e]
theorem jp {r:Nat}{xs:List MV}{hp:List MO}(e:hp[r]?=some (.list xs)):cj .enum [.ref r] hp=some (xs.zipIdx.map (fun p=>.tup [.int p.2,p.1]),some (r,.list xs)):=by
 show (match hp[r]? with
  | some (.list xs)=>some (xs.zipIdx.map (fun p:MV × Nat=>MV.tup [.int p.2,p.1]),some (r,MO.list xs))
  | _=>none)=_
 rw [e]
theorem fS {k i:Nat}{x:MV}(e:((List.range k).map (fun (i:Nat)=>MV.int i))[i]?=some x):i<k∧x=.int i:=by
 simp only [List.getElem?_map,Option.map_eq_some_iff] at e
 obtain ⟨j,h1,h2⟩:=e
 obtain ⟨h3,h4⟩:=List.getElem?_eq_some_iff.mp h1
 simp at h3 h4;subst h4
 exact ⟨h3,h2.symm⟩
theorem jq (k:Nat):((List.range k).map (fun (i:Nat)=>MV.int i)).length=k:=by simp
theorem nY {xs:List MV}{i:Nat}{x:MV}(e:(xs.zipIdx.map (fun p=>MV.tup [.int p.2,p.1]))[i]?=some x):∃y,xs[i]?=some y∧x=.tup [.int i,y]:=by
 simp only [List.getElem?_map,Option.map_eq_some_iff] at e
 obtain ⟨⟨y,j⟩,hj,rfl⟩:=e
 rw [List.getElem?_zipIdx] at hj
 simp only [Option.map_eq_some_iff,Nat.zero_add] at hj
 obtain ⟨y',hy,hj⟩:=hj
 cases hj
 exact ⟨y,hy,rfl⟩
theorem pn (xs:List MV):(xs.zipIdx.map (fun p=>MV.tup [.int p.2,p.1])).length=xs.length:=by simp
theorem aW {hp:List MO}{r:Nat}{xs:List MV}(e:hp[r]?=some (.list xs)):lst (.ref r) hp=some (r,xs):=by
 show sK r hp[r]?=_;rw [e];rfl
theorem aA {hp:List MO}{r:Nat}{xs:List MV}(e:hp[r]?=some (.list xs)):mE .append (.ref r) hp=true:=by
 show (sK r hp[r]?).isSome=true;rw [e];rfl
noncomputable def b2n:Bool→Nat
 | true=>1
 | false=>0
noncomputable def sel {α:Type}(d:Bool)(a b:α):α:=match d with
 | true=>b
 | false=>a
theorem lI {α:Type}{a b:α}{d:Bool}:dG (b2i d) [a,b].length=some (b2n d):=by cases d<;>rfl
theorem nZ {α:Type}{a b:α}{d:Bool}:[a,b][b2n d]?=some (sel d a b):=by cases d<;>rfl
inductive jN {α:Type}(P:Nat→α→Prop):Nat→List α→Prop
 | nil {n}:jN P n []
 | cons {n a l}:P n a→jN P (n+1) l→jN P n (a::l)
theorem jN.get {α:Type}{P:Nat→α→Prop}{n:Nat}{l:List α}(h:jN P n l)(j:Nat)(hj:j<l.length):∃t,l[j]?=some t∧P (j+n) t:=by
 induction h generalizing j with
 | nil=>exact absurd hj (Nat.not_lt_zero _)
 | @cons n a l h _ ih=>
  cases j with
  | zero=>exact ⟨a,rfl,by rw [Nat.zero_add];exact h⟩
  | succ j=>
   obtain ⟨t,h1,h2⟩:=ih j (Nat.lt_of_succ_lt_succ hj)
   exact ⟨t,h1,by rw [Nat.succ_add];exact h2⟩
noncomputable def okS (s:List Nat):Prop:=∀c∈s,c<55296
theorem okS.d {s:List Nat}(h:okS s):D.ok (.str s)=true:=List.all_eq_true.mpr fun c hc=>decide_eq_true (h c hc)
theorem lJ:∀{ss:List (List Nat)},(∀s∈ss,okS s)→D.oks (ss.map .str)=true
 | [],_=>rfl
 | s::ss,h=>by
  show (D.ok (.str s)&&D.oks (ss.map .str))=true
  rw [(h s (List.mem_cons_self ..)).d,lJ fun t ht=>h t (List.mem_cons_of_mem _ ht)];rfl
theorem lK {hp:List MO}:∀(ss:List (List Nat)),Rds hp (ss.map .str) (ss.map .str)
 | []=>.nil
 | s::ss=>.cons (.str s) (lK ss)
theorem iQ {K:KT}{n i:Nat}{Q:PQ}{X:XM}{m:MS}{v:MV}(hv:m.get i=some v)(h:Q v m):wpE K n (.var i) Q X m:=by
 show (match m.get i with | some v=>Q v m | none=>False)
 rw [hv];exact h
theorem bB {hp:List MO}{x:List Nat}{ss:List (List Nat)}{Q:Bool→Prop}(hx:okS x)(hs:∀s∈ss,okS s)(h:Q (ss.contains x)):InP hp (.str x) (ss.map .str) Q:=by
 refine .mk (.str x) (ss.map .str) (.str x) (lK ss) (Nat.zero_le _) hx.d (lJ hs) ?_
 have e:(ss.map D.str).any (fun e=>e.deq (.str x))=ss.contains x:=by
  clear h hs
  induction ss with
  | nil=>rfl
  | cons s ss ih=>
   show ((s==x)||(ss.map D.str).any (fun e=>e.deq (.str x)))=(x==s||ss.contains x)
   rw [ih,BEq.comm]
 rw [e];exact h
theorem Dq {hp:List MO}{x:List Nat}{ss:List (List Nat)}{Q:Bool→Prop}(hx:okS x)(hs:∀s∈ss,okS s)(hm:x∈ss)(h:Q true):InP hp (.str x) (ss.map .str) Q:=bB hx hs (by rw [List.contains_iff_mem.mpr hm];exact h)
theorem Fx {hp:List MO}{x:List Nat}{ss:List (List Nat)}{Q:Bool→Prop}(hx:okS x)(hs:∀s∈ss,okS s)(hm:x∉ss)(h:Q false):InP hp (.str x) (ss.map .str) Q:=bB hx hs (by rw [show ss.contains x=false from by rw [Bool.eq_false_iff];exact fun q=>hm (List.contains_iff_mem.mp q)];exact h)
theorem aL {k:Int}{n:Nat}(h0:0≤k)(h1:k<n):dG k n=some k.toNat:=by
 unfold dG
 rw [decide_eq_true h0,decide_eq_true h1]
theorem oz (z:Int):1+z-1=z:=by rw [Int.add_comm,Int.add_sub_cancel]
theorem n4 {k:Int}{z n:Nat}(e:k=z)(h:z<n):dG k n=some z:=by
 subst e;exact aL (Int.natCast_nonneg _) (Int.ofNat_lt.mpr h)
theorem bg {α:Type}{xs:List α}{i:Nat}(h:i<xs.length):xs[i]?=some xs[i]:=List.getElem?_eq_getElem h
theorem iR {k:Int}{n:Nat}(h:0≤k):sJ k n=min k.toNat n:=by
 unfold sJ;rw [decide_eq_true h]
theorem bT {α:Type}{xs:List α}{k:Int}(h:0≤k):aJ xs none (some k)=xs.take k.toNat:=by
 unfold aJ
 simp only [iR h,List.drop_zero]
 rw [←List.take_eq_take_min]
theorem bv {α:Type}{xs:List α}{k:Int}(h:0≤k):aJ xs (some k) none=xs.drop k.toNat:=by
 unfold aJ
 simp only [iR h,List.take_length]
 rcases Nat.le_total k.toNat xs.length with q | q
 ·rw [Nat.min_eq_left q]
 ·rw [Nat.min_eq_right q,List.drop_length,List.drop_eq_nil_of_le q]
theorem aI {n:Nat}(h:n≤1000000):n≤line:=by unfold line;exact Nat.le_trans h (nb rfl)
theorem fg:∀(l t:List (List Nat)),l.Nodup→(∀x∈l,x∈t)→l.length≤t.length
 | [],_,_,_=>Nat.zero_le _
 | a::l,t,hn,hs=>by
  rw [List.nodup_cons] at hn
  have ha:a∈t:=hs a (List.mem_cons_self ..)
  have:=fg l (t.erase a) hn.2 fun x hx=>by
   have hne:x≠a:=fun q=>hn.1 (q▸hx)
   exact (List.mem_erase_of_ne hne).mpr (hs x (List.mem_cons_of_mem _ hx))
  rw [List.length_erase_of_mem ha] at this
  have:=List.length_pos_of_mem ha
  exact Nat.add_le_of_le_sub this (by assumption)
end Internal
end
section
namespace Internal
variable {Q:MV→List MO→Prop}{X:XT}{h:List MO}
variable {K:KT}(hK:aK PP K)
noncomputable def mix (x:Int):Int:=(x * 48271+7919) % 2147483647
theorem z0 (x:Int):0≤mix x∧mix x<2147483647:=by unfold mix;exact em rfl
noncomputable def cell (is:List Int)(k:Int):Int:=match is[k.toNat]? with
 | some v=>v
 | none=>0
noncomputable abbrev abc:List Nat:=[97,98,99,100,101,102,103,104,105,106,107,108,109,110,111,112,113,114,115,116,117,118,119,120,121,122]
noncomputable abbrev jO:List Nat:=[97,98,99,100,101,102,103,104,105,106,107,108,109,110,111,112,113,114,115,116,117,118,119,120,121,122,48,49,50,51,52,53,54,55,56,57]
theorem n5:∀c∈abc,c∈jO:=by decide
theorem po:∀c∈jO,c<128:=by decide
noncomputable def Nm (s:List Nat):Prop:=s≠[]∧s.length≤8∧(∀c∈s,c∈jO)∧s.headD 0∈abc
theorem Nm.ok {s:List Nat}(h:Nm s):okS s:=fun c hc=>Nat.lt_trans (po c (h.2.2.1 c hc)) (by decide)
theorem gC {s t:List Nat}(h:s≠[]):(s++t).headD 0=s.headD 0:=by
 cases s with
 | nil=>exact absurd rfl h
 | cons=>rfl
theorem lL {s:List Nat}{k:Nat}(h:0<k):(s.take k).headD 0=s.headD 0:=by
 cases s with
 | nil=>rw [List.take_nil]
 | cons=>cases k with
  | zero=>cases h
  | succ=>rfl
noncomputable def kws:List (List Nat):=[[115,101,116],[116,101,108,108],[115,107,105,112],[105,102],[101,108,115,101],[119,104,105,108,101],[101,110,100]]
theorem qN:∀s∈kws,okS s:=by unfold okS kws;decide
theorem rQ:∀s∈kws,s.length≤5:=by unfold kws;decide
include hK
theorem bL {n:Nat}{x:Int}(hq:Q (.int (mix x)) h):K (n+1) 6 [.int x] Q X h:=by
 refine hK _ _ _ _ _ _ iJ rfl rfl ?_
 refine ⟨.inr (by unfold dt;decide),?_⟩
 exact hq
theorem fh {n:Nat}{is:List Int}{k:Int}(hk:0≤k)(hq:Q (.int (cell is k)) h):K (n+1) 5 [.scr is,.int k] Q X h:=by
 refine hK _ _ _ _ _ _ fN rfl rfl ?_
 conv=>whnf
 unfold cell at hq
 by_cases hlt:k<is.length
 ·rw [decide_eq_true hlt]
  conv=>whnf
  rw [aL hk hlt]
  dsimp only
  rw [bg (tn hk hlt)] at hq ⊢
  exact hq
 ·rw [decide_eq_false hlt]
  rw [List.getElem?_eq_none ((Int.le_toNat hk).mpr (Int.not_lt.mp hlt))] at hq
  exact hq
theorem xr {n:Nat}{s:List Nat}{X:XM}{m:MS}(v:Nat)(hv:m.get v=some (.str s))(hs:Nm s)(hq:∀s' h',Nm s'→m.heap<+:h'→Q (.str s') h') :
  ax K n [.ite (.cmp .inn (.var v) (.list [.cst (.str [115,101,116]),.cst (.str [116,101,108,108]),.cst (.str [115,107,105,112]),.cst (.str [105,102]),.cst (.str [101,108,115,101]),.cst (.str [119,104,105,108,101]),.cst (.str [101,110,100])])) [.ret (.bin .add (.var v) (.cst (.str [48])))] [],.ret (.var v)] (fin Q) X m:=by
 have e:∀{Q:PQ} {X:XM} {m':MS},m'.vars=m.vars→Q (.str s) m'→wpE K n (.var v) Q X m':=fun {Q X m'} e h=>by
  exact iQ (by rw [←hv];unfold MS.get;rw [e]) h
 show wpE K n (.var v) _ X _
 refine e (X:=X) rfl ?_
 refine al iP ?_
 show InP _ _ (kws.map .str) _
 refine bB hs.ok qN ?_
 cases hc:kws.contains s with
 | true=>
  show wpE K n (.var v) _ X _
  refine e (X:=X) rfl ?_
  have hl:=rQ s (by simpa using hc)
  refine ⟨by show s.length+1≤2 ^ 24;lia,hq _ _ ⟨by simp,by simp;exact Nat.le_trans hl (nb rfl),?_,by rw [gC hs.1];exact hs.2.2.2⟩ (aa (ai _))⟩
  intro c hc
  rcases List.mem_append.mp hc with h | h
  ·exact hs.2.2.1 c h
  ·rw [List.mem_singleton.mp h];decide
 | false=>
  show wpE K n (.var v) _ X _
  refine e (X:=X) rfl ?_
  exact hq s _ hs (aa (ai _))
theorem tX {n:Nat}{x:Int}(hq:∀s h',Nm s→h<+:h'→Q (.str s) h'):K (n+2) 7 [.int x] Q X h:=by
 refine hK _ _ _ _ _ _ fO rfl rfl ?_
 conv=>whnf
 rw [aL (em0 rfl) (by show (_:Int)<26;exact em2 rfl)]
 refine cJ (bg (by show _<26;exact emN rfl)) ?_
 refine aG (dS (by lia) (by lia)) ?_
 refine nW (fun i s (z:Int) w=>⟨[some (.int x),some (.str s),some (.int z),w],h⟩) (fun i s (z:Int) w=>A3 (s.length=i+1) (∀c∈s,c∈jO) (s.headD 0∈abc)) _ _ _ rfl ⟨rfl,?_,List.getElem_mem _⟩ (fun _ _ _ _ _=>trivial) (fun i y s z w P hy hI hn _=>?_) (fun s z w hI=>?_)
 ·intro c hc
  simp only [List.mem_singleton] at hc;subst hc;exact n5 _ (List.getElem_mem _)
 ·obtain ⟨hi,rfl⟩:=fS hy
  obtain ⟨hl,hc,hh⟩:=hI
  refine bL hK ?_
  conv=>whnf
  rw [aL (em0 rfl) (by show (_:Int)<36;exact em2 rfl)]
  refine cJ (bg (by show _<36;exact emN rfl)) ?_
  refine ⟨by show s.length+1≤2 ^ 24;rw [hl];exact Nat.le_trans (Nat.succ_le_succ (Nat.succ_le_succ (Nat.le_of_lt (Nat.lt_trans hi (emN (n:=8) rfl))))) (nb rfl),?_⟩
  refine hn _ _ _ ⟨by simp;exact hl,?_,by rw [gC (fun q=>by rw [q] at hl;simp at hl)];exact hh⟩
  intro c h
  rcases List.mem_append.mp h with h | h
  ·exact hc c h
  ·simp only [List.mem_singleton] at h;subst h;exact List.getElem_mem _
 ·obtain ⟨hl,hc,hh⟩:=hI
  rw [jq] at hl
  exact xr hK 1 rfl ⟨fun q=>by rw [q] at hl;simp at hl,hl▸Nat.succ_le_of_lt (emN (n:=8) rfl),hc,hh⟩ hq
end Internal
end
section
namespace Internal
variable {Q:MV→List MO→Prop}{X:XT}{h:List MO}
variable {K:KT}(hK:aK PP K)
include hK
theorem m3 {n:Nat}{s so:List Nat}{c a:Int}{X:XM}(hs:Nm s)(ha:0≤a)(hb:a<s.length)(h1:2≤so.length)(h2:so.length≤36)(h3:∀c∈so,c∈jO)(h4:a=0→∀c∈so,c∈abc)(hq:∀s' h',Nm s'→h<+:h'→Q (.str s') h') :
  ax K n (fP.body.drop 3) (fin Q) X ⟨[some (.str s),some (.int c),some (.str so),some (.int a),none,none],h⟩:=by
 conv=>whnf
 rw [aL ha hb]
 dsimp only
 have hA:=tn ha hb
 refine cJ (bg hA) ?_
 intro k hk
 refine ay (decide_eq_true (by lia)) ?_
 refine ay (decide_eq_true (jT (n1 h1 (by simp +arith only)))) ?_
 conv=>whnf
 have hm:∀x:Int,0≤x % so.length∧x % so.length<so.length:=fun x=>have hp:0<so.length:=Nat.le_trans (nb rfl) h1;⟨Int.emod_nonneg _ (cne hp),Int.emod_lt_of_pos _ (jT hp)⟩
 rw [aL (hm _).1 (hm _).2]
 refine cJ (bg (tn (hm _).1 (hm _).2)) ?_
 have hlen:=hs.2.1
 have key:min a.toNat s.length+1+(s.length-(a+1).toNat)≤8:=by
  rw [Int.toNat_add ha (by decide),Nat.min_eq_left (Nat.le_of_lt hA)]
  exact Nat.le_trans (Nat.le_of_eq (Nat.add_sub_cancel' hA)) hlen
 rw [bT ha]
 refine ⟨aI (by rw [List.length_take];exact Nat.le_trans (Nat.le_add_right _ _) (lk key rfl)),?_⟩
 conv=>whnf
 rw [bv (z1 ha (by simp +arith only))]
 refine ⟨aI (by rw [List.length_append,List.length_take,List.length_drop];exact lk key rfl),?_⟩
 refine xr hK 5 rfl ⟨by simp,?_,?_,?_⟩ hq
 ·rw [List.length_append,List.length_append,List.length_take,List.length_drop];exact key
 ·intro c hc
  rcases List.mem_append.mp hc with h | h
  ·rcases List.mem_append.mp h with h | h
   ·exact hs.2.2.1 c (List.mem_of_mem_take h)
   ·simp only [List.mem_singleton] at h;subst h;exact h3 _ (List.getElem_mem _)
  ·exact hs.2.2.1 c (List.mem_of_mem_drop h)
 ·rw [List.append_assoc]
  by_cases q:a=0
  ·subst q;exact h4 rfl _ (List.getElem_mem _)
  ·rw [gC (fun e=>by have:=congrArg List.length e;rw [List.length_take,List.length_nil] at this;lia),lL (by lia)]
   exact hs.2.2.2
theorem Dr {n:Nat}{s:List Nat}{c:Int}(hs:Nm s)(hq:∀s' h',Nm s'→h<+:h'→Q (.str s') h'):K (n+1) 8 [.str s,.int c] Q X h:=by
 refine hK _ _ _ _ _ _ fP rfl rfl ?_
 have hp:0<s.length:=List.length_pos_iff.mpr hs.1
 refine ay (decide_eq_true (jT hp)) ?_
 conv=>whnf
 have h0:0≤c % (s.length:Int):=Int.emod_nonneg _ (cne hp)
 have h1:c % (s.length:Int)<s.length:=Int.emod_lt_of_pos _ (jT hp)
 by_cases q:0<c % (s.length:Int)
 ·rw [decide_eq_true q]
  refine ⟨aI (by decide),?_⟩
  exact m3 hK (so:=jO) hs h0 h1 (by decide) (by decide) (fun _ h=>h) (fun e=>by lia) hq
 ·rw [decide_eq_false q]
  exact m3 hK (so:=abc) hs h0 h1 (by decide) (by decide) n5 (fun _ _ h=>h) hq
end Internal
end
section
namespace Internal
noncomputable def xt (x:Int):Nat:=97+(x % 26).toNat
theorem xu (x:Int):abc[(x % 26).toNat]?=some (xt x):=by
 have h:∀i,i<26→abc[i]?=some (97+i):=by decide
 exact h _ (emN rfl)
theorem z3 (x:Int):xt x∈jO:=n5 _ (List.mem_of_getElem? (xu x))
noncomputable def lM (p:List Nat)(o:Int)(j:Nat):List Nat:=p++[xt (o+5 * j)]
theorem z4 {p:List Nat}{o:Int}{i j:Nat}(h:i<j)(hj:j≤9):lM p o i≠lM p o j:=fun e=>by
 unfold lM at e
 have:=List.append_cancel_left e
 simp only [List.cons.injEq,and_true] at this
 have h1:(o+5 * (i:Int)) % 26=(o+5 * (j:Int)) % 26:=by rw [←Int.toNat_of_nonneg (em0 rfl:0≤(o+5 * (i:Int)) % 26),Nat.add_left_cancel this,Int.toNat_of_nonneg (em0 rfl)]
 have h2:=Int.emod_eq_emod_iff_emod_sub_eq_zero.mp h1.symm
 rw [show o+5 * (j:Int)-(o+5 * (i:Int))=((5 * (j-i):Nat):Int) by first | lia | omega] at h2
 exact (by decide:∀d:Fin 10,0<d.1→((5 * d.1:Nat):Int) % 26≠0) ⟨j-i,Nat.lt_succ_of_le (Nat.le_trans (Nat.sub_le _ _) hj)⟩ (Nat.sub_pos_of_lt h) h2
theorem z5 {p:List Nat}{o:Int}{ss:List (List Nat)}(hl:ss.length≤9)(h:∀i,i≤9→lM p o i∈ss):False:=by
 have hn:((List.range 10).map (lM p o)).Nodup:=by
  refine List.pairwise_map.mpr ((List.pairwise_lt_range (n:=10)).imp_of_mem fun {a b} ha hb hlt=>z4 hlt ?_)
  simp at hb;exact n1 hb (by simp +arith only)
 have:=fg _ ss hn fun x hx=>by
  obtain ⟨i,hi,rfl⟩:=List.mem_map.mp hx
  simp at hi
  exact h i (n1 hi (by simp +arith only))
 simp at this;exact nf (n2 this hl (by simp +arith only))
noncomputable def Ph (ss:List (List Nat))(i:Int)(k:Nat)(s:List Nat)(u:Int):Prop:=
 21-s.length≤k∨∃p o j,p.length=7∧j≤9∧s=lM p o j∧(∀i',i'<j→lM p o i'∈ss)∧u+8+i=o+5 * ((j:Int)+1)∧11-j≤k
theorem z6 {ss:List (List Nat)}{i:Int}{k:Nat}{s:List Nat}{u:Int}(hs:Nm s)(hl:ss.length≤9)(hin:s∈ss∨s∈kws)(h:Ph ss i (k+1) s u) :
  Nm (s.take 7++[xt (u+s.length+i)])∧Ph ss i k (s.take 7++[xt (u+s.length+i)]) (u+5):=by
 have hlen:=hs.2.1
 have hne:0<s.length:=List.length_pos_iff.mpr hs.1
 refine ⟨⟨by simp,by simp;lia,fun c hc=>?_,by rw [gC (fun e=>by have:=congrArg List.length e;rw [List.length_take,List.length_nil] at this;lia),lL (by decide)];exact hs.2.2.2⟩,?_⟩
 ·rcases List.mem_append.mp hc with h | h
  ·exact hs.2.2.1 c (List.mem_of_mem_take h)
  ·simp only [List.mem_singleton] at h;subst h;exact z3 _
 ·rcases h with h | ⟨p,o,j,hp,hj,hc,hv,hu,hk⟩
  ·by_cases q:s.length=8
   ·refine .inr ⟨s.take 7,u+s.length+i,0,by rw [List.length_take,q];rfl,nb rfl,?_,fun i' hi=>absurd hi (Nat.not_lt_zero _),by lia,by rw [q] at h;exact Nat.le_trans (nb rfl:11≤12) (Nat.le_of_succ_le_succ h)⟩
    unfold lM;simp
   ·refine .inl ?_
    rw [List.length_append,List.length_take]
    rw [Nat.min_eq_right (Nat.le_of_lt_succ (Nat.lt_of_le_of_ne hlen q))]
    exact Nat.sub_le_iff_le_add.mpr (Nat.le_trans (Nat.sub_le_iff_le_add.mp h) (show k+1+s.length≤k+(s.length+1) by simp +arith only))
  ·have h8:s.length=8:=by rw [hc];unfold lM;rw [List.length_append,hp];rfl
   have hss:s∈ss:=hin.elim id fun q=>by have:=rQ s q;lia
   by_cases q:j=9
   ·subst q
    exact (z5 (p:=p) (o:=o) hl fun i' hi=>by
     by_cases q:i'=9
     ·subst q;rw [←hc];exact hss
     ·exact hv i' (Nat.lt_of_le_of_ne hi q)).elim
   ·refine .inr ⟨p,o,j+1,hp,Nat.lt_of_le_of_ne hj q,?_,fun i' hi=>?_,by lia,Nat.pred_le_pred hk⟩
    ·have:s.take 7=p:=by rw [hc];unfold lM;rw [←hp];simp
     rw [this,h8]
     unfold lM
     congr 3
    ·by_cases q:i'=j
     ·subst q;rw [←hc];exact hss
     ·exact hv i' (Nat.lt_of_le_of_ne (Nat.le_of_lt_succ hi) q)
variable {K:KT}(hK:aK PP K)
include hK
theorem pq {n:Nat}{s:List Nat}{o u i:Int}{r:Nat}{ss:List (List Nat)}{hp:List MO}{Q:Fl→MS→Prop}{X:XM}(hr:hp[r]?=some (.list (ss.map .str)))(hss:∀s∈ss,Nm s)(hl:ss.length≤9)(hs:Nm s)
  (hq:∀s' u' hp',Nm s'→s'∉ss→s'∉kws→hp<+:hp'→Q .next ⟨[some (.int o),some (.int u'),some (.ref r),some (.int i),some (.str s')],hp'⟩) :
  wpS K n (.while_ (.or [.cmp .inn (.var 4) (.var 2),.cmp .inn (.var 4) (.list [.cst (.str [115,101,116]),.cst (.str [116,101,108,108]),.cst (.str [115,107,105,112]),.cst (.str [105,102]),.cst (.str [101,108,115,101]),.cst (.str [119,104,105,108,101]),.cst (.str [101,110,100])])])
   [.asg [4] false (.bin .add (.sl (.var 4) none (some (.cst (.int 7)))) (.idx (.cst (.str [97,98,99,100,101,102,103,104,105,106,107,108,109,110,111,112,113,114,115,116,117,118,119,120,121,122])) (.bin .mod (.bin .add (.bin .add (.var 1) (.blt .len [.var 4])) (.var 3)) (.cst (.int 26))))),.asg [1] false (.bin .add (.var 1) (.cst (.int 5)))])
   Q X ⟨[some (.int o),some (.int u),some (.ref r),some (.int i),some (.str s)],hp⟩:=by
 refine ⟨30,gz (fun k m=>∃s u hp',m=⟨[some (.int o),some (.int u),some (.ref r),some (.int i),some (.str s)],hp'⟩∧hp<+:hp'∧Nm s∧Ph ss i k s u) (fun m ⟨s,u,hp',_,_,hs,h⟩=>?_) (fun k m W hI hW=>?_) 30 _ ⟨s,u,hp,rfl,ai _,hs,.inl (Nat.le_trans (Nat.sub_le _ _) (nb rfl))⟩⟩
 ·have:=hs.2.1
  rcases h with h | ⟨_,_,j,_,hj,_,_,_,h⟩
  ·exact absurd (Nat.le_trans (Nat.le_of_sub_eq_zero (Nat.le_zero.mp h)) this) (by decide)
  ·exact absurd (Nat.le_trans (Nat.le_of_sub_eq_zero (Nat.le_zero.mp h)) hj) (by decide)
 ·obtain ⟨s,u,hp',rfl,hpre,hs,hph⟩:=hI
  have body:∀hp'',hp<+:hp''→(s∈ss∨s∈kws)→ax K n [.asg [4] false (.bin .add (.sl (.var 4) none (some (.cst (.int 7)))) (.idx (.cst (.str [97,98,99,100,101,102,103,104,105,106,107,108,109,110,111,112,113,114,115,116,117,118,119,120,121,122])) (.bin .mod (.bin .add (.bin .add (.var 1) (.blt .len [.var 4])) (.var 3)) (.cst (.int 26))))),.asg [1] false (.bin .add (.var 1) (.cst (.int 5)))]
    (fun f m=>match f with
    | .next=>W m
    | .cont=>W m
    | .brk=>Q .next m
    | .ret r=>Q (.ret r) m) X ⟨[some (.int o),some (.int u),some (.ref r),some (.int i),some (.str s)],hp''⟩:=fun hp'' hpre hin=>by
   obtain ⟨g1,g2⟩:=z6 hs hl hin hph
   conv=>whnf
   rw [aL (em0 rfl) (by show (_:Int)<26;exact em2 rfl)]
   dsimp only
   rw [xu]
   rw [bT (by decide)]
   refine ⟨aI (by rw [List.length_take];exact Nat.le_trans (Nat.succ_le_succ (Nat.min_le_left 7 _)) (nb rfl)),?_⟩
   exact hW _ ⟨_,_,hp'',rfl,hpre,g1,g2⟩
  refine al (ag hpre hr) ?_
  refine bB hs.ok (fun t ht=>(hss t ht).ok) ?_
  cases hc:ss.contains s with
  | true=>exact body hp' hpre (.inl (by simpa using hc))
  | false=>
   refine al iP ?_
   show InP _ _ (kws.map .str) _
   refine bB hs.ok qN ?_
   cases hc':kws.contains s with
   | true=>exact body _ (aa hpre) (.inr (by simpa using hc'))
   | false=>exact hq s u _ hs (by simpa using hc) (by simpa using hc') (aa hpre)
noncomputable def EV:List MSt→List MSt
 | .for_ _ _ _ _ b::_=>b
 | _=>[]
theorem z7 {n:Nat}{a b:Int}{Q:MV→List MO→Prop}{X:XT}{h:List MO}(hq:∀(h':List MO) (r:Nat) (ss:List (List Nat)),h<+:h'→h.length≤r→h'[r]?=some (.list (ss.map .str))→ss.length=10→(∀s∈ss,Nm s)→ss.Nodup→(∀s∈ss,s∉kws)→Q (.ref r) h') :
  K (n+3) 9 [.int a,.int b] Q X h:=by
 refine hK _ _ _ _ _ _ eZ rfl rfl ?_
 refine gw (fun i (o:Int) (u:Int) (ss:List (List Nat)) (w3:Option MV) (w4:Option MV) (hp:List MO)=>⟨[some (.int o),some (.int u),some (.ref h.length),w3,w4],hp⟩) (fun i (o:Int) (u:Int) (ss:List (List Nat)) (w3:Option MV) (w4:Option MV) (hp:List MO)=>A6 (h<+:hp) (hp[h.length]?=some (.list (ss.map .str))) (ss.length=i) (∀s∈ss,Nm s) ss.Nodup (∀s∈ss,s∉kws))
  a b [] none none _ rfl ⟨aa (ai _),ac _ _,rfl,by simp,List.nodup_nil,by simp⟩ (fun _ _ _ _ _ _ _ _=>trivial) (fun i y o u ss w3 w4 hp P hy hI hn _=>?_) (fun o u ss w3 w4 hp hI=>?_)
 ·obtain ⟨hi,rfl⟩:=fS hy
  obtain ⟨hpre,hr,hl,hss,hnd,hkw⟩:=hI
  have hi:i<10:=hi
  have rest:∀s hp',Nm s→hp<+:hp'→ax K (n+2) ((EV (eZ.body.drop 1)).drop 3) P (fun c m=>X c m.heap) ⟨[some (.int (mix o)),some (.int u),some (.ref h.length),some (.int i),some (.str s)],hp'⟩:=fun s hp' hs hpre'=>by
   show wpS K (n+2) _ _ _ _
   refine pq hK (ag hpre' hr) hss (n2 hi (Nat.le_of_eq hl) (by simp +arith only)) hs fun s' u' hp'' hs' h1 h2 hpre''=>?_
   have hr':=ag (hpre'.trans hpre'') hr
   refine ay (aA hr') ?_
   refine aY (aW hr') ?_
   refine ⟨by simp only [List.length_map];unfold line;lia,?_⟩
   refine hn _ _ (ss++[s']) _ _ _ ⟨aM ((hpre.trans hpre').trans hpre'') (Nat.le_refl _),?_,by simp [hl],?_,?_,?_⟩
   ·rw [get_set hr'];simp
   ·intro t ht
    rcases List.mem_append.mp ht with ht | ht
    ·exact hss t ht
    ·simp at ht;subst ht;exact hs'
   ·rw [List.nodup_append]
    exact ⟨hnd,by simp,fun t ht t' ht'=>by simp at ht';subst ht';exact fun q=>h1 (q▸ht)⟩
   ·intro t ht
    rcases List.mem_append.mp ht with ht | ht
    ·exact hkw t ht
    ·simp at ht;subst ht;exact h2
  refine bL hK ?_
  refine tX hK fun s h' hs hpre'=>?_
  conv=>whnf
  have hpre':hp<+:h':=hpre'
  cases hodd:((i:Int) % 2==1) with
  | false=>exact rest s h' hs hpre'
  | true=>
   have hodd:(i:Int) % 2=1:=by simpa using hodd
   conv=>whnf
   cases hu:(u / 4 % 2==1) with
   | false=>exact rest s h' hs hpre'
   | true=>
    conv=>whnf
    dsimp only [MS.set,List.set]
    refine af (ag hpre' hr) ?_
    have hi:0<i:=Nat.pos_of_ne_zero fun q=>by subst q;exact absurd hodd (by decide)
    have hlt:i-1<ss.length:=Nat.lt_of_lt_of_eq (Nat.sub_lt hi Nat.one_pos) hl.symm
    rw [show (i:Int)-1=((i-1:Nat):Int) from (Int.natCast_sub hi).symm]
    refine az (j:=i-1) (v:=.str ss[i-1]) (aL (Int.natCast_nonneg _) (by rw [List.length_map];exact Int.ofNat_lt.mpr hlt)) (by rw [List.getElem?_map,bg hlt];rfl) ?_
    refine bL hK ?_
    refine Dr hK (hss _ (List.getElem_mem _)) fun s' h'' hs' hpre''=>?_
    exact rest s' h'' hs' (hpre'.trans hpre'')
 ·obtain ⟨hpre,hr,hl,hss,hnd,hkw⟩:=hI
  exact hq hp h.length ss hpre (Nat.le_refl _) hr hl hss hnd hkw
end Internal
end
section
namespace Internal
set_option genCtorIdx false in
inductive Tm where
 | num (k:Int) | nm (s:List Nat) | op (c:Nat) (a b:Tm)
gen_injective_theorems% Tm
noncomputable abbrev tY:List Nat:=[110,117,109,98,101,114]
noncomputable abbrev lN:List Nat:=[110,97,109,101]
noncomputable def Tm.mv:Tm→MV
 | .num k=>.tup [.str tY,.int k]
 | .nm s=>.tup [.str lN,.str s]
 | .op c a b=>.tup [.str [c],a.mv,b.mv]
noncomputable def Tm.deep:Tm→Nat
 | .op _ a b=>max a.deep b.deep+1
 | _=>0
noncomputable def Tm.lv:Tm→Nat
 | .num _ | .nm _=>1
 | .op _ a b=>a.lv+b.lv
theorem Tm.lv_le:∀t:Tm,t.lv≤2 ^ t.deep
 | .num _=>Nat.le_refl _
 | .nm _=>Nat.le_refl _
 | .op _ a b=>by
  have ha:=Tm.lv_le a
  have hb:=Tm.lv_le b
  have h1:2 ^ a.deep≤2 ^ max a.deep b.deep:=Nat.pow_le_pow_right (by decide) (Nat.le_max_left ..)
  have h2:2 ^ b.deep≤2 ^ max a.deep b.deep:=Nat.pow_le_pow_right (by decide) (Nat.le_max_right ..)
  show a.lv+b.lv≤2 ^ (max a.deep b.deep+1)
  rw [Nat.pow_succ,Nat.mul_two];exact Nat.add_le_add (Nat.le_trans ha h1) (Nat.le_trans hb h2)
noncomputable def cO (c:Nat):Prop:=c=43∨c=45∨c=42∨c=60∨c=61∨c=47
noncomputable def Tm.ok (p:List Nat→Prop):Tm→Prop
 | .num k=>0≤k∧k<1000000
 | .nm s=>p s
 | .op c a b=>cO c∧a.ok p∧b.ok p
theorem Tm.ok.mono {p q:List Nat→Prop}(h:∀s,p s→q s):∀{t:Tm},t.ok p→t.ok q
 | .num _,x=>x
 | .nm s,x=>h s x
 | .op _ _ _,⟨x,y,z⟩=>⟨x,y.mono h,z.mono h⟩
theorem lO:∀(ss:List (List Nat)),D.deeps (ss.map .str)=0
 | []=>rfl
 | s::ss=>by show max 0 (D.deeps (ss.map .str))=0;rw [lO ss];rfl
theorem Ds {hp:List MO}{r r':Nat}{ss:List (List Nat)}{Q:Bool→Prop}(h1:hp[r]?=some (.list (ss.map .str)))(h2:hp[r']?=some (.list []))(hs:∀s∈ss,okS s)(hq:Q (decide (ss=[]))):EqP hp (.ref r) (.ref r') Q:=by
 refine .mk (.list (ss.map .str)) (.list []) (.list h1 (lK ss)) (.list h2 .nil) ?_ (lJ hs) rfl ?_
 ·show D.deeps _+1≤1000
  rw [lO];decide
 ·cases ss<;>exact hq
end Internal
end
section
namespace Internal
variable {K:KT}(hK:aK PP K)
include hK
theorem pt {n:Nat}{x:Int}{r:Nat}{ss:List (List Nat)}{Q:MV→List MO→Prop}{X:XT}{h:List MO}(hr:h[r]?=some (.list (ss.map .str)))(hs:∀s∈ss,okS s)(hq:∀t h',Tm.ok (·∈ss) t→t.deep=0→h<+:h'→Q t.mv h') :
  K (n+1) 10 [.int x,.ref r] Q X h:=by
 refine hK _ _ _ _ _ _ dW rfl rfl ?_
 have rest:∀h',h<+:h'→ax K n (dW.body.drop 1) (fin Q) (fun c m=>X c m.heap) ⟨[some (.int x),some (.ref r)],h'⟩:=fun h' hpre=>by
  conv=>whnf
  cases hc:(x / 3 % 4==0) with
  | true=>
   exact hq (.num (x / 12 % 10 ^ (6:Int).toNat)) h' (by show _∧_;rw [show (10:Int) ^ (6:Int).toNat=1000000 by decide];exact em rfl) rfl hpre
  | false=>
   exact hq (.num (x / 12 % 5)) h' (by show _∧_;exact em rfl) rfl hpre
 refine Ds (ss:=ss) (fe hr) iP hs ?_
 by_cases hn:ss=[]
 ·rw [decide_eq_true hn]
  exact rest _ (aa (ai _))
 ·rw [decide_eq_false hn]
  conv=>whnf
  have hpos:0<ss.length:=List.length_pos_iff.mpr hn
  by_cases hc:0<x % 3
  ·rw [decide_eq_true hc]
   refine al (fe hr) ?_
   rw [List.length_map]
   refine ay (decide_eq_true (jT hpos)) ?_
   refine af (fe hr) ?_
   have h1:0≤x / 3 % (ss.length:Int):=Int.emod_nonneg _ (cne hpos)
   have h2:x / 3 % (ss.length:Int)<ss.length:=Int.emod_lt_of_pos _ (jT hpos)
   have h3:(x / 3 % (ss.length:Int)).toNat<ss.length:=tn h1 h2
   exact az (aL h1 (by rw [List.length_map];exact h2)) (by rw [List.getElem?_map,bg h3];rfl) (hq (.nm _) _ (List.getElem_mem h3) rfl (aa (ai _)))
  ·rw [decide_eq_false hc]
   exact rest _ (aa (ai _))
end Internal
end
section
namespace Internal
theorem qO:∀j,j<10→∃c,cO c∧[MV.str [43],MV.str [45],MV.str [42],MV.str [60],MV.str [61],MV.str [43],MV.str [45],MV.str [60],MV.str [47],MV.str [47]][j]?=some (.str [c])
 | 0,_=>⟨43,by unfold cO;exact by decide,rfl⟩
 | 1,_=>⟨45,by unfold cO;exact by decide,rfl⟩
 | 2,_=>⟨42,by unfold cO;exact by decide,rfl⟩
 | 3,_=>⟨60,by unfold cO;exact by decide,rfl⟩
 | 4,_=>⟨61,by unfold cO;exact by decide,rfl⟩
 | 5,_=>⟨43,by unfold cO;exact by decide,rfl⟩
 | 6,_=>⟨45,by unfold cO;exact by decide,rfl⟩
 | 7,_=>⟨60,by unfold cO;exact by decide,rfl⟩
 | 8,_=>⟨47,by unfold cO;exact by decide,rfl⟩
 | 9,_=>⟨47,by unfold cO;exact by decide,rfl⟩
 | _+10,h=>by lia
variable {K:KT}(hK:aK PP K)
include hK
theorem tZ:∀(L:Nat) {n:Nat}{x l:Int}{r rl:Nat}{d:Bool}{ss sl:List (List Nat)}{Q:MV→List MO→Prop}{X:XT}{h:List MO},l=(L:Int)+1→h[r]?=some (.list (ss.map .str))→h[rl]?=some (.list (sl.map .str))→(∀s∈ss,okS s)→(∀s∈sl,okS s)→
  (∀t h',Tm.ok (fun s=>s∈ss∨s∈sl) t→t.deep≤L→h<+:h'→Q t.mv h')→K (n+L+2) 11 [.int x,.ref r,.ref rl,.bool d,.int l] Q X h:=by
 intro L
 induction L with
 | zero=>
  intro n x l r rl d ss sl Q X h hl hr hrl hs hsl hq
  refine hK _ _ _ _ _ _ cw rfl rfl ?_
  refine bL hK ?_
  conv=>whnf
  have e:(l==1)=true:=by simp [hl]
  rw [e]
  refine pt hK hr hs fun t h' ht hd hpre=>?_
  exact hq t h' (ht.mono fun s=>.inl) (n1 (Nat.le_of_eq hd) (by simp +arith only)) hpre
 | succ L ih=>
  intro n x l r rl d ss sl Q X h hl hr hrl hs hsl hq
  refine hK _ _ _ _ _ _ cw rfl rfl ?_
  refine bL hK ?_
  conv=>whnf
  have e:(l==1)=false:=by simp [hl];lia
  rw [e]
  conv=>whnf
  by_cases hc:mix x % 8<3
  ·rw [decide_eq_true hc]
   refine pt hK hr hs fun t h' ht hd hpre=>?_
   exact hq t h' (ht.mono fun s=>.inl) (n1 (Nat.le_of_eq hd) (by simp +arith only)) hpre
  ·rw [decide_eq_false hc]
   conv=>whnf
   rw [iP]
   dsimp only
   delta ci onO;try dsimp only
   rw [lI]
   dsimp only
   rw [nZ]
   have hj:∃j:Int,(j=8∨j=10)∧sel d (MV.int 8) (.int 10)=.int j:=by
    cases d
    ·exact ⟨8,.inl rfl,rfl⟩
    ·exact ⟨10,.inr rfl,rfl⟩
   obtain ⟨j,hj,e1⟩:=hj
   rw [e1]
   have hj0:0<j:=by rcases hj with rfl | rfl<;>decide
   have hj1:j≤10:=by rcases hj with rfl | rfl<;>decide
   refine ay (decide_eq_true hj0) ?_
   conv=>whnf
   rw [tW]
   dsimp only
   have h1:0≤mix x / 8 % j:=Int.emod_nonneg _ (Int.ne_of_gt hj0)
   have h2:mix x / 8 % j<j:=Int.emod_lt_of_pos _ hj0
   delta ci onO;try dsimp only
   rw [aL h1 (by show _<(10:Int);exact Int.lt_of_lt_of_le h2 hj1)]
   dsimp only
   obtain ⟨c,hcs,e3⟩:=qO (mix x / 8 % j).toNat (tn h1 (Int.lt_of_lt_of_le h2 hj1))
   rw [e3]
   refine ⟨.inr (by unfold dt;decide),?_⟩
   have er:n+(L+1)+1=n+L+2:=rfl
   rw [er]
   have hp0:∀o o',h<+:(h++[o])++[o']:=fun o o'=>aa (aa (ai _))
   refine ih (by lia) (ag (hp0 _ _) hr) (ag (hp0 _ _) hrl) hs hsl fun t h₁ ht hd hpre0=>?_
   have hpre:h<+:h₁:=(hp0 _ _).trans hpre0
   clear hpre0
   have last:∀{h₂:List MO} {rr:Nat} {sr:List (List Nat)} {V:List MO→List (Option MV)},h₂[rr]?=some (.list (sr.map .str))→h₂[rl]?=some (.list (sl.map .str))→h<+:h₂→(∀s∈sr,okS s)→(∀s,s∈sr∨s∈sl→s∈ss∨s∈sl)→
     K (n+L+2) 11 [.int (mix x * 5+2),.ref rr,.ref rl,.bool d,.int (l-1)] (fun v h'=>Q (.tup [.str [c],t.mv,v]) h') (fun c h'=>X c h') h₂:=fun {h₂ rr sr V} g1 g2 hp2 g3 g4=>by
    refine ih (by lia) g1 g2 g3 hsl fun t' h' ht' hd' hpre'=>?_
    refine hq (.op c t t') h' ⟨hcs,ht,ht'.mono g4⟩ ?_ (hp2.trans hpre')
    exact Nat.succ_le_succ (mx hd hd')
   conv=>whnf
   by_cases h47:c=47
   ·subst h47
    conv=>whnf
    by_cases h3:mix x / 80 % 4<3
    ·rw [decide_eq_true h3]
     refine hq (.op 47 t (.num (1+mix x / 320 % 9))) h₁ ⟨hcs,ht,by show _∧_;lia⟩ ?_ hpre
     exact Nat.succ_le_succ (mx0 hd)
    ·rw [decide_eq_false h3]
     refine ⟨.inr (by unfold dt;decide),?_⟩
     exact last (V:=fun _=>[]) (ag hpre hrl) (ag hpre hrl) hpre hsl fun s hs=>hs.elim .inr .inr
   ·have e47:([c]==[47])=false:=by simpa using h47
    rw [e47]
    conv=>whnf
    rw [e47]
    refine ⟨.inr (by unfold dt;decide),?_⟩
    exact last (V:=fun _=>[]) (ag hpre hr) (ag hpre hrl) hpre hs fun s hs=>hs
end Internal
end
section
namespace Internal
noncomputable abbrev cW:List Nat:=[115,101,116]
noncomputable abbrev iU:List Nat:=[116,101,108,108]
noncomputable abbrev rR:List Nat:=[115,107,105,112]
noncomputable abbrev wIf:List Nat:=[105,102]
noncomputable abbrev m7:List Nat:=[101,108,115,101]
noncomputable abbrev fi:List Nat:=[119,104,105,108,101]
noncomputable abbrev mz:List Nat:=[101,110,100]
set_option genCtorIdx false in
inductive Rw where
 | set (s:List Nat) (t:Tm) | tell (t:Tm) | skip | ite (t:Tm) (a b:List Rw) | wh (t:Tm) (a:List Rw)
gen_injective_theorems% Rw
noncomputable def Gn (s:List Nat):Prop:=Nm s∧s∉kws
noncomputable def Tm.good (t:Tm):Prop:=t.ok Gn∧t.deep≤3
noncomputable def Tm.txt:Tm→List Nat
 | .num k=>dec k
 | .nm s=>s
 | .op c a b=>[c]++[32]++a.txt++[32]++b.txt
mutual
noncomputable def Rw.mv:Rw→MV
 | .set s t=>.tup [.str cW,.str s,t.mv]
 | .tell t=>.tup [.str iU,t.mv]
 | .skip=>.tup [.str rR]
 | .ite t a b=>.tup [.str wIf,t.mv,.tup (mvs a),.tup (mvs b)]
 | .wh t a=>.tup [.str fi,t.mv,.tup (mvs a)]
noncomputable def mvs:List Rw→List MV
 | []=>[]
 | r::rs=>r.mv::mvs rs
end
mutual
noncomputable def Rw.good:Rw→Prop
 | .set s t=>Gn s∧t.good
 | .tell t=>t.good
 | .skip=>True
 | .ite t a b=>t.good∧dT a∧dT b
 | .wh t a=>t.good∧dT a
noncomputable def dT:List Rw→Prop
 | []=>True
 | r::rs=>r.good∧dT rs
end
mutual
noncomputable def Rw.nest:Rw→Nat
 | .ite _ a b=>max (aB a) (aB b)+1
 | .wh _ a=>aB a+1
 | _=>0
noncomputable def aB:List Rw→Nat
 | []=>0
 | r::rs=>max r.nest (aB rs)
end
mutual
noncomputable def Rw.lines:Rw→List (List Nat)
 | .set s t=>[cW++[32]++s++[32]++t.txt]
 | .tell t=>[iU++[32]++t.txt]
 | .skip=>[rR]
 | .ite t a b=>(wIf++[32]++t.txt)::(lns a++m7::(lns b++[mz]))
 | .wh t a=>(fi++[32]++t.txt)::(lns a++[mz])
noncomputable def lns:List Rw→List (List Nat)
 | []=>[]
 | r::rs=>r.lines++lns rs
end
theorem cz:∀(a b:List Rw),mvs (a++b)=mvs a++mvs b
 | [],b=>rfl
 | r::a,b=>by show r.mv::mvs (a++b)=r.mv::(mvs a++mvs b);rw [cz a b]
theorem df:∀(a b:List Rw),lns (a++b)=lns a++lns b
 | [],b=>rfl
 | r::a,b=>by show r.lines++lns (a++b)=r.lines++lns a++lns b;rw [df a b,List.append_assoc]
theorem cP:∀{a b:List Rw}{k:Nat},aB a≤k→aB b≤k→aB (a++b)≤k
 | [],_,_,_,h=>h
 | r::a,b,k,h,h'=>by
  have h:max r.nest (aB a)≤k:=h
  exact Nat.max_le.mpr ⟨(Nat.max_le.mp h).1,cP (Nat.max_le.mp h).2 h'⟩
theorem gD:∀{rs:List Rw},dT rs→∀r∈rs,r.good
 | _::_,h,r,hr=>by
  rcases List.mem_cons.mp hr with rfl | hr
  ·exact h.1
  ·exact gD h.2 r hr
theorem en:∀{rs:List Rw}{k:Nat},aB rs≤k→∀r∈rs,r.nest≤k
 | q::rs,k,h,r,hr=>by
  have h:max q.nest (aB rs)≤k:=h
  rcases List.mem_cons.mp hr with rfl | hr
  ·exact (Nat.max_le.mp h).1
  ·exact en (Nat.max_le.mp h).2 r hr
theorem bt:∀(rs:List Rw),(mvs rs).length=rs.length
 | []=>rfl
 | r::rs=>congrArg (·+1) (bt rs)
theorem t0 (r:Rw):1≤r.lines.length:=by
 cases r<;>exact Nat.le_add_left 1 _
theorem kf:∀(rs:List Rw),rs.length≤(lns rs).length
 | []=>Nat.le_refl _
 | r::rs=>by
  have h1:=t0 r
  have h2:=kf rs
  show rs.length+1≤(r.lines++lns rs).length
  rw [List.length_append];exact n2 h2 h1 (by simp +arith only)
theorem rS {rs:List Rw}{j:Nat}{x:MV}:(mvs rs)[j]?=some x→∃r,rs[j]?=some r∧x=r.mv:=by
 induction rs generalizing j with
 | nil=>intro h;cases h
 | cons r rs ih=>
  intro h
  cases j with
  | zero=>exact ⟨r,rfl,(Option.some.inj h).symm⟩
  | succ j=>exact ih h
theorem Tm.good.sub {c:Nat}{a b:Tm}(h:(Tm.op c a b).good):a.good∧b.good:=by
 obtain ⟨⟨_,h1,h2⟩,h3⟩:=h
 have h3:max a.deep b.deep+1≤3:=h3
 exact ⟨⟨h1,n2 h3 (Nat.le_max_left a.deep b.deep) (by simp +arith only)⟩,h2,n2 h3 (Nat.le_max_right a.deep b.deep) (by simp +arith only)⟩
theorem room {N k:Nat}(h:k<N):∃M,N=M+1∧k≤M:=⟨N-1,sb (n1 h (by simp +arith only)),Nat.le_sub_one_of_lt h⟩
theorem iV (r:Rw):lns [r]=r.lines:=List.append_nil _
theorem ao {h:List MO}{i j:Nat}{o o':MO}(hne:i≠j)(e:h[j]?=some o):(h.set i o')[j]?=some o:=by
 rw [List.getElem?_set_ne hne];exact e
theorem cA (hp:List MO)(x y:List (List Nat)):(hp++[MO.list (x.map .str++y.map .str)])[hp.length]?=some (.list ((x++y).map .str)):=by
 rw [ac,List.map_append]
theorem bU {x y:List (List Nat)}(h:x.length+y.length≤100000):(x.map MV.str).length+(y.map MV.str).length≤line:=aI (by rw [List.length_map,List.length_map];exact Nat.le_trans h (nb rfl))
theorem dg {g:Gd}{step:MV→(Option MV→MS→Prop)→MS→Prop}{Q:List MV→MS→Prop}(I:Nat→List MV→MS→Prop){items:List MV}{m:MS}(h0:I 0 [] m)(hg:∀i a m,I i a m→aQ g m.heap)
  (hstep:∀i x a m (P:Option MV→MS→Prop),items[i]?=some x→I i a m→(∀y m',I (i+1) (a++[y]) m'→P (some y) m')→(∀m',I (i+1) a m'→P none m')→step x P m)
  (hend:∀a m,I items.length a m→Q a m):co g step Q items [] m:=by
 have key:∀(l:List MV) (i:Nat) (a:List MV) (m:MS),i+l.length=items.length→items.drop i=l→I i a m→co g step Q l a m:=by
  intro l
  induction l with
  | nil=>
   intro i a m hl e hI
   have hl:i=items.length:=hl
   subst hl
   rw [jf]
   exact ⟨hg _ _ m hI,hend a m hI⟩
  | cons x l ih=>
   intro i a m hl e hI
   rw [List.length_cons] at hl
   have hlt:i<items.length:=n1 (Nat.le_of_eq hl) (by simp +arith only)
   have e':=List.drop_eq_getElem_cons hlt
   rw [e] at e'
   obtain ⟨e1,e2⟩:=List.cons.inj e'
   rw [eJ]
   exact ⟨hg i a m hI,hstep i x a m _ (by rw [List.getElem?_eq_getElem hlt,e1]) hI (fun y m' h'=>ih (i+1) _ m' (by lia) e2.symm h') fun m' h'=>ih (i+1) _ m' (by lia) e2.symm h'⟩
 exact key items 0 [] m (by simp) (by simp) h0
theorem rT {σ:Type}(st:σ→MS)(I:σ→Prop){g:Gd}{step:MV→(Option MV→MS→Prop)→MS→Prop}{Q:List MV→MS→Prop}{items:List MV}{m:MS}(w:σ)(e0:m=st w)(h0:I w)(hg:∀w,I w→aQ g (st w).heap)
  (hstep:∀(i:Nat) x w (P:Option MV→MS→Prop),items[i]?=some x→I w→(∀y w,I w→P (some y) (st w))→(∀w,I w→P none (st w))→step x P (st w)) (hend:∀a w,I w→Q a (st w)):co g step Q items [] m:=by
 refine dg (fun i a m=>∃w,m=st w∧I w) ⟨w,e0,h0⟩ (fun i a m hI=>?_) (fun i x a m P hx hI h1 h2=>?_) (fun a m hI=>?_)
 ·obtain ⟨w,rfl,h⟩:=hI;exact hg w h
 ·obtain ⟨w,rfl,h⟩:=hI;exact hstep i x w P hx h (fun y w h=>h1 y _ ⟨w,rfl,h⟩) fun w h=>h2 _ ⟨w,rfl,h⟩
 ·obtain ⟨w,rfl,h⟩:=hI;exact hend a w h
theorem gE (st:Option MV→MS)(acc:Nat→List MV){g:Gd}{step:MV→(Option MV→MS→Prop)→MS→Prop}{Q:List MV→MS→Prop}{items:List MV}{m:MS}(w:Option MV)(e0:m=st w)(a0:acc 0=[])(hg:∀w,aQ g (st w).heap)
  (hstep:∀i x w (P:Option MV→MS→Prop),items[i]?=some x→(∀y w,acc (i+1)=acc i++[y]→P (some y) (st w))→(∀w,acc (i+1)=acc i→P none (st w))→step x P (st w)) (hend:∀w,Q (acc items.length) (st w)):co g step Q items [] m:=by
 refine dg (fun i a m=>∃w,m=st w∧a=acc i) ⟨w,e0,a0.symm⟩ (fun i a m hI=>?_) (fun i x a m P hx hI h1 h2=>?_) (fun a m hI=>?_)
 ·obtain ⟨w,rfl,_⟩:=hI;exact hg w
 ·obtain ⟨w,rfl,rfl⟩:=hI;exact hstep i x w P hx (fun y w e=>h1 y _ ⟨w,rfl,e.symm⟩) fun w e=>h2 _ ⟨w,rfl,e.symm⟩
 ·obtain ⟨w,rfl,rfl⟩:=hI;exact hend w
theorem z8 {σ:Type}(st:σ→MS)(I:Nat→List MV→σ→Prop){g:Gd}{step:MV→(Option MV→MS→Prop)→MS→Prop}{Q:List MV→MS→Prop}{items:List MV}{m:MS}(w:σ)(e0:m=st w)(h0:I 0 [] w)(hg:∀i a w,I i a w→aQ g (st w).heap)
  (hstep:∀i x a w (P:Option MV→MS→Prop),items[i]?=some x→I i a w→(∀y w,I (i+1) (a++[y]) w→P (some y) (st w))→(∀w,I (i+1) a w→P none (st w))→step x P (st w)) (hend:∀a w,I items.length a w→Q a (st w)):co g step Q items [] m:=by
 refine dg (fun i a m=>∃w,m=st w∧I i a w) ⟨w,e0,h0⟩ (fun i a m hI=>?_) (fun i x a m P hx hI h1 h2=>?_) (fun a m hI=>?_)
 ·obtain ⟨w,rfl,h⟩:=hI;exact hg i a w h
 ·obtain ⟨w,rfl,h⟩:=hI;exact hstep i x a w P hx h (fun y w h=>h1 y _ ⟨w,rfl,h⟩) fun w h=>h2 _ ⟨w,rfl,h⟩
 ·obtain ⟨w,rfl,h⟩:=hI;exact hend a w h
theorem jr {hp:List MO}{r:Nat}{xs:List MV}(e:hp[r]?=some (.list xs)):mE .extend (.ref r) hp=true:=by
 show (sK r hp[r]?).isSome=true;rw [e];rfl
theorem ap {α:Type}{rs:List α}{j:Nat}{r:α}(e:rs[j]?=some r):rs.take (j+1)=rs.take j++[r]:=by
 rw [List.take_add_one,e];rfl
noncomputable abbrev sgs:List (List Nat):=[[43],[45],[42],[47],[60],[61]]
theorem Dt:∀s∈sgs,okS s:=by unfold okS;decide
theorem rU {c:Nat}(h:cO c):sgs.contains [c]=true∧okS [c]:=by
 rcases h with rfl | rfl | rfl | rfl | rfl | rfl<;>exact ⟨rfl,by unfold okS;decide⟩
end Internal
end
section
namespace Internal
variable {Q:MV→List MO→Prop}{X:XT}{h:List MO}
variable {K:KT}(hK:aK PP K)
include hK
theorem z9 {n:Nat}{k b:Int}(h0:0≤k)(h1:k≤b)(hq:Q (.bool true) h):K (n+1) 22 [.int k,.int b] Q X h:=by
 refine hK _ _ _ _ _ _ jG rfl rfl ?_
 conv=>whnf
 rw [decide_eq_true h0]
 conv=>whnf
 rw [decide_eq_true h1]
 exact hq
theorem xw {n:Nat}{k:Int}(h0:0≤k∧k<1000000)(hq:Q (.bool true) h):K (n+2) 23 [.int k] Q X h:=by
 refine hK _ _ _ _ _ _ iC rfl rfl ?_
 exact z9 hK h0.1 (z1 h0.2 (by simp +arith only)) hq
omit hK in
theorem Du {s:List Nat}(h:∀c∈s,c<128):s.all (fun c=>decide (c<128))=true:=List.all_eq_true.mpr fun c hc=>decide_eq_true (h c hc)
omit hK in
theorem xx {s:List Nat}{hp:List MO}(h:∀c∈s,c<128):cj .val [.str s] hp=some (s.map (fun c=>.str [c]),none):=by
 show (match s.all (fun c=>decide (c<128)) with
  | true=>some (s.map (fun c=>MV.str [c]),none)
  | false=>none)=_
 rw [Du h]
omit hK in
theorem xy {s:List Nat}{i:Nat}{x:MV}(e:(s.map (fun c=>MV.str [c]))[i]?=some x):∃c∈s,x=.str [c]:=by
 obtain ⟨c,h1,h2⟩:=List.getElem?_map ..▸e |> Option.map_eq_some_iff.mp
 exact ⟨c,List.mem_of_getElem? h1,h2.symm⟩
omit hK in
theorem xA {s:List Nat}(h:s≠[]):s[0]?=some (s.headD 0):=by
 cases s with
 | nil=>exact absurd rfl h
 | cons=>rfl
noncomputable abbrev Dv:List Nat:=[48,49,50,51,52,53,54,55,56,57]
omit hK in
theorem t5:∀c∈jO,abc.contains c=true∨Dv.contains c=true:=by decide
theorem lP {n:Nat}{s:List Nat}(hs:Gn s)(hq:Q (.bool true) h):K (n+1) 24 [.str s] Q X h:=by
 have hp:0<s.length:=List.length_pos_iff.mpr hs.1.1
 have h8:=hs.1.2.1
 refine hK _ _ _ _ _ _ lF rfl rfl ?_
 conv=>whnf
 rw [decide_eq_true (show (1:Int)≤s.length by lia)]
 conv=>whnf
 rw [decide_eq_true (show (s.length:Int)≤8 by lia)]
 show InP _ _ (kws.map .str) _
 refine bB hs.1.ok qN ?_
 rw [show kws.contains s=false by simpa using hs.2]
 refine az (aL (by decide) (jT hp)) (show s[(0:Int).toNat]?=some (s.headD 0) from xA hs.1.1) ?_
 conv=>whnf
 rw [show abc.contains (s.headD 0)=true by simpa using hs.1.2.2.2]
 refine aG (xx fun c hc=>po c (hs.1.2.2.1 c hc)) ?_
 refine lH (fun i m=>m.heap=h∧∃w,m.vars=[some (.str s),w]) (fun _ _=>False) ⟨rfl,_,rfl⟩ (fun _ _ _=>trivial) (fun i y m P hy hI hn _ _=>?_) (fun m hI=>?_) (fun _ _ h=>h.elim)
 ·obtain ⟨c,hc,rfl⟩:=xy hy
  obtain ⟨vars,hp⟩:=m
  obtain ⟨rfl,w,rfl⟩:=hI
  conv=>whnf
  have h2:=t5 c (hs.1.2.2.1 c hc)
  cases h3:abc.contains c with
  | true=>exact hn _ ⟨rfl,_,rfl⟩
  | false=>
   conv=>whnf
   rw [h2.resolve_left (by rw [h3];decide)]
   exact hn _ ⟨rfl,_,rfl⟩
 ·obtain ⟨vars,hp⟩:=m
  obtain ⟨rfl,w,rfl⟩:=hI
  exact hq
end Internal
end
section
namespace Internal
noncomputable def holds (l:Bool)(n:Nat)(hp:List MO)(u:MV)(xs:List MV):Prop:=match l with
 | false=>u=.tup xs
 | true=>∃i,n≤i∧u=.ref i∧hp[i]?=some (.list xs)
mutual
noncomputable def Rw.is (l:Bool)(n:Nat)(hp:List MO):Rw→MV→Prop
 | .set s t,x=>x=.tup [.str cW,.str s,t.mv]
 | .tell t,x=>x=.tup [.str iU,t.mv]
 | .skip,x=>x=.tup [.str rR]
 | .ite t a b,x=>∃u v,x=.tup [.str wIf,t.mv,u,v]∧(∃xs,holds l n hp u xs∧cB l n hp a xs)∧∃xs,holds l n hp v xs∧cB l n hp b xs
 | .wh t a,x=>∃u,x=.tup [.str fi,t.mv,u]∧∃xs,holds l n hp u xs∧cB l n hp a xs
noncomputable def cB (l:Bool)(n:Nat)(hp:List MO):List Rw→List MV→Prop
 | [],xs=>xs=[]
 | r::rs,xs=>∃y ys,xs=y::ys∧r.is l n hp y∧cB l n hp rs ys
end
noncomputable def cH (l:Bool)(n:Nat)(hp:List MO)(rs:List Rw)(u:MV):Prop:=∃xs,holds l n hp u xs∧cB l n hp rs xs
noncomputable def t6 (n n':Nat)(hp hp':List MO):Prop:=n'≤n∧∀i o,n≤i→hp[i]?=some o→hp'[i]?=some o
theorem t6.pre {n:Nat}{hp hp':List MO}(e:hp<+:hp'):t6 n n hp hp':=⟨Nat.le_refl _,fun _ _ _ h=>ag e h⟩
section
variable {l:Bool}{n n':Nat}{hp hp':List MO}
theorem holds.up {u:MV}{xs:List MV}(h:holds l n hp u xs)(e:t6 n n' hp hp'):holds l n' hp' u xs:=by
 cases l with
 | false=>exact h
 | true=>obtain ⟨i,h0,h1,h2⟩:=h;exact ⟨i,Nat.le_trans e.1 h0,h1,e.2 i _ h0 h2⟩
mutual
theorem Rw.is_up (e:t6 n n' hp hp'):∀(r:Rw) (x:MV),r.is l n hp x→r.is l n' hp' x
 | .set s t,x,h=>h
 | .tell t,x,h=>h
 | .skip,x,h=>h
 | .ite t a b,x,h=>by
  obtain ⟨u,v,h1,⟨xs,h2,h3⟩,ys,h4,h5⟩:=h
  exact ⟨u,v,h1,⟨xs,h2.up e,dC e a xs h3⟩,ys,h4.up e,dC e b ys h5⟩
 | .wh t a,x,h=>by
  obtain ⟨u,h1,xs,h2,h3⟩:=h
  exact ⟨u,h1,xs,h2.up e,dC e a xs h3⟩
theorem dC (e:t6 n n' hp hp'):∀(rs:List Rw) (xs:List MV),cB l n hp rs xs→cB l n' hp' rs xs
 | [],xs,h=>h
 | r::rs,xs,h=>by
  obtain ⟨y,ys,h1,h2,h3⟩:=h
  exact ⟨y,ys,h1,r.is_up e y h2,dC e rs ys h3⟩
end
theorem cH.stay {rs:List Rw}{u:MV}(h:cH l n hp rs u)(e:t6 n n' hp hp'):cH l n' hp' rs u:=let ⟨xs,h1,h2⟩:=h;⟨xs,h1.up e,dC e rs xs h2⟩
theorem cH.up {rs:List Rw}{u:MV}(h:cH l n hp rs u)(e:hp<+:hp'):cH l n hp' rs u:=h.stay (.pre e)
theorem rV:∀{rs:List Rw}{xs:List MV},cB l n hp rs xs→xs.length=rs.length
 | [],xs,h=>by have h:xs=[]:=h;rw [h];rfl
 | r::rs,xs,h=>by
  obtain ⟨y,ys,h1,_,h3⟩:=h
  rw [h1];exact congrArg (·+1) (rV h3)
theorem n6:∀{rs:List Rw}{xs:List MV},cB l n hp rs xs→∀{j:Nat}{x:MV},xs[j]?=some x→∃r,rs[j]?=some r∧r.is l n hp x
 | [],xs,h,j,x,e=>by have h:xs=[]:=h;rw [h] at e;cases e
 | r::rs,xs,h,j,x,e=>by
  obtain ⟨y,ys,rfl,h2,h3⟩:=h
  cases j with
  | zero=>cases e;exact ⟨r,rfl,h2⟩
  | succ j=>exact n6 h3 e
mutual
theorem pu:∀(r:Rw),r.is false n hp r.mv
 | .set s t=>rfl
 | .tell t=>rfl
 | .skip=>rfl
 | .ite t a b=>⟨_,_,rfl,⟨_,rfl,gF a⟩,_,rfl,gF b⟩
 | .wh t a=>⟨_,rfl,_,rfl,gF a⟩
theorem gF:∀(rs:List Rw),cB false n hp rs (mvs rs)
 | []=>rfl
 | r::rs=>⟨_,_,rfl,pu r,gF rs⟩
end
theorem pv {u:MV}{xs:List MV}(h:holds l n hp u xs):∃g,∀hp',hp<+:hp'→cj .val [u] hp'=some (xs,g)∧aQ g hp':=by
 cases l with
 | false=>have h:u=.tup xs:=h;subst h;exact ⟨none,fun _ _=>⟨rfl,trivial⟩⟩
 | true=>obtain ⟨i,_,rfl,h2⟩:=h;exact ⟨_,fun hp' e=>⟨aF (ag e h2),ag e h2⟩⟩
end
end Internal
end
section
namespace Internal
noncomputable def an:Tm→List (List Nat)
 | .num _=>[]
 | .nm s=>[s]
 | .op _ a b=>an a++an b
theorem cC:∀t:Tm,(an t).length≤t.lv
 | .num _=>Nat.zero_le _
 | .nm _=>Nat.le_refl _
 | .op c a b=>by
  have h1:=cC a
  have h2:=cC b
  show (an a++an b).length≤a.lv+b.lv
  rw [List.length_append];exact n2 h2 h1 (by simp +arith only)
theorem qP (l:List (List Nat)):(aS l).Nodup:=(kb l).imp fun h q=>by subst q;exact List.lt_irrefl _ h
theorem iW {l t:List (List Nat)}(h:∀x∈l,x∈t):(aS l).length≤t.length:=fg _ _ (qP l) fun x hx=>h x (aE.mp hx)
theorem Tm.good.lv {t:Tm}(h:t.good):t.lv≤8:=Nat.le_trans t.lv_le (Nat.pow_le_pow_right (j:=3) (by decide) h.2)
variable {K:KT}(hK:aK PP K)
include hK
theorem Aa {p:List Nat→Prop}:∀(t:Tm) {N:Nat}{Q:MV→List MO→Prop}{X:XT}{h:List MO},t.deep<N→t.ok p→t.lv≤1000→
  (∀r h',h<+:h'→h'[r]?=some (.list ((an t).map .str))→Q (.ref r) h')→K N 0 [t.mv] Q X h
 | .num k,N,Q,X,h,hN,ht,hl,hq=>by
  obtain ⟨M,rfl,hM⟩:=room hN
  refine hK _ _ _ _ _ _ de rfl rfl ?_
  exact hq _ _ (aa (ai _)) (ac _ _)
 | .nm s,N,Q,X,h,hN,ht,hl,hq=>by
  obtain ⟨M,rfl,hM⟩:=room hN
  refine hK _ _ _ _ _ _ de rfl rfl ?_
  exact hq _ _ (aa (ai _)) (ac _ _)
 | .op c a b,N,Q,X,h,hN,ht,hl,hq=>by
  have hN:max a.deep b.deep+1<N:=hN
  have hl:a.lv+b.lv≤1000:=hl
  obtain ⟨M,rfl,hM⟩:=room hN
  obtain ⟨hc,ha,hb⟩:=ht
  have ea:=cC a
  have eb:=cC b
  refine hK _ _ _ _ _ _ de rfl rfl ?_
  conv=>whnf
  rw [show ([c]==tY)=false by simp]
  conv=>whnf
  rw [show ([c]==lN)=false by simp]
  refine Aa a (n2 hN (Nat.le_max_left a.deep b.deep) (by simp +arith only)) ha (n1 hl (by simp +arith only)) fun r1 h1 p1 e1=>?_
  refine Aa b (n2 hN (Nat.le_max_right a.deep b.deep) (by simp +arith only)) hb (n1 hl (by simp +arith only)) fun r2 h2 p2 e2=>?_
  conv=>whnf
  dsimp only
  rw [ag p2 e1,e2]
  refine ⟨bU (n3 eb ea hl (by simp +arith only)),?_⟩
  exact hq _ _ (aa (List.IsPrefix.trans p1 p2)) (cA _ _ _)
theorem lQ {p:List Nat→Prop}{t:Tm}{N:Nat}{Q:MV→List MO→Prop}{X:XT}{h:List MO}(hN:t.deep+1<N)(ht:t.ok p)(hl:t.lv≤60)
  (hq:∀r h',h<+:h'→h.length≤r→h'[r]?=some (.list ((aS (an t)).map .str))→Q (.ref r) h'):K N 1 [t.mv] Q X h:=by
 obtain ⟨M,rfl,hM⟩:=room hN
 refine hK _ _ _ _ _ _ jH rfl rfl ?_
 refine Aa hK t (hM) ht (Nat.le_trans hl (nb rfl)) fun r1 h1 p1 e1=>?_
 have p1:h<+:h1:=p1
 conv=>whnf
 dsimp only
 rw [e1]
 have e1:=cC t
 have e2:(aS (an t)).length≤(an t).length:=iW fun x hx=>hx
 exact .mk (an t) rfl (n3 e2 e1 hl (by simp +arith only)) (n2 e1 hl (by simp +arith only)) (hq _ _ (aa p1) p1.length_le (ac _ _))
theorem n7:∀(t:Tm) {N:Nat}{d:Int}{Q:MV→List MO→Prop}{X:XT}{h:List MO},t.ok Gn→d+t.deep≤12→t.deep+2<N→Q .none h→K N 55 [t.mv,.int d] Q X h
 | .num k,N,d,Q,X,h,ht,hd,hN,hq=>by
  obtain ⟨M,rfl,hM⟩:=room hN
  obtain ⟨M,rfl⟩:∃M',M=M'+2:=⟨M-2,sb hM⟩
  have hd:¬ 12<d:=dn (n:=0) hd
  refine hK _ _ _ _ _ _ cb rfl rfl ?_
  conv=>whnf
  rw [decide_eq_false hd]
  exact xw hK ht hq
 | .nm s,N,d,Q,X,h,ht,hd,hN,hq=>by
  obtain ⟨M,rfl,hM⟩:=room hN
  obtain ⟨M,rfl⟩:∃M',M=M'+1:=⟨M-1,sb (n1 hN (by simp +arith only))⟩
  have hd:¬ 12<d:=dn (n:=0) hd
  refine hK _ _ _ _ _ _ cb rfl rfl ?_
  conv=>whnf
  rw [decide_eq_false hd]
  exact lP hK ht hq
 | .op c a b,N,d,Q,X,h,ht,hd,hN,hq=>by
  have hN:max a.deep b.deep+1+2<N:=hN
  have hd:d+(max a.deep b.deep+1:Nat)≤12:=hd
  obtain ⟨M,rfl,hM⟩:=room hN
  obtain ⟨hc,ha,hb⟩:=ht
  refine hK _ _ _ _ _ _ cb rfl rfl ?_
  conv=>whnf
  rw [decide_eq_false (dn hd)]
  show InP _ _ (sgs.map .str) _
  refine bB (rU hc).2 Dt ?_
  rw [(rU hc).1]
  refine n7 a ha (dl hd).1 (n2 hN (Nat.le_max_left a.deep b.deep) (by simp +arith only)) ?_
  exact n7 b hb (dl hd).2 (n2 hN (Nat.le_max_right a.deep b.deep) (by simp +arith only)) hq
end Internal
end
section
namespace Internal
variable {Q:MV→List MO→Prop}{X:XT}{h:List MO}
noncomputable def Rw.subs:Rw→List (List Rw)
 | .ite _ a b=>[a,b]
 | .wh _ a=>[a]
 | _=>[]
mutual
theorem Dw {P:List Rw→Prop}(h:∀rs,(∀r∈rs,∀b∈r.subs,P b)→P rs):∀(r:Rw),∀b∈r.subs,P b
 | .set _ _,b,hb=>by cases hb
 | .tell _,b,hb=>by cases hb
 | .skip,b,hb=>by cases hb
 | .ite _ x y,b,hb=>by
  rcases List.mem_cons.mp hb with e | hb
  ·rw [e];exact h x (iX h x)
  ·rw [List.mem_singleton.mp hb];exact h y (iX h y)
 | .wh _ x,b,hb=>by rw [List.mem_singleton.mp hb];exact h x (iX h x)
theorem iX {P:List Rw→Prop}(h:∀rs,(∀r∈rs,∀b∈r.subs,P b)→P rs):∀(rs:List Rw),∀r∈rs,∀b∈r.subs,P b
 | [],r,hr=>by cases hr
 | q::rs,r,hr=>by
  rcases List.mem_cons.mp hr with e | hr
  ·rw [e];exact Dw h q
  ·exact iX h rs r hr
end
theorem fU {P:List Rw→Prop}(h:∀rs,(∀r∈rs,∀b∈r.subs,P b)→P rs)(rs:List Rw):P rs:=h rs (iX h rs)
theorem eu {r:Rw}:∀b∈r.subs,aB b<r.nest:=by
 cases r with
 | ite t x y=>
  intro b hb
  show aB b<max (aB x) (aB y)+1
  rcases List.mem_cons.mp hb with rfl | hb
  ·exact n1 (Nat.le_max_left (aB b) (aB y)) (by simp +arith only)
  ·rw [List.mem_singleton.mp hb];exact n1 (Nat.le_max_right (aB x) (aB y)) (by simp +arith only)
 | wh t x=>intro b hb;rw [List.mem_singleton.mp hb];exact Nat.lt_succ_self _
 | _=>intro b hb;cases hb
theorem pC {r:Rw}(h:r.good):∀b∈r.subs,dT b:=by
 cases r with
 | ite t x y=>
  intro b hb
  rcases List.mem_cons.mp hb with rfl | hb
  ·exact h.2.1
  ·rw [List.mem_singleton.mp hb];exact h.2.2
 | wh t x=>intro b hb;rw [List.mem_singleton.mp hb];exact h.2
 | _=>intro b hb;cases hb
theorem js {r:Rw}:∀b∈r.subs,(lns b).length≤r.lines.length:=by
 cases r with
 | ite t x y=>
  intro b hb
  show (lns b).length≤((_:List Nat)::(lns x++m7::(lns y++[mz]))).length
  simp only [List.length_cons,List.length_append]
  rcases List.mem_cons.mp hb with rfl | hb
  ·exact by simp +arith only
  ·rw [List.mem_singleton.mp hb];exact by simp +arith only
 | wh t x=>
  intro b hb
  rw [List.mem_singleton.mp hb]
  show (lns x).length≤((_:List Nat)::(lns x++[mz])).length
  simp only [List.length_cons,List.length_append];exact by simp +arith only
 | _=>intro b hb;cases hb
theorem m8:∀{rs:List Rw},∀r∈rs,r.lines.length≤(lns rs).length
 | q::rs,r,hr=>by
  show _≤(q.lines++lns rs).length
  rw [List.length_append]
  rcases List.mem_cons.mp hr with rfl | hr
  ·exact by simp +arith only
  ·have:=m8 r hr;exact n1 this (by simp +arith only)
section
variable {l:Bool}{n n':Nat}{hp hp':List MO}
noncomputable def kg (l:Bool)(n:Nat)(hp:List MO):List (List Rw)→List MV→Prop
 | [],us=>us=[]
 | b::bs,us=>∃u vs,us=u::vs∧cH l n hp b u∧kg l n hp bs vs
theorem iY:∀{bs:List (List Rw)}{us:List MV},kg l n hp bs us→∀{j:Nat}{u:MV},us[j]?=some u→∃b,bs[j]?=some b∧cH l n hp b u
 | [],us,h,j,u,e=>by have h:us=[]:=h;rw [h] at e;cases e
 | b::bs,us,h,j,u,e=>by
  obtain ⟨y,ys,rfl,h2,h3⟩:=h
  cases j with
  | zero=>cases e;exact ⟨b,rfl,h2⟩
  | succ j=>exact iY h3 e
theorem lR:∀{bs:List (List Rw)}{us:List MV},kg l n hp bs us→us.length=bs.length
 | [],us,h=>by have h:us=[]:=h;rw [h];rfl
 | b::bs,us,h=>by
  obtain ⟨y,ys,rfl,h2,h3⟩:=h
  exact congrArg (·+1) (lR h3)
inductive mB (l:Bool)(n:Nat)(hp:List MO):Rw→MV→Prop
 | set (s t):mB l n hp (.set s t) (.tup [.str cW,.str s,t.mv])
 | tell (t):mB l n hp (.tell t) (.tup [.str iU,t.mv])
 | skip:mB l n hp .skip (.tup [.str rR])
 | ite {t a b u v}:cH l n hp a u→cH l n hp b v→mB l n hp (.ite t a b) (.tup [.str wIf,t.mv,u,v])
 | wh {t a u}:cH l n hp a u→mB l n hp (.wh t a) (.tup [.str fi,t.mv,u])
theorem jP {r:Rw}{x:MV}(h:r.is l n hp x):mB l n hp r x:=by
 cases r with
 | set s t=>have h:x=_:=h;subst h;exact .set s t
 | tell t=>have h:x=_:=h;subst h;exact .tell t
 | skip=>have h:x=_:=h;subst h;exact .skip
 | ite t a b=>obtain ⟨u,v,rfl,h1,h2⟩:=h;exact .ite h1 h2
 | wh t a=>obtain ⟨u,rfl,h1⟩:=h;exact .wh h1
end
noncomputable def Rw.fm:Rw→MV
 | .set _ t=>t.mv
 | .tell t=>t.mv
 | .skip=>.none
 | .ite t _ _=>t.mv
 | .wh t _=>t.mv
variable {K:KT}(hK:aK PP K)
include hK
theorem lS {r:Rw}{x:MV}{l:Bool}{n N:Nat}(hx:mB l n h r x)(hN:0<N)(hq:∀us,kg l n h r.subs us→Q (.ref h.length) (h++[.list us])):K N 25 [x] Q X h:=by
 obtain ⟨M,rfl,hM⟩:=room hN
 refine hK _ _ _ _ _ _ iE rfl rfl ?_
 cases hx with
 | set s t=>exact hq [] rfl
 | tell t=>exact hq [] rfl
 | skip=>exact hq [] rfl
 | @ite t a b u v h1 h2=>exact hq [u,v] ⟨u,[v],rfl,h1,v,[],rfl,h2,rfl⟩
 | @wh t a u h1=>exact hq [u] ⟨u,[],rfl,h1,rfl⟩
theorem rX {r:Rw}{x:MV}{l:Bool}{n N:Nat}(hx:mB l n h r x)(hN:0<N)(hq:Q r.fm h):K N 26 [x] Q X h:=by
 obtain ⟨M,rfl,hM⟩:=room hN
 refine hK _ _ _ _ _ _ gS rfl rfl ?_
 cases hx<;>exact hq
theorem n8 {l:Bool}{n N:Nat}{u:MV}{xs:List MV}(hu:holds l n h u xs)(hN:0<N)(hq:Q (.bool true) h):K N 56 [u] Q X h:=by
 obtain ⟨M,rfl,hM⟩:=room hN
 refine hK _ _ _ _ _ _ jI rfl rfl ?_
 cases l with
 | false=>have hu:u=_:=hu;subst hu;exact hq
 | true=>
  obtain ⟨i,_,rfl,e⟩:=hu
  conv=>whnf
  dsimp only [cZ]
  rw [show jU h (.ref i) .list=some true from congrArg (tyO · .list) e,show jU h (.ref i) .tuple=some false from congrArg (tyO · .tuple) e]
  exact hq
omit hK in
theorem qQ {n:Nat}:(List.replicate n true).all id=true:=List.all_eq_true.mpr fun x hx=>by rw [List.eq_of_mem_replicate hx];rfl
theorem xB {r:Rw}{x:MV}{l:Bool}{n N:Nat}{X:XM}(hx:mB l n h r x)(hN:0<N){w:Option MV}(hq:∀h',h<+:h'→Q (.bool true) h') :
  wpS K N (.ret (.blt .all [.comp (.call 56 [.var 1]) [1] false .val [.call 25 [.var 0]] []])) (fin Q) X ⟨[some x,w],h⟩:=by
 refine lS hK hx hN fun us hus=>?_
 conv=>whnf
 dsimp only
 rw [aF (ac _ _)]
 refine dg (fun j a m=>∃w,m.vars=[some x,w]∧a=(List.replicate j true).map .bool∧m.heap=h++[.list us]) ⟨_,rfl,rfl,rfl⟩ (fun _ _ m hI=>by obtain ⟨_,_,_,e⟩:=hI;rw [e];exact ac _ _) (fun j y a m P hy hI h1 h2=>?_) (fun a m hI=>?_)
 ·obtain ⟨vars,hp⟩:=m
  obtain ⟨w,rfl,rfl,rfl⟩:=hI
  obtain ⟨b,_,xs,hb,_⟩:=iY hus hy
  exact n8 hK (hb.up (.pre (aa (ai _)))) hN (h1 _ _ ⟨_,rfl,by rw [List.replicate_succ',List.map_append];rfl,rfl⟩)
 ·obtain ⟨vars,hp⟩:=m
  obtain ⟨w,rfl,rfl,rfl⟩:=hI
  conv=>whnf
  rw [ac]
  have:=lR hus
  have h2:r.subs.length≤2:=by cases r<;>first | exact Nat.le_refl _ | exact Nat.le_succ _ | exact Nat.zero_le _
  exact .mk _ rfl (by rw [List.length_replicate];exact n2 h2 (Nat.le_of_eq this) (by simp +arith only)) (by rw [qQ];exact hq _ (aa (aa (ai _))))
theorem Dx {r:Rw}{x:MV}{l:Bool}{n N:Nat}(hg:r.good)(hx:mB l n h r x)(hN:1<N)(hq:∀h',h<+:h'→Q (.bool true) h'):K N 57 [x] Q X h:=by
 obtain ⟨M,rfl,hM⟩:=room hN
 refine hK _ _ _ _ _ _ jJ rfl rfl ?_
 have fin:=xB hK (X:=fun c m=>X c m.heap) (w:=none) hx hM hq
 obtain ⟨M,rfl,_⟩:=room hM
 cases hx with
 | set s t=>exact lP hK hg.1 fin
 | tell t=>exact fin
 | skip=>exact fin
 | ite h1 h2=>exact fin
 | wh h1=>exact fin
end Internal
end
section
namespace Internal
variable {K:KT}
noncomputable def NB (K:KT)(rs:List Rw):Prop:=∀{l:Bool}{u:MV}{N:Nat}{d:Int}{Q:MV→List MO→Prop}{X:XT}{h:List MO},dT rs→cH l 0 h rs u→d+aB rs≤8→aB rs+7<N→(∀h',h<+:h'→Q .none h')→K N 58 [u,.int d] Q X h
noncomputable def SB (K:KT)(rs:List Rw):Prop:=∀{l:Bool}{u:MV}{N:Nat}{Q:MV→List MO→Prop}{X:XT}{h:List MO},cH l 0 h rs u→(lns rs).length≤100000→aB rs+1<N→(∀h',h<+:h'→Q (.tup (mvs rs)) h')→K N 60 [u] Q X h
variable (hK:aK PP K)
include hK
theorem Ab (rs:List Rw)(ih:∀r∈rs,∀b∈r.subs,NB K b):NB K rs:=by
 intro l u N d Q X h hg hu hd hN hq
 obtain ⟨xs,h1,h2⟩:=hu
 obtain ⟨M,rfl,hM⟩:=room hN
 refine hK _ _ _ _ _ _ iG rfl rfl ?_
 conv=>whnf
 dsimp only [cZ]
 obtain ⟨g,e1⟩:=pv h1
 refine aG ((e1 _ (ai _)).1) ?_
 refine nW (fun j w2 w3 hp=>⟨[some u,some (.int d),w2,w3],hp⟩) (fun j w2 w3 hp=>h<+:hp)
  _ _ _ rfl (ai _) (fun _ _ _ _ h=>(e1 _ h).2) (fun j x w2 w3 hp P hx hI hn _=>?_) (fun w2 w3 hp hI=>?_)
 ·have hp1:=hI
  obtain ⟨r,hr,hr2⟩:=n6 h2 hx
  have hmem:=List.mem_of_getElem? hr
  have gr:=gD hg r hmem
  have nr:=en (Nat.le_refl (aB rs)) r hmem
  have v:=jP (r.is_up (.pre hp1) x hr2)
  refine Dx hK gr v (n1 hN (by simp +arith only)) fun h' p'=>?_
  have p':hp<+:h':=p'
  have hp2:=hp1.trans p'
  have v':=jP (r.is_up (.pre hp2) x hr2)
  conv=>whnf
  rw [decide_eq_false (dn hd)]
  have last:wpS K M (.for_ [3] false .val [.call 25 [.var 2]] [.expr (.call 58 [.var 3,.bin .add (.var 1) (.cst (.int 1))])]) (fun f m=>match f with
    | .next=>P .next m
    | f=>P f m) (fun c m=>X c m.heap) ⟨[some u,some (.int d),some x,w3],h'⟩:=by
   refine lS hK v' (n1 hN (by simp +arith only)) fun us hus=>?_
   refine aG (aF (ac _ _)) ?_
   refine iM (fun j w3 hp=>⟨[some u,some (.int d),some x,w3],hp⟩) (fun j w3 hp=>h'++[.list us]<+:hp)
    _ _ rfl (ai _) (fun _ _ _ e=>ag e (ac _ _)) (fun j y w3 hp P hy hI hn _=>?_) (fun w3 hp hI=>?_)
   ·have hp3:=hI
    obtain ⟨b,hb,hb2⟩:=iY hus hy
    have hbm:=List.mem_of_getElem? hb
    have nb:=eu b hbm
    refine ih r hmem b hbm (pC gr b hbm) (hb2.up ((aa (ai _)).trans hp3)) (by lia) (n3 nb nr hN (by simp +arith only)) fun h'' p''=>?_
    exact hn _ _ (hp3.trans p'')
   ·have hp3:=hI
    exact hn _ _ _ (hp2.trans ((aa (ai _)).trans hp3))
  have gd:∀t:Tm,t.good→r.fm=t.mv→K M 26 [x] (fun v h=>K M 55 [v,.int 1] (fun _ h=>wpS K M (.for_ [3] false .val [.call 25 [.var 2]] [.expr (.call 58 [.var 3,.bin .add (.var 1) (.cst (.int 1))])]) (fun f m=>match f with
    | .next=>P .next m
    | f=>P f m) (fun c m=>X c m.heap) ⟨[some u,some (.int d),some x,w3],h⟩) X h) X h':=fun t ht e=>rX hK v' (n1 hN (by simp +arith only)) (by rw [e];exact n7 hK t ht.1 (by have:=ht.2;lia) (by have:=ht.2;exact n2 this hN (by simp +arith only)) last)
  cases v' with
  | set s t=>exact gd t gr.2 rfl
  | tell t=>exact gd t gr rfl
  | skip=>exact last
  | ite h1 h2=>exact gd _ gr.1 rfl
  | wh h1=>exact gd _ gr.1 rfl
 ·have hp1:=hI
  exact hq _ hp1
theorem qR (rs:List Rw):NB K rs:=fU (P:=fun rs=>NB K rs) (fun rs ih=>Ab hK rs ih) rs
theorem Ac (rs:List Rw)(ih:∀r∈rs,∀b∈r.subs,SB K b):SB K rs:=by
 intro l u N Q X h hu hz hN hq
 obtain ⟨xs,h1,h2⟩:=hu
 obtain ⟨M,rfl,hM⟩:=room hN
 have hlen:=kf rs
 refine hK _ _ _ _ _ _ lG rfl rfl ?_
 conv=>whnf
 dsimp only [cZ,MS.push,MS.set]
 have hpre:h<+:h++[.list []]:=aa (ai _)
 obtain ⟨g,e1⟩:=pv h1
 refine aG ((e1 _ hpre).1) ?_
 refine iM (fun j w hp=>⟨[some u,some (.ref h.length),w],hp⟩) (fun j w hp=>h<+:hp∧hp[h.length]?=some (.list (mvs (rs.take j))))
  _ _ rfl ⟨hpre,ac _ _⟩ (fun _ _ _ hI=>(e1 _ hI.1).2) (fun j x w hp P hx hI hn _=>?_) (fun w hp hI=>?_)
 ·obtain ⟨hp1,hp2⟩:=hI
  obtain ⟨r,hr,hr2⟩:=n6 h2 hx
  have hmem:=List.mem_of_getElem? hr
  have hj:j<rs.length:=(List.getElem?_eq_some_iff.mp hr).1
  have nr:=en (Nat.le_refl (aB rs)) r hmem
  have lr:=m8 r hmem
  have put:∀h',hp<+:h'→(mvs (rs.take j)).length<line∧P .next ⟨[some u,some (.ref h.length),some x],h'.set h.length (.list (mvs (rs.take j)++[r.mv]))⟩:=fun h' p'=>by
   refine ⟨by rw [bt];exact Nat.lt_of_lt_of_le (Nat.lt_of_le_of_lt (List.length_take_le j rs) hj) (Nat.le_trans hlen (Nat.le_trans hz (aI (nb rfl)))),?_⟩
   refine hn _ _ ⟨aM (hp1.trans p') (Nat.le_refl _),?_⟩
   rw [ap hr,cz];exact get_set (ag p' hp2)
  have app:∀h',hp<+:h'→onL (lst (.ref h.length) h') fun k xs=>xs.length<line∧P .next ⟨[some u,some (.ref h.length),some x],h'.set k (.list (xs++[r.mv]))⟩:=fun h' p'=>by
   rw [aW (ag p' hp2)];exact put h' p'
  cases jP (r.is_up (.pre hp1) x hr2) with
  | set s t=>
   refine ay (aA hp2) ?_
   exact app hp (ai _)
  | tell t=>
   refine ay (aA hp2) ?_
   exact app hp (ai _)
  | skip=>
   refine ay (aA hp2) ?_
   exact app hp (ai _)
  | @ite t a b va vb ha hb=>
   have na:=eu (r:=.ite t a b) a (.head _)
   have nb:=eu (r:=.ite t a b) b (.tail _ (.head _))
   have la:=js (r:=.ite t a b) a (.head _)
   have lb:=js (r:=.ite t a b) b (.tail _ (.head _))
   refine ay (aA hp2) ?_
   refine ih _ hmem a (.head _) ha (n3 la lr hz (by simp +arith only)) (n3 na nr hN (by simp +arith only)) fun h3 p3=>?_
   refine ih _ hmem b (.tail _ (.head _)) (hb.up p3) (n3 lb lr hz (by simp +arith only)) (n3 nb nr hN (by simp +arith only)) fun h4 p4=>?_
   exact app h4 (List.IsPrefix.trans p3 p4)
  | @wh t a va ha=>
   have na:=eu (r:=.wh t a) a (.head _)
   have la:=js (r:=.wh t a) a (.head _)
   refine ay (aA hp2) ?_
   refine ih _ hmem a (.head _) ha (n3 la lr hz (by simp +arith only)) (n3 na nr hN (by simp +arith only)) fun h3 p3=>?_
   exact app h3 p3
 ·obtain ⟨hp1,hp2⟩:=hI
  rw [rV h2,List.take_length] at hp2
  refine af hp2 ?_
  exact hq _ hp1
theorem t7 (rs:List Rw):SB K rs:=fU (P:=fun rs=>SB K rs) (fun rs ih=>Ac hK rs ih) rs
theorem jQ {l:Bool}{u:MV}{i N:Nat}{ss ks:List (List Nat)}{Q:MV→List MO→Prop}{X:XT}{h:List MO}(hu:holds l 0 h u (ss.map .str))(hi:h[i]?=some (.list (ks.map .str)))(hne:u≠.ref i)(hs:∀s∈ss,Gn s)(hks:∀s∈ks,Gn s)(hnd:(ks++ss).Nodup)(hz:ks.length+ss.length≤100000)(hN:1<N)
  (hq:Q .none (h.set i (.list ((ks++ss).map .str)))):K N 59 [u,.ref i] Q X h:=by
 obtain ⟨M,rfl,hM⟩:=room hN
 refine hK _ _ _ _ _ _ gT rfl rfl ?_
 refine n8 hK hu (hM) ?_
 conv=>whnf
 have e1:∃g,∀o,cj .val [u] (h.set i o)=some (ss.map .str,g)∧aQ g (h.set i o):=by
  cases l with
  | false=>have hu:u=_:=hu;subst hu;exact ⟨none,fun o=>⟨rfl,trivial⟩⟩
  | true=>
   obtain ⟨j,_,rfl,e⟩:=hu
   have:i≠j:=fun q=>hne (by rw [q])
   exact ⟨_,fun o=>⟨aF (ao this e),ao this e⟩⟩
 obtain ⟨g,e1⟩:=e1
 have h0:h=h.set i (.list (ks.map .str)):=by
  obtain ⟨hlt,e⟩:=List.getElem?_eq_some_iff.mp hi
  rw [←e,List.set_getElem_self]
 dsimp only [cZ]
 have e2:=(e1 (.list (ks.map .str))).1
 rw [←h0] at e2
 refine aG e2 ?_
 refine jo (fun j w=>⟨[some u,some (.ref i),w],h.set i (.list ((ks++ss.take j).map .str))⟩) (fun j w=>True)
  _ (by rw [List.take_zero,List.append_nil,←h0];rfl) trivial (fun _ _ _=>(e1 _).2) (fun j x w P hx hI hn _=>?_) (fun w hI=>?_)
 ·skip
  obtain ⟨s,hs1,rfl⟩:=Option.map_eq_some_iff.mp (List.getElem?_map ..▸hx)
  have gs:=hs s (List.mem_of_getElem? hs1)
  obtain ⟨M,rfl,_⟩:=room hM
  refine lP hK gs ?_
  conv=>whnf
  have hi2:(h.set i (.list ((ks++ss.take j).map .str)))[i]?=some (.list ((ks++ss.take j).map .str)):=get_set hi
  refine al hi2 ?_
  refine bB gs.1.ok (fun t ht=>?_) ?_
  ·rcases List.mem_append.mp ht with ht | ht
   ·exact (hks t ht).1.ok
   ·exact (hs t (List.mem_of_mem_take ht)).1.ok
  ·have hnot:s∉ks++ss.take j:=fun hm=>by
    have e:ss=ss.take j++s::ss.drop (j+1):=by
     have:=List.take_append_drop j ss
     rw [List.drop_eq_getElem_cons (List.getElem?_eq_some_iff.mp hs1).1,(List.getElem?_eq_some_iff.mp hs1).2] at this
     exact this.symm
    rw [e,←List.append_assoc] at hnd
    exact (List.nodup_append.mp hnd).2.2 s hm s (.head _) rfl
   rw [show (ks++ss.take j).contains s=false by simpa using hnot]
   refine ay (aA hi2) ?_
   refine aY (aW hi2) ?_
   refine ⟨by rw [List.length_map,List.length_append,List.length_take];exact Nat.lt_of_le_of_lt (Nat.le_trans (Nat.add_le_add_left (Nat.min_le_right _ _) _) hz) (nb rfl),?_⟩
   refine Eq.mpr (congrArg (P .next) (?_)) (hn (some (.str s)) trivial)
   dsimp only [MS.put,MS.set]
   rw [List.set_set,ap hs1,←List.append_assoc,List.map_append (l₂:=[s])]
   rfl
 ·skip
  rw [List.length_map,List.take_length]
  exact hq
end Internal
end
section
namespace Internal
variable {N:Nat}{Q:MV→List MO→Prop}{X:XT}{h:List MO}
noncomputable abbrev cg:List Nat:=[111,112,101,110,115]
noncomputable abbrev cS:List Nat:=[115,101,99,114,101,116,115]
noncomputable abbrev EW:List Nat:=[114,111,119,115]
noncomputable def bW (hp:List MO)(i:Nat)(A B:List (List Nat))(rows:List Rw):Prop:=
 ∃a b,hp[i]?=some (.attrs [(cg,.ref a),(cS,.ref b),(EW,.tup (mvs rows))])∧hp[a]?=some (.list (A.map .str))∧hp[b]?=some (.list (B.map .str))
theorem bW.up {hp hp':List MO}{i:Nat}{A B:List (List Nat)}{rows:List Rw}(h:bW hp i A B rows)(e:hp<+:hp'):bW hp' i A B rows:=let ⟨a,b,h1,h2,h3⟩:=h;⟨a,b,ag e h1,ag e h2,ag e h3⟩
theorem holds.at_ {l:Bool}{n:Nat}{hp hp':List MO}{u:MV}{xs:List MV}(h:holds l n hp u xs)(e:∀(j:Nat) (o:MO),hp[j]?=some o→hp'[j]?=some o):holds l n hp' u xs:=h.up ⟨Nat.le_refl _,fun j o _ h=>e j o h⟩
theorem holds.ne {l:Bool}{n i:Nat}{hp:List MO}{u:MV}{xs:List MV}(h:holds l n hp u xs)(hi:hp.length≤i):u≠.ref i:=fun q=>by
 subst q
 cases l with
 | false=>exact absurd (show MV.ref i=.tup xs from h) (by intro q;cases q)
 | true=>
  obtain ⟨j,_,e,hj⟩:=h
  cases e
  exact absurd (List.getElem?_eq_some_iff.mp hj).1 (Nat.not_lt.mpr hi)
variable {K:KT}(hK:aK PP K)
include hK
theorem xC {h0:List MO}{l l' l'':Bool}{u v w:MV}{A B:List (List Nat)}{rows:List Rw}{N:Nat}{Q:MV→List MO→Prop}{X:XT}(hu:holds l 0 h0 u (A.map .str))(hv:holds l' 0 h0 v (B.map .str))(hw:cH l'' 0 h0 rows w)(hA:∀s∈A,Gn s)(hB:∀s∈B,Gn s)(hnd:(A++B).Nodup)(hz:A.length+B.length≤100000)
  (hg:dT rows) (hn:aB rows≤7) (hl:(lns rows).length≤100000) (hN:15<N) (hq:∀h',h0<+:h'→bW h' h0.length A B rows→Q .none h'):K N 63 [.inst 0 h0.length,u,v,w] Q X (h0++[.attrs []]):=by
 obtain ⟨M,rfl,hM⟩:=room hN
 obtain ⟨kx,hkx⟩:∃kx,kx=(h0++[MO.attrs []]).length:=⟨_,rfl⟩
 have hkx':kx=h0.length+1:=by rw [hkx];simp
 have p0:h0<+:(h0++[.attrs []])++[.list []]:=aa (aa (ai _))
 refine hK _ _ _ _ _ _ db rfl rfl ?_
 conv=>whnf
 dsimp only [cZ,MS.set,MS.push,MS.put]
 rw [←hkx]
 have k0:((h0++[MO.attrs []])++[.list []])[kx]?=some (.list (([]:List (List Nat)).map .str)):=by rw [hkx];exact ac _ _
 have a0:((h0++[MO.attrs []])++[.list []])[h0.length]?=some (.attrs []):=ah (ac _ _)
 generalize (h0++[MO.attrs []])++[.list []]=h1 at *
 refine jQ hK (h:=h1) (hu.at_ fun j o e=>ag p0 e) k0 (hu.ne (n1 (Nat.le_of_eq hkx'.symm) (by simp +arith only))) hA (fun s hs=>by cases hs) (by rw [List.nil_append];exact (List.nodup_append.mp hnd).1) (by simp only [List.length_nil];exact n1 hz (by simp +arith only)) (Nat.le_trans (nb rfl) hM) ?_
 rw [List.nil_append]
 have hkk:kx≠h0.length:=Nat.ne_of_gt (n1 (Nat.le_of_eq hkx'.symm) (by simp +arith only))
 have p1:h0<+:h1.set kx (.list (A.map .str)):=aM p0 (n1 (Nat.le_of_eq hkx'.symm) (by simp +arith only))
 have k1:(h1.set kx (.list (A.map .str)))[kx]?=some (.list (A.map .str)):=get_set k0
 have a1:=ao (o':=.list (A.map .str)) hkk a0
 generalize h1.set kx (.list (A.map .str))=h2 at *
 refine al k1 ?_
 refine jQ hK (h:=h2) (hv.at_ fun j o e=>ag p1 e) k1 (hv.ne (n1 (Nat.le_of_eq hkx'.symm) (by simp +arith only))) hB hA hnd hz (Nat.le_trans (nb rfl) hM) ?_
 have p2:h0<+:h2.set kx (.list ((A++B).map .str)):=aM p1 (n1 (Nat.le_of_eq hkx'.symm) (by simp +arith only))
 have k2:(h2.set kx (.list ((A++B).map .str)))[kx]?=some (.list ((A++B).map .str)):=get_set k1
 have a2:=ao (o':=.list ((A++B).map .str)) hkk a1
 generalize h2.set kx (.list ((A++B).map .str))=h3 at *
 obtain ⟨xs,hw1,hw2⟩:=hw
 refine n8 hK (h:=h3) (hw1.at_ fun j o e=>ag p2 e) (Nat.le_trans (nb rfl) hM) ?_
 refine qR hK rows (l:=l'') (h:=h3) hg (cH.up ⟨xs,hw1,hw2⟩ p2) (by lia) (n2 hN hn (by simp +arith only)) fun h4 p4=>?_
 have p4:h3<+:h4:=p4
 have p3:=p2.trans p4
 have k3:=ag p4 k2
 have a3:=ag p4 a2
 refine af k3 ?_
 rw [bT (by rw [List.length_map];exact Int.natCast_nonneg _)]
 dsimp only [cZ,MS.set,MS.push,MS.put]
 have a4:(h4++[MO.list (((A++B).map MV.str).take (((A.map MV.str).length:Nat):Int).toNat)])[h0.length]?=some (.attrs []):=ah a3
 have l0:h0.length<h4.length:=(List.getElem?_eq_some_iff.mp a3).1
 refine dJ a4 ?_
 have eA:((A++B).map MV.str).take (((A.map MV.str).length:Nat):Int).toNat=A.map .str:=by
  rw [List.map_append];exact List.take_left ..
 have eB:((A++B).map MV.str).drop (((A.map MV.str).length:Nat):Int).toNat=B.map .str:=by
  rw [List.map_append];exact List.drop_left ..
 rw [eA] at a4
 rw [eA]
 have p5:h0<+:(h4++[MO.list (A.map .str)]).set h0.length (.attrs [(cg,.ref h4.length)]):=aM (aa p3) (Nat.le_refl _)
 have a5:((h4++[MO.list (A.map .str)]).set h0.length (.attrs [(cg,.ref h4.length)]))[h0.length]?=some (.attrs [(cg,.ref h4.length)]):=get_set a4
 have k5:((h4++[MO.list (A.map .str)]).set h0.length (.attrs [(cg,.ref h4.length)]))[kx]?=some (.list ((A++B).map .str)):=ao (Ne.symm hkk) (ah k3)
 have o5:((h4++[MO.list (A.map .str)]).set h0.length (.attrs [(cg,.ref h4.length)]))[h4.length]?=some (.list (A.map .str)):=ao (Nat.ne_of_lt l0) (ac _ _)
 have l5:h4.length<((h4++[MO.list (A.map .str)]).set h0.length (.attrs [(cg,.ref h4.length)])).length:=by rw [List.length_set,List.length_append];exact Nat.lt_succ_self _
 dsimp only [cZ,MS.set,MS.push,MS.put,ch]
 generalize (h4++[MO.list (A.map .str)]).set h0.length (.attrs [(cg,.ref h4.length)])=h5 at *
 refine ⟨by decide,?_⟩
 refine af k5 ?_
 rw [bv (by rw [List.length_map];exact Int.natCast_nonneg _),eB]
 dsimp only [cZ,MS.set,MS.push,MS.put]
 have a6:=ah (o':=MO.list (B.map .str)) a5
 refine dJ a6 ?_
 refine ⟨Nat.le_of_ble_eq_true rfl,?_⟩
 have p6:h0<+:(h5++[MO.list (B.map .str)]).set h0.length (.attrs [(cg,.ref h4.length),(cS,.ref h5.length)]):=aM (aa p5) (Nat.le_refl _)
 have a7:((h5++[MO.list (B.map .str)]).set h0.length (.attrs [(cg,.ref h4.length),(cS,.ref h5.length)]))[h0.length]?=some (.attrs [(cg,.ref h4.length),(cS,.ref h5.length)]):=get_set a6
 have o7:((h5++[MO.list (B.map .str)]).set h0.length (.attrs [(cg,.ref h4.length),(cS,.ref h5.length)]))[h4.length]?=some (.list (A.map .str)):=ao (Nat.ne_of_lt l0) (ah o5)
 have s7:((h5++[MO.list (B.map .str)]).set h0.length (.attrs [(cg,.ref h4.length),(cS,.ref h5.length)]))[h5.length]?=some (.list (B.map .str)):=ao (Nat.ne_of_lt (n2 l5 l0 (by simp +arith only))) (ac _ _)
 show K _ 60 [w] _ _ ((h5++[MO.list (B.map .str)]).set h0.length (.attrs [(cg,.ref h4.length),(cS,.ref h5.length)]))
 generalize (h5++[MO.list (B.map .str)]).set h0.length (.attrs [(cg,.ref h4.length),(cS,.ref h5.length)])=h6 at *
 have l6:h4.length<h6.length∧h5.length<h6.length:=⟨(List.getElem?_eq_some_iff.mp o7).1,(List.getElem?_eq_some_iff.mp s7).1⟩
 refine t7 hK rows (cH.up ⟨xs,hw1,hw2⟩ p6) hl (n2 hN hn (by simp +arith only)) fun h7 p7=>?_
 have p7:h6<+:h7:=p7
 have a8:=ag p7 a7
 refine dJ a8 ?_
 refine ⟨Nat.le_of_ble_eq_true rfl,?_⟩
 refine hq _ (aM (p6.trans p7) (Nat.le_refl _)) ⟨h4.length,h5.length,get_set a8,ao (Nat.ne_of_lt l0) (ag p7 o7),ao (Nat.ne_of_lt (n2 l5 l0 (by simp +arith only))) (ag p7 s7)⟩
theorem Dy {i:Nat}{A B:List (List Nat)}{rows:List Rw}(hp:bW h i A B rows)(hN:0<N)(hq:Q (.tup [.ref h.length,.ref (h.length+1)]) (h++[.list (A.map .str)]++[.list (B.map .str)])):K N 66 [.inst 0 i] Q X h:=by
 obtain ⟨M,rfl,hM⟩:=room hN
 obtain ⟨a,b,h1,h2,h3⟩:=hp
 refine hK _ _ _ _ _ _ fA rfl rfl ?_
 refine dJ h1 ?_
 refine al h2 ?_
 refine dJ (ah h1) ?_
 refine al (ah h3) ?_
 rw [←show (h++[MO.list (A.map .str)]).length=h.length+1 by simp] at hq
 exact hq
theorem lT {i:Nat}{A B:List (List Nat)}{rows:List Rw}(hp:bW h i A B rows)(hN:0<N)(hq:Q (.tup (mvs rows)) h):K N 67 [.inst 0 i] Q X h:=by
 obtain ⟨M,rfl,hM⟩:=room hN
 obtain ⟨a,b,h1,h2,h3⟩:=hp
 refine hK _ _ _ _ _ _ eh rfl rfl ?_
 refine dJ h1 ?_
 exact hq
end Internal
end
section
namespace Internal
mutual
noncomputable def Rw.size:Rw→Nat
 | .ite _ a b=>av a+av b+1
 | .wh _ a=>av a+1
 | _=>1
noncomputable def av:List Rw→Nat
 | []=>0
 | r::rs=>r.size+av rs
end
noncomputable abbrev Num:=Int × Rw × List Tm
mutual
noncomputable def Rw.num (k:Int)(ab:List Tm):Rw→List Num
 | .set s t=>[(k,.set s t,ab)]
 | .tell t=>[(k,.tell t,ab)]
 | .skip=>[(k,.skip,ab)]
 | .ite t a b=>(k,.ite t a b,ab)::(nums (k+1) (ab++[t]) a++nums (k+1+av a) (ab++[t]) b)
 | .wh t a=>(k,.wh t a,ab)::nums (k+1) (ab++[t]) a
noncomputable def nums (k:Int)(ab:List Tm):List Rw→List Num
 | []=>[]
 | r::rs=>r.num k ab++nums (k+r.size) ab rs
end
mutual
theorem Rw.num_len:∀(r:Rw) (k:Int) (ab:List Tm),(r.num k ab).length=r.size
 | .set s t,k,ab=>rfl
 | .tell t,k,ab=>rfl
 | .skip,k,ab=>rfl
 | .ite t a b,k,ab=>by
  show (nums (k+1) (ab++[t]) a++nums (k+1+av a) (ab++[t]) b).length+1=av a+av b+1
  rw [List.length_append,bw a,bw b]
 | .wh t a,k,ab=>by
  show (nums (k+1) (ab++[t]) a).length+1=av a+1
  rw [bw a]
theorem bw:∀(rs:List Rw) (k:Int) (ab:List Tm),(nums k ab rs).length=av rs
 | [],k,ab=>rfl
 | r::rs,k,ab=>by
  show (r.num k ab++nums (k+r.size) ab rs).length=r.size+av rs
  rw [List.length_append,r.num_len,bw rs]
end
theorem dh:∀(a b:List Rw),av (a++b)=av a+av b
 | [],b=>(Nat.zero_add _).symm
 | r::a,b=>by show r.size+av (a++b)=r.size+av a+av b;rw [dh a b,Nat.add_assoc]
theorem iZ:∀(a b:List Rw) (k:Int) (ab:List Tm),nums k ab (a++b)=nums k ab a++nums (k+av a) ab b
 | [],b,k,ab=>by show nums k ab b=nums (k+(0:Nat)) ab b;rw [Int.natCast_zero,Int.add_zero]
 | r::a,b,k,ab=>by
  show r.num k ab++nums (k+r.size) ab (a++b)=r.num k ab++nums (k+r.size) ab a++nums (k+(r.size+av a:Nat)) ab b
  rw [iZ a b,List.append_assoc,Int.natCast_add,Int.add_assoc]
noncomputable def cI (k:Int)(ab:List Tm):List (List Rw)→List Num
 | []=>[]
 | b::bs=>nums k ab b++cI (k+av b) ab bs
noncomputable def bj:List (List Rw)→Nat
 | []=>0
 | b::bs=>av b+bj bs
theorem jt:∀(a b:List (List Rw)) (k:Int) (ab:List Tm),cI k ab (a++b)=cI k ab a++cI (k+bj a) ab b
 | [],b,k,ab=>by show cI k ab b=cI (k+(0:Nat)) ab b;rw [Int.natCast_zero,Int.add_zero]
 | r::a,b,k,ab=>by
  show nums k ab r++cI (k+av r) ab (a++b)=nums k ab r++cI (k+av r) ab a++cI (k+(av r+bj a:Nat)) ab b
  rw [jt a b,List.append_assoc,Int.natCast_add,Int.add_assoc]
theorem dD:∀(a b:List (List Rw)),bj (a++b)=bj a+bj b
 | [],b=>(Nat.zero_add _).symm
 | r::a,b=>by show av r+bj (a++b)=av r+bj a+bj b;rw [dD a b,Nat.add_assoc]
noncomputable def Rw.tm:Rw→Tm
 | .ite t _ _=>t
 | .wh t _=>t
 | _=>.num 0
theorem xD (r:Rw)(k:Int)(ab:List Tm):r.num k ab=(k,r,ab)::cI (k+1) (ab++[r.tm]) r.subs:=by
 cases r with
 | ite t a b=>
  show _=(k,Rw.ite t a b,ab)::(nums (k+1) (ab++[t]) a++(nums (k+1+av a) (ab++[t]) b++[]))
  rw [List.append_nil];rfl
 | wh t a=>
  show _=(k,Rw.wh t a,ab)::(nums (k+1) (ab++[t]) a++[])
  rw [List.append_nil];rfl
 | _=>rfl
theorem rY (r:Rw):r.size=bj r.subs+1:=by
 cases r<;>rfl
noncomputable def b0 (q:Num):MV:=.tup [.int q.1,q.2.1.mv,.tup (q.2.2.map Tm.mv)]
theorem m9 {n:Nat}{hp:List MO}:∀{rs:List Rw}{xs:List MV},(∀r∈rs,∀x,r.is false n hp x→x=r.mv)→cB false n hp rs xs→xs=mvs rs
 | [],xs,_,h=>h
 | r::rs,xs,ih,h=>by
  obtain ⟨y,ys,rfl,h2,h3⟩:=h
  rw [ih r (.head _) y h2,m9 (fun q hq=>ih q (.tail _ hq)) h3];rfl
theorem t8 {n:Nat}{hp:List MO}(rs:List Rw):∀{u:MV},cH false n hp rs u→u=.tup (mvs rs):=by
 refine fU (P:=fun rs=>∀{u:MV},cH false n hp rs u→u=.tup (mvs rs)) (fun rs ih u h=>?_) rs
 obtain ⟨xs,h1,h2⟩:=h
 have h1:u=.tup xs:=h1
 rw [h1,m9 (fun r hr x hx=>?_) h2]
 cases jP hx with
 | ite ha hb=>rw [ih _ hr _ (.head _) ha,ih _ hr _ (.tail _ (.head _)) hb];rfl
 | wh ha=>rw [ih _ hr _ (.head _) ha];rfl
 | _=>rfl
theorem lW (rs:List Rw)(j:Nat):av (rs.take j)≤av rs:=by
 have e:=dh (rs.take j) (rs.drop j)
 rw [List.take_append_drop] at e
 exact n1 (Nat.le_of_eq e.symm) (by simp +arith only)
theorem jR (rs:List (List Rw))(j:Nat):bj (rs.take j)≤bj rs:=by
 have e:=dD (rs.take j) (rs.drop j)
 rw [List.take_append_drop] at e
 exact n1 (Nat.le_of_eq e.symm) (by simp +arith only)
variable {K:KT}
noncomputable def NU (K:KT)(rs:List Rw):Prop:=∀{N:Nat}{k:Int}{ab:List Tm}{Q:MV→List MO→Prop}{X:XT}{h:List MO},av rs≤1000000→ab.length+aB rs≤1000→aB rs+1<N→(∀h',h<+:h'→h'[h.length]?=some (.list ((nums k ab rs).map b0))→Q (.ref h.length) h')→K N 61 [.tup (mvs rs),.int k,.tup (ab.map Tm.mv)] Q X h
variable (hK:aK PP K)
include hK
omit hK in
noncomputable abbrev nuB:List MSt:=[.asg [7] false (.call 61 [.var 6,.var 4,.bin .add (.var 2) (.tup [.idx (.var 5) (.cst (.int 1))])]),.expr (.mth .extend (.var 3) [.var 7]),.asg [4] false (.bin .add (.var 4) (.blt .len [.var 7]))]
omit hK in
theorem Dz {r:Rw}{b:List Rw}(h:b∈r.subs):∃w rest,r.mv=.tup (.str w::r.tm.mv::rest):=by
 cases r with
 | ite t x y=>exact ⟨_,_,rfl⟩
 | wh t x=>exact ⟨_,_,rfl⟩
 | _=>cases h
omit hK in
theorem nc:∀(bs:List (List Rw)) (k:Int) (ab:List Tm),(cI k ab bs).length=bj bs
 | [],_,_=>rfl
 | b::bs,k,ab=>by show (nums k ab b++cI _ ab bs).length=av b+bj bs;rw [List.length_append,bw,nc bs]
omit hK in
theorem Ad {r:Rw}{b:List Rw}(ih:NU K b)(hbm:b∈r.subs){M f:Nat}{z:Int}{ab:List Tm}{A:List Num}{v0 v1 w7:Option MV}{hp:List MO}{P:Fl→MS→Prop}{X:XT}(hf:hp[f]?=some (.list (A.map b0)))(hA:A.length+av b≤1000000)(hab:ab.length+1+aB b≤1000)(hM:aB b+1<M)
  (hq:∀hp' w7,(∀j o,j≠f→hp[j]?=some o→hp'[j]?=some o)→(∀h0,h0<+:hp→h0.length≤f→h0<+:hp')→hp'[f]?=some (.list ((A++nums z (ab++[r.tm]) b).map b0))→P .next ⟨[v0,v1,some (.tup (ab.map Tm.mv)),some (.ref f),some (.int (z+(av b:Nat))),some r.mv,some (.tup (mvs b)),w7],hp'⟩) :
  ax K M nuB P (fun c m=>X c m.heap) ⟨[v0,v1,some (.tup (ab.map Tm.mv)),some (.ref f),some (.int z),some r.mv,some (.tup (mvs b)),w7],hp⟩:=by
 obtain ⟨w,rest,hr⟩:=Dz hbm
 rw [hr] at hq ⊢
 refine az (k:=1) (j:=1) (aL (by decide) (by rw [List.length_cons,List.length_cons];lia)) rfl ?_
 refine ⟨aI (by rw [List.length_map];show _+1≤_;exact n1 hab (by simp +arith only)),?_⟩
 have e:ab.map Tm.mv++[r.tm.mv]=(ab++[r.tm]).map Tm.mv:=by rw [List.map_append];rfl
 rw [e]
 refine ih (h:=hp) (Nat.le_trans (Nat.le_add_left _ _) hA) (by rw [List.length_append];exact hab) hM fun h3 p3 e3=>?_
 have p3:hp<+:h3:=p3
 have f3:=ag p3 hf
 have lf:f<hp.length:=(List.getElem?_eq_some_iff.mp hf).1
 refine ay (jr f3) (aY (aW f3) (aY (aW e3) ?_))
 refine ⟨aI (by rw [List.length_map,List.length_map,bw];exact hA),?_⟩
 refine al (ao (o':=.list _) (Nat.ne_of_lt lf) e3) ?_
 have:=hq (h3.set f (.list (A.map b0++(nums z (ab++[r.tm]) b).map b0))) (some (.ref hp.length)) (fun j o hj e=>ao (Ne.symm hj) (ag p3 e)) (fun h0 p0 l0=>aM (p0.trans p3) l0) (by rw [List.map_append];exact get_set f3)
 rw [←bw b z (ab++[r.tm]),←List.length_map (f:=b0)] at this
 exact this
theorem Ae (rs:List Rw)(ih:∀r∈rs,∀b∈r.subs,NU K b):NU K rs:=by
 intro N k ab Q X h hz hab hN hq
 obtain ⟨M,rfl,hM⟩:=room hN
 refine hK _ _ _ _ _ _ jK rfl rfl ?_
 refine nX (fun j (z:Int) w5 w6 w7 hp=>⟨[some (.tup (mvs rs)),some (.int k),some (.tup (ab.map Tm.mv)),some (.ref h.length),some (.int z),w5,w6,w7],hp⟩) (fun j z w5 w6 w7 hp=>A3 (z=k+av (rs.take j)) (h<+:hp) (hp[h.length]?=some (.list ((nums k ab (rs.take j)).map b0))))
  k none none none _ rfl ⟨(Int.add_zero k).symm,aa (ai _),ac _ _⟩ (fun _ _ _ _ _ _ _=>trivial) (fun j x z w5 w6 w7 hp P hx hI hn _=>?_) (fun z w5 w6 w7 hp hI=>?_)
 ·obtain ⟨hz1,hp1,hp2⟩:=hI
  obtain ⟨r,hr,rfl⟩:=rS hx
  have hmem:=List.mem_of_getElem? hr
  have zr:=lW rs (j+1)
  have nr:=en (Nat.le_refl (aB rs)) r hmem
  rw [ap hr,dh] at zr
  have zr:av (rs.take j)+(r.size+0)≤av rs:=zr
  have se:=rY r
  have hpl:(nums k ab (rs.take j)).length=av (rs.take j):=bw _ _ _
  have goal:∀hp' w6 w7,h<+:hp'→hp'[h.length]?=some (.list ((nums k ab (rs.take j)++(z,r,ab)::cI (z+1) (ab++[r.tm]) r.subs).map b0))→P .next ⟨[some (.tup (mvs rs)),some (.int k),some (.tup (ab.map Tm.mv)),some (.ref h.length),some (.int (z+1+(bj r.subs:Nat))),some r.mv,w6,w7],hp'⟩:=fun hp' w6 w7 p e=>by
   refine hn _ _ _ _ hp' ⟨?_,p,?_⟩
   ·rw [ap hr,dh,hz1]
    show _=k+((av (rs.take j)+(r.size+0):Nat):Int)
    rw [se];show _=k+((av (rs.take j):Int)+((bj r.subs:Int)+1));rw [Int.add_assoc,Int.add_assoc,Int.add_comm 1]
   ·rw [ap hr,iZ,←hz1,show nums z ab [r]=r.num z ab from List.append_nil _,xD];exact e
  generalize nums k ab (rs.take j)=pre at *
  refine ay (aA hp2) (aY (aW hp2) ?_)
  refine ⟨by rw [List.length_map,hpl];exact Nat.lt_of_le_of_lt (Nat.le_trans (Nat.le_trans (Nat.le_add_right _ _) zr) hz) (nb rfl),?_⟩
  have v:=jP (pu (n:=0) (hp:=hp.set h.length (.list (pre.map b0++[b0 (z,r,ab)]))) r)
  refine lS hK v (n1 hN (by simp +arith only)) fun us hus=>?_
  have hH1:h<+:hp.set h.length (.list (pre.map b0++[b0 (z,r,ab)])):=aM hp1 (Nat.le_refl _)
  have hH2:(hp.set h.length (.list (pre.map b0++[b0 (z,r,ab)])))[h.length]?=some (.list ((pre++[(z,r,ab)]).map b0)):=by rw [List.map_append];exact get_set hp2
  have hs:=lR hus
  refine aG (aF (ac _ _)) ?_
  obtain ⟨H,hH⟩:∃H,hp.set h.length (.list (pre.map b0++[b0 (z,r,ab)]))=H:=⟨_,rfl⟩
  rw [hH] at hH1 hH2
  have l2:h.length<H.length:=(List.getElem?_eq_some_iff.mp hH2).1
  refine iO (fun i (y:Int) w6 w7 hp=>⟨[some (.tup (mvs rs)),some (.int k),some (.tup (ab.map Tm.mv)),some (.ref h.length),some (.int y),some r.mv,w6,w7],hp⟩) (fun i y w6 w7 hp=>A4 (y=z+1+bj (r.subs.take i)) (h<+:hp) (hp[H.length]?=some (.list us)) (hp[h.length]?=some (.list ((pre++(z,r,ab)::cI (z+1) (ab++[r.tm]) (r.subs.take i)).map b0))))
   (z+1) w6 w7 (H++[.list us]) (by rw [←hH];rfl) ⟨(Int.add_zero _).symm,aa hH1,ac _ _,ah hH2⟩ (fun _ _ _ _ _ hI=>by have:=hI.h3;rw [←hH] at this;exact this) (fun i x y w6 w7 hp' P hx hI hn _=>?_) (fun y w6 w7 hp' hI=>?_)
  ·obtain ⟨q0,q1,q2,q3⟩:=hI
   obtain ⟨b,hb,hb2⟩:=iY hus hx
   have hbm:=List.mem_of_getElem? hb
   have nb:=eu b hbm
   have zt:=jR r.subs (i+1)
   rw [ap hb,dD] at zt
   have zt:bj (r.subs.take i)+(av b+0)≤bj r.subs:=zt
   obtain rfl:=t8 b hb2
   refine Ad (ih r hmem b hbm) hbm q3 (by rw [List.length_append,List.length_cons,nc,hpl];exact n3 (Nat.add_le_add zt (Nat.le_of_eq se.symm)) zr hz (by simp +arith only)) (n3 nb nr hab (by simp +arith only)) (n3 nb nr hN (by simp +arith only)) fun hp3 w7 k3 p3 e3=>?_
   refine hn _ _ _ hp3 ⟨?_,p3 _ q1 (Nat.le_refl _),k3 _ _ (Nat.ne_of_gt l2) q2,?_⟩
   ·rw [ap hb,dD,q0]
    show _=z+1+((bj (r.subs.take i)+(av b+0):Nat):Int)
    lia
   ·rw [ap hb,jt,←q0,e3,List.append_assoc]
    show _=some (MO.list ((pre++(z,r,ab)::(cI (z+1) (ab++[r.tm]) (r.subs.take i)++(nums y (ab++[r.tm]) b++[]))).map b0))
    rw [List.append_nil];rfl
  ·obtain ⟨q0,q1,q2,q3⟩:=hI
   rw [hs,List.take_length] at q3 q0
   have:=goal hp' w6 w7 q1 q3
   rw [←q0] at this
   exact this
 ·obtain ⟨_,hp1,hp2⟩:=hI
  rw [bt,List.take_length] at hp2
  exact hq _ hp1 hp2
theorem lX (rs:List Rw):NU K rs:=fU (P:=fun rs=>NU K rs) (fun rs ih=>Ae hK rs ih) rs
end Internal
end
section
namespace Internal
noncomputable def Rw.nms:Rw→List (List Nat)
 | .set s t=>s::aS (an t)
 | .tell t=>aS (an t)
 | .skip=>[]
 | .ite t _ _=>aS (an t)
 | .wh t _=>aS (an t)
noncomputable def fj (qs:List Num):List (List Nat):=qs.flatMap fun q=>q.2.1.nms
theorem fV (l:List (List Nat)):(aS l).length≤l.length:=iW fun x hx=>hx
theorem lY (a b:List Num):fj (a++b)=fj a++fj b:=List.flatMap_append ..
mutual
theorem Rw.num_good:∀{r:Rw}{k:Int}{ab:List Tm},r.good→∀q∈r.num k ab,q.2.1.good
 | .set s t,k,ab,h,q,hq=>by rw [List.mem_singleton.mp hq];exact h
 | .tell t,k,ab,h,q,hq=>by rw [List.mem_singleton.mp hq];exact h
 | .skip,k,ab,h,q,hq=>by rw [List.mem_singleton.mp hq];exact h
 | .ite t a b,k,ab,h,q,hq=>by
  rcases List.mem_cons.mp hq with rfl | hq
  ·exact h
  ·rcases List.mem_append.mp hq with hq | hq
   ·exact di h.2.1 q hq
   ·exact di h.2.2 q hq
 | .wh t a,k,ab,h,q,hq=>by
  rcases List.mem_cons.mp hq with rfl | hq
  ·exact h
  ·exact di h.2 q hq
theorem di:∀{rs:List Rw}{k:Int}{ab:List Tm},dT rs→∀q∈nums k ab rs,q.2.1.good
 | [],k,ab,h,q,hq=>by cases hq
 | r::rs,k,ab,h,q,hq=>by
  rcases List.mem_append.mp hq with hq | hq
  ·exact r.num_good h.1 q hq
  ·exact di h.2 q hq
end
noncomputable def aN (A B:List (List Nat))(rows:List Rw):List (List Nat):=A++B++fj (nums 1 [] rows)
end Internal
end
section
namespace Internal
noncomputable def Tm.gp (p:List Nat→Prop)(t:Tm):Prop:=t.ok p∧t.deep≤3
mutual
noncomputable def Rw.gp (p:List Nat→Prop):Rw→Prop
 | .set s t=>p s∧t.gp p
 | .tell t=>t.gp p
 | .skip=>True
 | .ite t a b=>t.gp p∧gps p a∧gps p b
 | .wh t a=>t.gp p∧gps p a
noncomputable def gps (p:List Nat→Prop):List Rw→Prop
 | []=>True
 | r::rs=>r.gp p∧gps p rs
end
theorem fk {p:List Nat→Prop}:∀{a b:List Rw},gps p a→gps p b→gps p (a++b)
 | [],_,_,h=>h
 | r::a,b,h1,h2=>⟨h1.1,fk h1.2 h2⟩
mutual
theorem Af {p q:List Nat→Prop}(h:∀s,p s→q s):∀{r:Rw},r.gp p→r.gp q
 | .set s t,x=>⟨h s x.1,x.2.1.mono h,x.2.2⟩
 | .tell t,x=>⟨x.1.mono h,x.2⟩
 | .skip,x=>x
 | .ite t a b,x=>⟨⟨x.1.1.mono h,x.1.2⟩,ey h x.2.1,ey h x.2.2⟩
 | .wh t a,x=>⟨⟨x.1.1.mono h,x.1.2⟩,ey h x.2⟩
theorem ey {p q:List Nat→Prop}(h:∀s,p s→q s):∀{rs:List Rw},gps p rs→gps q rs
 | [],x=>x
 | r::rs,x=>⟨Af h x.1,ey h x.2⟩
end
mutual
theorem Ag:∀{r:Rw},r.gp Gn→r.good
 | .set s t,x=>x
 | .tell t,x=>x
 | .skip,x=>x
 | .ite t a b,x=>⟨x.1,fW x.2.1,fW x.2.2⟩
 | .wh t a,x=>⟨x.1,fW x.2⟩
theorem fW:∀{rs:List Rw},gps Gn rs→dT rs
 | [],x=>x
 | r::rs,x=>⟨Ag x.1,fW x.2⟩
end
variable {K:KT}
noncomputable def PB (K:KT)(n:Nat)(X:XM)(m:MS)(e:ME):Prop:=∀Q:PQ,(∀b,Q (.bool b) m)→wpE K n e Q X m
theorem qS {n:Nat}{X:XM}{m:MS}:∀{es:List ME},es≠[]→(∀e∈es,PB K n X m e)→PB K n X m (.and es)
 | [],h,_=>absurd rfl h
 | [e],_,h=>fun Q hq=>h e (.head _) Q hq
 | e::e'::es,_,h=>fun Q hq=>by
  have ih:=qS (es:=e'::es) (List.cons_ne_nil _ _) fun x hx=>h x (.tail _ hx)
  refine h e (.head _) _ fun b=>?_
  cases b with
  | true=>exact ih Q hq
  | false=>exact hq false
theorem Bg {n:Nat}{X:XM}{m:MS}:∀{es:List ME},es≠[]→(∀e∈es,PB K n X m e)→PB K n X m (.or es)
 | [],h,_=>absurd rfl h
 | [e],_,h=>fun Q hq=>h e (.head _) Q hq
 | e::e'::es,_,h=>fun Q hq=>by
  have ih:=Bg (es:=e'::es) (List.cons_ne_nil _ _) fun x hx=>h x (.tail _ hx)
  refine h e (.head _) _ fun b=>?_
  cases b with
  | true=>exact hq true
  | false=>exact ih Q hq
theorem fX {n:Nat}{X:XM}{m:MS}{a b:ME}(ha:PB K n X m a)(hb:PB K n X m b):PB K n X m (.and [a,b])∧PB K n X m (.or [a,b]):=by
 have h:∀e∈[a,b],PB K n X m e:=fun e he=>by
  rcases List.mem_cons.mp he with rfl | he
  ·exact ha
  ·rw [List.mem_singleton.mp he];exact hb
 exact ⟨qS (List.cons_ne_nil _ _) h,Bg (List.cons_ne_nil _ _) h⟩
theorem xE {n:Nat}{X:XM}{m:MS}{a b c:ME}(ha:PB K n X m a)(hb:PB K n X m b)(hc:PB K n X m c):PB K n X m (.and [a,b,c]):=qS (List.cons_ne_nil _ _) fun e he=>by
  rcases List.mem_cons.mp he with rfl | he
  ·exact ha
  ·rcases List.mem_cons.mp he with rfl | he
   ·exact hb
   ·rw [List.mem_singleton.mp he];exact hc
theorem xF {n:Nat}{X:XM}{m:MS}{a:ME}(ha:PB K n X m a):PB K n X m (.not a):=fun Q hq=>ha _ fun b=>hq _
theorem dE {n:Nat}{X:XM}{m:MS}{c:ME}{a b:List MSt}{Q:Fl→MS→Prop}(hc:PB K n X m c)(ha:ax K n a Q X m)(hb:ax K n b Q X m):wpS K n (.ite c a b) Q X m:=
 hc _ fun t=>by
  cases t with
  | true=>exact ha
  | false=>exact hb
theorem n9 {n i:Nat}{X:XM}{m:MS}{x:Int}(hv:m.get i=some (.int x)){a b c:Int}(ha:0<a∧a<2 ^ 30)(hb:0<b)(op:Cmp)(hop:op=.eq∨op=.gt):PB K n X m (.cmp op (.bin .mod (.bin .fdiv (.var i) (.cst (.int a))) (.cst (.int b))) (.cst (.int c))):=fun Q hq=>by
 show wpE K n (.var i) _ X m
 refine iQ hv ?_
 refine ay (decide_eq_true ha) ?_
 refine ay (decide_eq_true hb) ?_
 rcases hop with rfl | rfl
 ·exact hq _
 ·exact hq _
theorem cD {n i:Nat}{X:XM}{m:MS}{x:Int}(hv:m.get i=some (.int x)){c:Int}(op:Cmp)(hop:op=.eq∨op=.gt∨op=.lt):PB K n X m (.cmp op (.var i) (.cst (.int c))):=fun Q hq=>by
 show wpE K n (.var i) _ X m
 refine iQ hv ?_
 rcases hop with rfl | rfl | rfl
 ·exact hq _
 ·exact hq _
 ·exact hq _
theorem ju {n i:Nat}{X:XM}{m:MS}{x:Bool}(hv:m.get i=some (.bool x)):PB K n X m (.var i):=fun Q hq=>by
 exact iQ hv (hq _)
variable (hK:aK PP K)
include hK
theorem xG:∀(t:Tm) {N:Nat}{Q:MV→List MO→Prop}{X:XT}{h:List MO},t.good→t.deep<N→(∀(h':List MO) (i:Nat) (ss:List (List Nat)),h<+:h'→h'[i]?=some (.list (ss.map .str))→(∀s∈ss,okS s)→ss.length≤t.lv→Q (.ref i) h')→K N 37 [t.mv] Q X h
 | .num k,N,Q,X,h,ht,hN,hq=>by
  obtain ⟨M,rfl,hM⟩:=room hN
  refine hK _ _ _ _ _ _ bd rfl rfl ?_
  exact hq _ _ [] (aa (ai _)) (ac _ _) (fun s hs=>by cases hs) (Nat.zero_le _)
 | .nm s,N,Q,X,h,ht,hN,hq=>by
  obtain ⟨M,rfl,hM⟩:=room hN
  refine hK _ _ _ _ _ _ bd rfl rfl ?_
  exact hq _ _ [s] (aa (ai _)) (ac _ _) (fun x hx=>by rw [List.mem_singleton.mp hx];exact ht.1.1.ok) (Nat.le_refl _)
 | .op c a b,N,Q,X,h,ht,hN,hq=>by
  obtain ⟨ga,gb⟩:=ht.sub
  have la:=a.lv_le
  have lb:=b.lv_le
  have h3:2 ^ a.deep≤2 ^ 3:=Nat.pow_le_pow_right (by decide) ga.2
  have h4:2 ^ b.deep≤2 ^ 3:=Nat.pow_le_pow_right (by decide) gb.2
  have hN:max a.deep b.deep+1<N:=hN
  obtain ⟨M,rfl,hM⟩:=room hN
  refine hK _ _ _ _ _ _ bd rfl rfl ?_
  conv=>whnf
  rw [show ([c]==tY)=false by simp]
  conv=>whnf
  rw [show ([c]==lN)=false by simp]
  refine xG a ga (n2 hN (Nat.le_max_left a.deep b.deep) (by simp +arith only)) fun h1 i x p1 e1 o1 l1=>?_
  refine xG b gb (n2 hN (Nat.le_max_right a.deep b.deep) (by simp +arith only)) fun h2 j y p2 e2 o2 l2=>?_
  conv=>whnf
  dsimp only
  rw [ag p2 e1,e2]
  refine ⟨bU (Nat.le_trans (Nat.add_le_add (Nat.le_trans l1 (Nat.le_trans la h3)) (Nat.le_trans l2 (Nat.le_trans lb h4))) (nb rfl)),?_⟩
  refine hq _ _ (x++y) (aa (p1.trans p2)) (cA _ _ _) (fun s hs=>?_) ?_
  ·rcases List.mem_append.mp hs with hs | hs
   ·exact o1 s hs
   ·exact o2 s hs
  ·rw [List.length_append];exact Nat.add_le_add l1 l2
noncomputable def lZ (ss:List (List Nat))(hp:List MO)(i:Nat):Prop:=∃sl:List (List Nat),hp[i]?=some (.list (sl.map .str))∧∀s∈sl,s∈ss
omit hK in
theorem lZ.up {ss:List (List Nat)}{hp hp':List MO}{i:Nat}(h:lZ ss hp i)(e:hp<+:hp'):lZ ss hp' i:=let ⟨sl,h1,h2⟩:=h;⟨sl,ag e h1,h2⟩
omit hK in
theorem oa {ss:List (List Nat)}(hp:List MO)(k:Nat):lZ ss (hp++[.list ((ss.map MV.str).drop k)]) hp.length:=⟨ss.drop k,by rw [ac,List.map_drop],fun s hs=>List.mem_of_mem_drop hs⟩
omit hK in
theorem oc {ss:List (List Nat)}(hp:List MO)(k:Nat):lZ ss (hp++[.list ((ss.map MV.str).take k)]) hp.length:=⟨ss.take k,by rw [ac,List.map_take],fun s hs=>List.mem_of_mem_take hs⟩
theorem Ah {r:Nat}{ss:List (List Nat)}{more mode:Int}{dark:Bool}{N:Nat}{Q:MV→List MO→Prop}{X:XT}{h:List MO}(hr:h[r]?=some (.list (ss.map .str)))(hs:∀s∈ss,Gn s)(hN:8≤N)(hq:∀(h':List MO) (t:Tm) (b:Bool),h<+:h'→t.gp (·∈ss)→Q (.tup [t.mv,.bool b]) h') :
  K N 38 [.ref r,.int more,.bool dark,.int mode] Q X h:=by
 obtain ⟨M,rfl,hM⟩:=room (k:=7) (show 7<N by lia)
 have last:∀hp i4 i5,h<+:hp→lZ ss hp i4→lZ ss hp i5→ax K M (bJ.body.drop 4) (fin Q) (fun c m=>X c m.heap) ⟨[some (.ref r),some (.int more),some (.bool dark),some (.int mode),some (.ref i4),some (.ref i5),none,none],hp⟩:=by
  intro hp i4 i5 hpre h4 h5
  obtain ⟨s4,e4,m4⟩:=h4
  obtain ⟨s5,e5,m5⟩:=h5
  have go:∀d:Bool,ax K M [.asg [6] false (.call 11 [.var 1,.var 5,.var 4,.cst (.bool d),.bin .add (.cst (.int 1)) (.bin .mod (.bin .fdiv (.var 1) (.cst (.int 24))) (.cst (.int 4)))]),bJ.body.getLast (by decide)] (fin Q) (fun c m=>X c m.heap) ⟨[some (.ref r),some (.int more),some (.bool dark),some (.int mode),some (.ref i4),some (.ref i5),none,none],hp⟩:=by
   intro d
   have hL:0≤more / 24 % 4∧more / 24 % 4<4:=em rfl
   obtain ⟨M',rfl⟩:∃M',M=M'+(more / 24 % 4).toNat+2:=⟨M-(more / 24 % 4).toNat-2,by rw [Nat.add_assoc,Nat.sub_sub,Nat.sub_add_cancel (Nat.le_trans (Nat.add_le_add_right (Nat.le_of_lt (emN (n:=4) rfl)) 2) (Nat.le_trans (nb rfl) hM))]⟩
   refine tZ hK (more / 24 % 4).toNat (by rw [Int.toNat_of_nonneg hL.1,Int.add_comm]) e5 e4 (fun s h=>(hs s (m5 s h)).1.ok) (fun s h=>(hs s (m4 s h)).1.ok) fun t h1 ht hd hpre1=>?_
   have hg':t.gp (·∈ss):=⟨ht.mono fun s h=>h.elim (m5 s) (m4 s),Nat.le_trans hd (Nat.le_of_lt_succ (emN (n:=4) rfl))⟩
   have hg:t.good:=⟨ht.mono fun s h=>h.elim (fun h=>hs s (m5 s h)) fun h=>hs s (m4 s h),Nat.le_trans hd (Nat.le_of_lt_succ (emN (n:=4) rfl))⟩
   have hpre1:hp<+:h1:=hpre1
   refine xG hK t hg (by have:=hg.2;exact n1 hd (by simp +arith only)) fun h2 i x p2 e2 o2 l2=>?_
   have p2:h1<+:h2:=p2
   refine aG (aF e2) ?_
   have hpre2:=(hpre.trans hpre1).trans p2
   refine rT (fun w:Option MV × List MO=>⟨[some (.ref r),some (.int more),some (.bool dark),some (.int mode),some (.ref i4),some (.ref i5),some t.mv,w.1],w.2⟩) (fun w=>h2<+:w.2) (none,_) rfl (ai _) (fun w h=>ag h e2) (fun j y w P hy hp1 h1 h2'=>?_) (fun a w hp1=>?_)
   ·obtain ⟨s,es,rfl⟩:=Option.map_eq_some_iff.mp (List.getElem?_map ..▸hy)
    refine af (ag (hpre2.trans hp1) hr) ?_
    conv=>whnf
    dsimp only [MS.set,MS.push]
    rw [ac]
    conv=>whnf
    rw [bv (by decide),←List.map_drop]
    refine bB (o2 s (List.mem_of_getElem? es)) (fun s h=>(hs s (List.mem_of_mem_drop h)).1.ok) ?_
    cases (List.drop (5:Int).toNat ss).contains s with
    | true=>exact h1 _ (_,_) (aa hp1)
    | false=>exact h2' (_,_) (aa hp1)
   ·exact .nil _ _ a rfl rfl (ah (ac _ _)) (ac _ _) (hq _ t _ (aa (aa (hpre2.trans hp1))) hg')
  conv=>whnf
  cases decide (0<mode) with
  | true=>exact go true
  | false=>
   cases dark with
   | true=>exact go false
   | false=>exact go true
 have third:∀hp i4 i5,h<+:hp→lZ ss hp i4→lZ ss hp i5→ax K M (bJ.body.drop 3) (fin Q) (fun c m=>X c m.heap) ⟨[some (.ref r),some (.int more),some (.bool dark),some (.int mode),some (.ref i4),some (.ref i5),none,none],hp⟩:=by
  intro hp i4 i5 hpre h4 h5
  show wpS K M _ _ _ _
  exact dE (cD rfl .gt (.inr (.inl rfl))) (last hp i5 i5 hpre h5 h5) (last hp i4 i5 hpre h4 h5)
 have second:∀hp i4,h<+:hp→lZ ss hp i4→ax K M (bJ.body.drop 2) (fin Q) (fun c m=>X c m.heap) ⟨[some (.ref r),some (.int more),some (.bool dark),some (.int mode),some (.ref i4),some (.ref r),none,none],hp⟩:=by
  intro hp i4 hpre h4
  have hr':=ag hpre hr
  show wpS K M _ _ _ _
  refine dE (fX (fX (cD rfl .eq (.inl rfl)) (n9 rfl (by decide) (by decide) .eq (.inl rfl))).1 (xE (cD rfl .eq (.inl rfl)) (ju rfl) (n9 rfl (by decide) (by decide) .gt (.inr rfl)))).2 (third _ _ _ hpre h4 h4) ?_
  show wpS K M _ _ _ _
  refine dE (cD rfl .eq (.inl rfl)) ?_ (third _ _ _ hpre h4 ⟨ss,hr',fun s h=>h⟩)
  refine af hr' ?_
  rw [bv (by decide)]
  exact third _ _ _ (aa hpre) (h4.up (aa (ai _))) (oa _ _)
 refine hK _ _ _ _ _ _ bJ rfl rfl ?_
 refine af hr ?_
 have e:lZ ss (h++[.list (aJ (ss.map MV.str) none (some 5))]) h.length:=by rw [bT (by decide)];exact oc h _
 exact second _ _ (aa (ai h)) e
end Internal
end
section
namespace Internal
set_option genCtorIdx false in
structure Fr where
 a:Nat
 ra:Nat
 wd:List Nat
 t:Option Tm
 rows:List Rw
 sec:Bool
 fst:Option (List Rw)
noncomputable def oT:Option Tm→MV
 | none=>.none
 | some t=>t.mv
noncomputable def oR:Option (List Rw)→MV
 | none=>.none
 | some rs=>.tup (mvs rs)
noncomputable def Fr.cells (f:Fr):List MV:=[.str f.wd,oT f.t,.ref f.ra,.bool f.sec,oR f.fst]
noncomputable def l7 (hp:List MO)(f:Fr):Prop:=hp[f.a]?=some (.list f.cells)∧hp[f.ra]?=some (.list (mvs f.rows))
noncomputable def cE (fs:List Fr):List MV:=fs.map fun f=>.ref f.a
structure Stk (L:Nat)(hp:List MO)(st:Nat)(fs:List Fr):Prop where
 at_:hp[st]?=some (.list (cE fs))
 fr:∀f∈fs,l7 hp f
 pw:fs.Pairwise fun f g=>f.a<g.ra
 ne:∀f∈fs,f.ra<f.a∧f.ra≠st∧f.a≠st∧L≤f.ra
 lo:L≤st
theorem l7.set {hp:List MO}{f:Fr}(h:l7 hp f){i:Nat}{o:MO}(h1:i≠f.a)(h2:i≠f.ra):l7 (hp.set i o) f:=⟨ao h1 h.1,ao h2 h.2⟩
theorem l7.up {hp hp':List MO}{f:Fr}(h:l7 hp f)(e:hp<+:hp'):l7 hp' f:=⟨ag e h.1,ag e h.2⟩
section
variable {L st:Nat}{hp hp':List MO}{fs gs:List Fr}{f:Fr}
theorem Stk.up (h:Stk L hp st fs)(e:hp<+:hp'):Stk L hp' st fs:=⟨ag e h.at_,fun f hf=>(h.fr f hf).up e,h.pw,h.ne,h.lo⟩
theorem Stk.other (h:Stk L hp st fs){i:Nat}{o:MO}(h1:i≠st)(h2:∀f∈fs,i≠f.a∧i≠f.ra):Stk L (hp.set i o) st fs:=⟨ao h1 h.at_,fun f hf=>(h.fr f hf).set (h2 f hf).1 (h2 f hf).2,h.pw,h.ne,h.lo⟩
theorem Stk.last (h:Stk L hp st (gs++[f])):∀g∈gs,g.a<f.ra:=fun g hg=>(List.pairwise_append.mp h.pw).2.2 g hg f (List.mem_singleton.mpr rfl)
theorem Stk.pop (h:Stk L hp st (gs++[f])):Stk L (hp.set st (.list (cE gs))) st gs∧l7 (hp.set st (.list (cE gs))) f:=by
 have hm:∀g∈gs,g∈gs++[f]:=fun g hg=>List.mem_append_left _ hg
 have hf:f∈gs++[f]:=List.mem_append_right _ (List.mem_singleton.mpr rfl)
 exact ⟨⟨get_set h.at_,fun g hg=>(h.fr g (hm g hg)).set (h.ne g (hm g hg)).2.2.1.symm (h.ne g (hm g hg)).2.1.symm,(List.pairwise_append.mp h.pw).1,fun g hg=>h.ne g (hm g hg),h.lo⟩,(h.fr f hf).set (h.ne f hf).2.2.1.symm (h.ne f hf).2.1.symm⟩
theorem Stk.push (h:Stk L hp st gs)(hf:l7 hp f)(h1:∀g∈gs,g.a<f.ra)(h2:f.ra<f.a∧f.ra≠st∧f.a≠st∧L≤f.ra):Stk L (hp.set st (.list (cE gs++[.ref f.a]))) st (gs++[f]):=by
 refine ⟨?_,fun g hg=>?_,List.pairwise_append.mpr ⟨h.pw,List.pairwise_singleton ..,fun g hg x hx=>by rw [List.mem_singleton.mp hx];exact h1 g hg⟩,fun g hg=>?_,h.lo⟩
 ·rw [show cE (gs++[f])=cE gs++[.ref f.a] by simp [cE]];exact get_set h.at_
 ·rcases List.mem_append.mp hg with hg | hg
  ·exact (h.fr g hg).set (h.ne g hg).2.2.1.symm (h.ne g hg).2.1.symm
  ·rw [List.mem_singleton.mp hg];exact hf.set h2.2.2.1.symm h2.2.1.symm
 ·rcases List.mem_append.mp hg with hg | hg
  ·exact h.ne g hg
  ·rw [List.mem_singleton.mp hg];exact h2
theorem Stk.add (h:Stk L hp st (gs++[f]))(r:Rw):Stk L (hp.set f.ra (.list (mvs f.rows++[r.mv]))) st (gs++[{ f with rows:=f.rows++[r] }]):=by
 have hf:f∈gs++[f]:=List.mem_append_right _ (List.mem_singleton.mpr rfl)
 have hn:=h.ne f hf
 have hl:=h.last
 have hm:∀g∈gs,g∈gs++[f]:=fun g hg=>List.mem_append_left _ hg
 refine ⟨?_,fun g hg=>?_,?_,fun g hg=>?_,h.lo⟩
 ·have:=ao (o':=.list (mvs f.rows++[r.mv])) hn.2.1 h.at_
  rw [this];simp [cE]
 ·rcases List.mem_append.mp hg with hg | hg
  ·have h1:=hl g hg
   have h2:=(h.ne g (hm g hg)).1
   exact (h.fr g (hm g hg)).set (Nat.ne_of_gt h1) (Nat.ne_of_gt (n2 h2 h1 (by simp +arith only)))
  ·rw [List.mem_singleton.mp hg]
   refine ⟨ao (by show f.ra≠f.a;exact Nat.ne_of_lt (n1 hn.1 (by simp +arith only))) (h.fr f hf).1,?_⟩
   show (hp.set f.ra _)[f.ra]?=some (.list (mvs (f.rows++[r])))
   rw [cz];exact get_set (h.fr f hf).2
 ·have:=List.pairwise_append.mp h.pw
  exact List.pairwise_append.mpr ⟨this.1,List.pairwise_singleton ..,fun g hg x hx=>by rw [List.mem_singleton.mp hx];exact hl g hg⟩
 ·rcases List.mem_append.mp hg with hg | hg
  ·exact h.ne g (hm g hg)
  ·rw [List.mem_singleton.mp hg];exact hn
end
structure FOk (p:List Nat→Prop)(i:Nat)(f:Fr):Prop where
 good:gps p f.rows
 nest:aB f.rows+i≤7
 fst:∀rs,f.fst=some rs→gps p rs∧aB rs+i≤7
 kind:i=0∨∃t,f.t=some t∧t.gp p∧(f.wd=wIf∨(f.wd=fi∧f.fst=none))
noncomputable def Oks (p:List Nat→Prop)(fs:List Fr):Prop:=∀i f,fs[i]?=some f→FOk p i f
noncomputable def Fr.wt (f:Fr):Nat:=(lns f.rows).length+(match f.fst with
 | some rs=>(lns rs).length
 | none=>0)+4
noncomputable def wts (fs:List Fr):Nat:=(fs.map Fr.wt).sum
noncomputable def Fr.cl (f:Fr):Nat:=match f.fst with
 | none=>if f.wd=wIf then 2 else 1
 | some _=>1
noncomputable def cls (fs:List Fr):Nat:=(fs.map Fr.cl).sum
theorem bR (gs:List Fr)(f:Fr):wts (gs++[f])=wts gs+f.wt:=by simp [wts]
theorem fY (gs:List Fr)(f:Fr):cls (gs++[f])=cls gs+f.cl:=by simp [cls]
theorem Oks.init {p:List Nat→Prop}{gs:List Fr}{f:Fr}(h:Oks p (gs++[f])):Oks p gs∧FOk p gs.length f:=
 ⟨fun i g e=>h i g (ah e),h _ _ (ac gs f)⟩
theorem Oks.snoc {p:List Nat→Prop}{gs:List Fr}{f:Fr}(h:Oks p gs)(hf:FOk p gs.length f):Oks p (gs++[f]):=fun i g e=>by
 rcases Nat.lt_or_ge i gs.length with q | q
 ·rw [List.getElem?_append_left q] at e;exact h i g e
 ·have hi:i<(gs++[f]).length:=(List.getElem?_eq_some_iff.mp e).1
  rw [List.length_append,List.length_singleton] at hi
  have:i=gs.length:=Nat.le_antisymm (Nat.le_of_lt_succ hi) q
  subst this
  rw [ac] at e;cases e;exact hf
theorem FOk.add {p:List Nat→Prop}{i:Nat}{f:Fr}(h:FOk p i f){r:Rw}(hg:r.gp p)(hn:r.nest+i≤7):FOk p i { f with rows:=f.rows++[r] }:=by
 refine ⟨fk h.good ⟨hg,trivial⟩,?_,h.fst,h.kind⟩
 have h1:=h.nest
 have:aB (f.rows++[r])≤7-i:=cP (Nat.le_sub_of_add_le h1) (mx0 (Nat.le_sub_of_add_le hn))
 show aB (f.rows++[r])+i≤7
 exact Nat.add_le_of_le_sub (n1 h1 (by simp +arith only)) this
theorem xH (f:Fr)(r:Rw):({ f with rows:=f.rows++[r] }:Fr).wt=f.wt+r.lines.length:=by
 unfold Fr.wt
 dsimp only
 rw [df,iV,List.length_append];exact by simp +arith only
theorem od {α:Type}{l:List α}(h:l≠[]):∃gs f,l=gs++[f]:=⟨l.dropLast,l.getLast h,(List.dropLast_concat_getLast h).symm⟩
variable {K:KT}(hK:aK PP K)
include hK
omit hK in
theorem DA {hp:List MO}{r:Nat}{xs:List MV}(e:hp[r]?=some (.list xs)):mE .pop (.ref r) hp=true:=by
 show (sK r hp[r]?).isSome=true;rw [e];rfl
omit hK in
theorem rZ {f:Fr}{B:Nat}(h:f.wt≤B)(hB:B≤2000):(mvs f.rows).length<line:=by
 have h1:=kf f.rows
 have h2:(lns f.rows).length≤f.wt:=by unfold Fr.wt;exact by simp +arith only
 exact Nat.lt_of_lt_of_le (show (mvs f.rows).length<2001 by rw [bt];lia) (aI (by decide))
noncomputable abbrev fZ (e:ME):MSt:=.expr (.mth .append (.idx (.idx (.var 0) (.neg (.cst (.int 1)))) (.cst (.int 2))) [e])
omit hK in
theorem t9 {α:Type}(gs:List α)(f:α):dG (-1) (gs++[f]).length=some gs.length:=by
 rw [List.length_append,List.length_singleton]
 unfold dG
 rw [decide_eq_false (show ¬ (0:Int)≤-1 by decide),decide_eq_true (show -(((gs.length+1:Nat)):Int)≤-1 by lia)]
 show some (-1+((gs.length+1:Nat):Int)).toNat=some gs.length
 congr 1;lia
omit hK in
theorem oe {L st:Nat}{hp:List MO}{gs:List Fr}{f:Fr}{B M:Nat}(S:Stk L hp st (gs++[f]))(hB:f.wt≤B)(hB':B≤2000){r:Rw}{e:ME}{vs:List (Option MV)}{X:XM}{Q:Fl→MS→Prop}(he:∀Q:PQ,Q r.mv ⟨some (.ref st)::vs,hp⟩→wpE K M e Q X ⟨some (.ref st)::vs,hp⟩)
  (hq:Q .next ⟨some (.ref st)::vs,hp.set f.ra (.list (mvs f.rows++[r.mv]))⟩):wpS K M (fZ e) Q X ⟨some (.ref st)::vs,hp⟩:=by
 have hf:=S.fr f (List.mem_append_right _ (List.mem_singleton.mpr rfl))
 have e1:cE (gs++[f])=cE gs++[.ref f.a]:=by simp [cE]
 conv=>whnf
 dsimp only
 rw [S.at_,e1]
 delta ci onO;try dsimp only
 rw [t9]
 dsimp only
 rw [ac]
 refine af hf.1 ?_
 refine ay (aA hf.2) ?_
 show wpE K M e _ X _
 refine he _ ?_
 refine aY (aW hf.2) ?_
 exact ⟨rZ hB hB',hq⟩
theorem pD {p:List Nat→Prop}{L st:Nat}{hp:List MO}{gs:List Fr}{f:Fr}{B N:Nat}(S:Stk L hp st (gs++[f]))(O:Oks p (gs++[f]))(hg:gs≠[])(hB:wts (gs++[f])≤B)(hB':B≤2000){Q:MV→List MO→Prop}{X:XT}
  (hq:∀hp' fs',Stk L hp' st fs'→Oks p fs'→fs'≠[]→fs'.length≤(gs++[f]).length→wts fs'≤wts (gs++[f])→cls fs'<cls (gs++[f])→(∀h0:List MO,h0.length≤L→h0<+:hp→h0<+:hp')→Q .none hp'):K (N+1) 39 [.ref st] Q X hp:=by
 obtain ⟨S1,F1⟩:=S.pop
 obtain ⟨O1,hf⟩:=O.init
 have e1:cE (gs++[f])=cE gs++[.ref f.a]:=by simp [cE]
 have hlo:=S.lo
 have hfm:f∈gs++[f]:=List.mem_append_right _ (List.mem_singleton.mpr rfl)
 have hn:=S.ne f hfm
 have hlast:=S.last
 obtain ⟨t,et,ht,hkind⟩:=hf.kind.resolve_left (fun q=>hg (List.eq_nil_of_length_eq_zero q))
 obtain ⟨gs',g,eg⟩:=od hg
 rw [bR] at hB
 have hsz:∀h0:List MO,h0.length≤L→h0<+:hp→h0<+:hp.set st (.list (cE gs)):=fun h0 h1 h2=>aM h2 (n2 h1 hlo (by simp +arith only))
 refine hK _ _ _ _ _ _ dX rfl rfl ?_
 refine ay (DA S.at_) ?_
 refine ⟨rfl,?_⟩
 refine aY (aW S.at_) ?_
 refine ⟨rfl,?_⟩
 rw [e1]
 refine cJ (a:=.ref f.a) (by simp) ?_
 rw [List.dropLast_concat]
 change ax K N (dX.body.drop 1) (fin Q) _ ⟨[some (.ref st),some (.ref f.a)],hp.set st (.list (cE gs))⟩
 generalize hp.set st (.list (cE gs))=hp1 at *
 have fin_row:∀(hp2:List MO) (r:Rw),Stk L hp2 st gs→(∀h0:List MO,h0.length≤L→h0<+:hp→h0<+:hp2)→r.gp p→r.nest+gs'.length≤7→r.lines.length≤f.wt→Q .none (hp2.set g.ra (.list (mvs g.rows++[r.mv]))):=by
  intro hp2 r S2 h2 hr hnr hl
  subst eg
  have hgm:g∈gs'++[g]:=List.mem_append_right _ (List.mem_singleton.mpr rfl)
  have hgl:=(S2.ne g hgm).2.2.2
  obtain ⟨O2,hg2⟩:=O1.init
  refine hq _ _ (S2.add r) (O2.snoc (hg2.add hr hnr)) (by simp) (by simp) ?_ ?_ fun h0 q1 q2=>aM (h2 h0 q1 q2) (n2 q1 hgl (by simp +arith only))
  ·rw [bR,bR,bR,xH];exact n1 hl (by simp +arith only)
  ·rw [fY,fY,fY]
   have:({ g with rows:=g.rows++[r] }:Fr).cl=g.cl:=rfl
   rw [this]
   have:1≤f.cl:=by unfold Fr.cl;split<;>(try split)<;>exact nb rfl
   exact n1 this (by simp +arith only)
 have hgl:gs.length=gs'.length+1:=by rw [eg];simp
 have hwt:(lns f.rows).length+4≤f.wt:=by unfold Fr.wt;exact by simp +arith only
 have hnest:=hf.nest
 have hgw:g.wt≤B:=by rw [eg,bR] at hB;exact n1 hB (by simp +arith only)
 have cell:f.cells=[.str f.wd,t.mv,.ref f.ra,.bool f.sec,oR f.fst]:=by unfold Fr.cells;rw [et];rfl
 have hfc:=F1.1
 rw [cell] at hfc
 rcases hkind with hwd | ⟨hwd,hfst⟩
 ·rw [hwd] at hfc
  refine af hfc ?_
  refine af hfc ?_
  conv=>whnf
  cases hfs:f.fst with
  | none=>
   rw [hfs] at hfc
   refine ay (aA S1.at_) ?_
   refine af hfc ?_
   refine af hfc ?_
   refine af (ah hfc) ?_
   refine af (ah hfc) ?_
   refine af (ah F1.2) ?_
   have hlt:∀{i o},hp1[i]?=some o→i<hp1.length:=fun e=>(List.getElem?_eq_some_iff.mp e).1
   have hst:=hlt S1.at_
   have F2:l7 (hp1++[.list []]++[.list [.str wIf,t.mv,.ref hp1.length,.bool f.sec,.tup (mvs f.rows)]]) ⟨(hp1++[MO.list []]).length,hp1.length,wIf,some t,[],f.sec,some f.rows⟩:=⟨ac _ _,ah (ac _ _)⟩
   have hup:hp1<+:hp1++[.list []]++[.list [.str wIf,t.mv,.ref hp1.length,.bool f.sec,.tup (mvs f.rows)]]:=aa (aa (ai _))
   have S2:=(S1.up hup).push F2 (fun g hg=>hlt (S1.fr g hg).1) ⟨by show hp1.length<(hp1++[MO.list []]).length;simp,by show hp1.length≠st;exact Nat.ne_of_gt hst,by show (hp1++[MO.list []]).length≠st;simp;exact Nat.ne_of_gt (n1 hst (by simp +arith only)),by show L≤hp1.length;exact n2 hst hlo (by simp +arith only)⟩
   refine aY (aW (ag hup S1.at_)) ?_
   have hsz2:gs.length≤8:=n1 hnest (by simp +arith only)
   refine ⟨Nat.lt_of_lt_of_le (show (cE gs).length<9 by simp [cE];exact n1 hsz2 (by simp +arith only)) (aI (by decide)),?_⟩
   refine hq _ _ S2 (O1.snoc ⟨trivial,by show 0+gs.length≤7;exact n1 hnest (by simp +arith only),fun rs e=>by cases e;exact ⟨hf.good,hnest⟩,.inr ⟨t,rfl,ht,.inl rfl⟩⟩) (by simp) (by simp) ?_ ?_ fun h0 q1 q2=>aM ((hsz h0 q1 q2).trans hup) (n2 q1 hlo (by simp +arith only))
   ·rw [bR,bR]
    show wts gs+(0+(lns f.rows).length+4)≤_
    exact n1 hwt (by simp +arith only)
   ·rw [fY,fY]
    show cls gs+1<_
    have:f.cl=2:=by unfold Fr.cl;rw [hfs,hwd];rfl
    exact n1 (Nat.le_of_eq this.symm) (by simp +arith only)
  | some rs=>
   rw [hfs] at hfc
   have hrs:=hf.fst rs hfs
   show wpS K N (fZ _) _ _ _
   subst eg
   refine oe (r:=.ite t rs f.rows) S1 hgw hB' (fun Q hq=>?_) ?_
   ·conv=>whnf
    refine af hfc ?_
    refine af hfc ?_
    refine af hfc ?_
    refine af F1.2 ?_
    exact hq
   ·refine fin_row hp1 (.ite t rs f.rows) S1 hsz ⟨ht,hrs.1,hf.good⟩ ?_ ?_
    ·show max (aB rs) (aB f.rows)+1+gs'.length≤7
     have:=mx hrs.2 hnest
     rw [Nat.add_max_add_right,List.length_append] at this;exact n1 this (by simp +arith only [List.length_singleton])
    ·show ((lns rs++m7::(lns f.rows++[mz])).length+1)≤f.wt
     unfold Fr.wt
     rw [hfs,List.length_append,List.length_cons,List.length_append,List.length_singleton]
     exact by simp +arith only
 ·rw [hwd,hfst] at hfc
  have wrest:∀(hp2:List MO) (rows:List Rw),Stk L hp2 st gs→(∀h0:List MO,h0.length≤L→h0<+:hp→h0<+:hp2)→hp2[f.a]?=some (.list [.str fi,t.mv,.ref f.ra,.bool f.sec,.none])→hp2[f.ra]?=some (.list (mvs rows))→gps p rows→aB rows+gs.length≤7→(lns rows).length≤(lns f.rows).length+1→
    ax K N [fZ (.tup [.cst (.str fi),.idx (.var 1) (.cst (.int 1)),.blt .tuple [.idx (.var 1) (.cst (.int 2))]])] (fin Q) (fun c m=>X c m.heap) ⟨[some (.ref st),some (.ref f.a)],hp2⟩:=by
   intro hp2 rows S2 h2 e1 e2 hgr hnr hlr
   have S2':=S2
   rw [eg] at S2'
   show wpS K N (fZ _) _ _ _
   refine oe (r:=.wh t rows) S2' hgw hB' (fun Q hq=>?_) ?_
   ·conv=>whnf
    refine af e1 ?_
    refine af e1 ?_
    refine af e2 ?_
    exact hq
   ·refine fin_row hp2 (.wh t rows) S2 h2 ⟨ht,hgr⟩ (by show aB rows+1+gs'.length≤7;exact n2 hnr (Nat.le_of_eq hgl.symm) (by simp +arith only)) ?_
    show ((lns rows++[mz]).length+1)≤f.wt
    rw [List.length_append,List.length_singleton]
    exact n2 hlr hwt (by simp +arith only)
  have hend:=wrest hp1 f.rows S1 hsz hfc F1.2 hf.good hnest (Nat.le_succ _)
  refine af hfc ?_
  refine af hfc ?_
  cases t with
  | num k=>exact hend
  | nm s=>exact hend
  | op c a b=>
   conv=>whnf
   cases q:([c]==[60]) with
   | false=>exact hend
   | true=>
    refine af hfc ?_
    cases a with
    | num k=>exact hend
    | op c' x y=>
     conv=>whnf
     rw [show ([c']==lN)=false by simp]
     exact hend
    | nm s=>
     have hs:p s:=ht.1.2.1
     refine af hfc ?_
     refine ay (aA F1.2) ?_
     refine af hfc ?_
     refine af hfc ?_
     refine aY (aW F1.2) ?_
     refine ⟨rZ (show f.wt≤B by lia) hB',?_⟩
     have hgood:(Tm.op 43 (.nm s) (.num 1)).gp p:=⟨⟨.inl rfl,hs,by decide,by decide⟩,by show 1≤3;decide⟩
     refine wrest _ (f.rows++[.set s (.op 43 (.nm s) (.num 1))]) (S1.other hn.2.1 fun g hg=>?_) (fun h0 q1 q2=>aM (hsz h0 q1 q2) (n2 q1 hn.2.2.2 (by simp +arith only))) (ao (Nat.ne_of_lt (n1 hn.1 (by simp +arith only))) hfc) ?_ (fk hf.good (show gps p [.set s _] from ⟨⟨hs,hgood⟩,trivial⟩)) ?_ ?_
     ·have h1:=hlast g hg
      have h2:=(S1.ne g hg).1
      exact ⟨Nat.ne_of_gt h1,Nat.ne_of_gt (n2 h2 h1 (by simp +arith only))⟩
     ·rw [cz];exact get_set F1.2
     ·have:aB (f.rows++[.set s (.op 43 (.nm s) (.num 1))])≤aB f.rows:=cP (Nat.le_refl _) (Nat.zero_le _)
      exact n2 this hnest (by simp +arith only)
     ·rw [df,iV,List.length_append];exact Nat.le_refl _
end Internal
end
section
namespace Internal
variable {K:KT}
theorem DB {n i:Nat}{X:XM}{m:MS}{e:ME}(h:PB K n X m e){Q:Fl→MS→Prop}(hq:∀b,Q .next (m.set i (.bool b))):wpS K n (.asg [i] false e) Q X m:=h _ fun b=>hq b
structure At (L:Nat)(h0:List MO)(r:Nat)(ss:List (List Nat))(hp:List MO)(st:Nat)(fs:List Fr):Prop where
 S:Stk L hp st fs
 O:Oks (·∈ss) fs
 ne:fs≠[]
 len:fs.length≤8
 pre:h0<+:hp
 L0:h0.length≤L
 nm:h0[r]?=some (.list (ss.map .str))
 ten:ss.length=10
 gn:∀s∈ss,Gn s
section
variable {L st r:Nat}{h0 hp hp':List MO}{ss:List (List Nat)}{fs:List Fr}
theorem At.up (A:At L h0 r ss hp st fs)(e:hp<+:hp'):At L h0 r ss hp' st fs:=⟨A.S.up e,A.O,A.ne,A.len,A.pre.trans e,A.L0,A.nm,A.ten,A.gn⟩
theorem At.names (A:At L h0 r ss hp st fs):hp[r]?=some (.list (ss.map .str)):=ag A.pre A.nm
noncomputable def i6 (ss:List (List Nat))(hp:List MO)(i:Nat):Prop:=∃sl:List (List Nat),hp[i]?=some (.list (sl.map .str))∧sl≠[]∧∀s∈sl,s∈ss
theorem i6.up {i:Nat}(h:i6 ss hp i)(e:hp<+:hp'):i6 ss hp' i:=let ⟨sl,h1,h2⟩:=h;⟨sl,ag e h1,h2⟩
theorem ng (ht:ss.length=10)(hp:List MO):i6 ss (hp++[.list (aJ (ss.map MV.str) (some 5) none)]) hp.length:=
 ⟨ss.drop 5,by rw [ac,bv (by decide),List.map_drop];rfl,(fun e=>by have:=congrArg List.length e;rw [List.length_drop,ht] at this;cases this),fun s hs=>List.mem_of_mem_drop hs⟩
theorem ua (ht:ss.length=10)(hp:List MO):i6 ss (hp++[.list (aJ (ss.map MV.str) none (some 5))]) hp.length:=
 ⟨ss.take 5,by rw [ac,bT (by decide),List.map_take];rfl,(fun e=>by have:=congrArg List.length e;rw [List.length_take,ht] at this;cases this),fun s hs=>List.mem_of_mem_take hs⟩
theorem At.all (A:At L h0 r ss hp st fs):i6 ss hp r:=⟨ss,A.names,(fun e=>by have:=A.ten;rw [e] at this;cases this),fun s h=>h⟩
theorem At.row (A:At L h0 r ss hp st fs){gs:List Fr}{f:Fr}(e:fs=gs++[f]){w:Rw}(hg:w.gp (·∈ss))(hn:w.nest=0):At L h0 r ss (hp.set f.ra (.list (mvs f.rows++[w.mv]))) st (gs++[{ f with rows:=f.rows++[w] }]):=by
 obtain ⟨S,O,ne,len,pre,L0,nm,ten,gn⟩:=A
 subst e
 obtain ⟨O1,hf⟩:=O.init
 have hL:=(S.ne f (List.mem_append_right _ (List.mem_singleton.mpr rfl))).2.2.2
 refine ⟨S.add w,O1.snoc (hf.add hg ?_),by simp,by simpa using len,aM pre (Nat.le_trans L0 hL),L0,nm,ten,gn⟩
 have:=hf.nest
 exact n2 this (Nat.le_of_eq hn) (by simp +arith only)
theorem At.frame (A:At L h0 r ss hp st fs)(hl:fs.length<8){wd:List Nat}{t:Tm}{b:Bool}(ht:t.gp (·∈ss))(hwd:wd=wIf∨wd=fi) :
  At L h0 r ss ((hp++[MO.list []]++[MO.list [.str wd,t.mv,.ref hp.length,.bool b,.none]]).set st (.list (cE fs++[.ref (hp++[MO.list []]).length]))) st (fs++[⟨(hp++[MO.list []]).length,hp.length,wd,some t,[],b,none⟩]):=by
 obtain ⟨S,O,ne,len,pre,L0,nm,ten,gn⟩:=A
 have hlt:∀{i o},hp[i]?=some o→i<hp.length:=fun e=>(List.getElem?_eq_some_iff.mp e).1
 have hst:=hlt S.at_
 have hlo:=S.lo
 have hup:hp<+:hp++[.list []]++[.list [.str wd,t.mv,.ref hp.length,.bool b,.none]]:=aa (aa (ai _))
 have F2:l7 (hp++[.list []]++[.list [.str wd,t.mv,.ref hp.length,.bool b,.none]]) ⟨(hp++[MO.list []]).length,hp.length,wd,some t,[],b,none⟩:=⟨ac _ _,ah (ac _ _)⟩
 refine ⟨(S.up hup).push F2 (fun g hg=>hlt (S.fr g hg).1) ⟨by show hp.length<(hp++[MO.list []]).length;simp,by show hp.length≠st;exact Nat.ne_of_gt hst,by show (hp++[MO.list []]).length≠st;simp;exact Nat.ne_of_gt (n1 hst (by simp +arith only)),by show L≤hp.length;exact n2 hlo hst (by simp +arith only)⟩,O.snoc ⟨trivial,by show 0+fs.length≤7;exact n1 hl (by simp +arith only),(fun rs e=>by cases e),.inr ⟨t,rfl,ht,hwd.imp id fun h=>⟨h,rfl⟩⟩⟩,by simp,by simp;exact n1 hl (by simp +arith only),aM (pre.trans hup) (n2 hlo L0 (by simp +arith only)),L0,nm,ten,gn⟩
end
variable (hK:aK PP K)
include hK
theorem jv {L st r:Nat}{h0 hp:List MO}{ss:List (List Nat)}{fs:List Fr}(A:At L h0 r ss hp st fs)(hl:fs.length<8){wd:List Nat}{t:Tm}{b:Bool}(ht:t.gp (·∈ss))(hwd:wd=wIf∨wd=fi){M:Nat}{Q:MV→List MO→Prop}{X:XM}{v1 v2 v3 v4 v5:Option MV}{vs:List (Option MV)}
  (hq:∀hp' fs',At L h0 r ss hp' st fs'→wts fs'≤wts fs+4→Q .none hp') :
  ax K M [.expr (.mth .append (.var 0) [.list [.cst (.str wd),.var 6,.list [],.var 7,.cst .none]])] (fin Q) X ⟨some (.ref st)::v1::v2::v3::v4::v5::some t.mv::some (.bool b)::vs,hp⟩:=by
 have B:=A.frame hl (b:=b) ht hwd
 refine ay (aA A.S.at_) ?_
 refine aY (aW (ah (ah A.S.at_))) ?_
 refine ⟨Nat.lt_of_lt_of_le (show (cE fs).length<9 by simp [cE];exact Nat.le_trans hl (nb rfl)) (aI (by decide)),?_⟩
 refine hq _ _ B ?_
 rw [bR]
 exact Nat.le_refl _
omit hK in
theorem Fy {j:Nat}(h:j<4):∃w:Int,[MV.int 0,MV.int 4,MV.int 8,MV.int 0][j]?=some (.int w):=by
 have:j=0∨j=1∨j=2∨j=3:=by lia
 rcases this with rfl | rfl | rfl | rfl<;>exact ⟨_,rfl⟩
end Internal
end
section
namespace Internal
variable {K:KT}(hK:aK PP K)
include hK
omit hK in
noncomputable def PC (K:KT)(n:Nat)(X:XM)(m:MS)(e:ME)(φ:Prop):Prop:=∀Q:PQ,(∀b,(b=true→φ)→Q (.bool b) m)→wpE K n e Q X m
omit hK in
theorem DC {n:Nat}{X:XM}{m:MS}{a e:ME}{φ:Prop}(ha:PB K n X m a)(he:PC K n X m e φ):PC K n X m (.and [a,e]) φ:=fun Q hq=>ha _ fun b=>by
 cases b with
 | true=>exact he Q hq
 | false=>exact hq false fun h=>by cases h
omit hK in
theorem Ai {n:Nat}{X:XM}{m:MS}{a e c:ME}{φ:Prop}(ha:PB K n X m a)(he:PC K n X m e φ)(hc:PB K n X m c):PC K n X m (.and [a,e,c]) φ:=fun Q hq=>ha _ fun b=>by
 cases b with
 | true=>
  refine he _ fun b hb=>?_
  cases b with
  | true=>exact hc Q fun b'=>hq b' fun _=>hb rfl
  | false=>exact hq false fun h=>by cases h
 | false=>exact hq false fun h=>by cases h
omit hK in
theorem qT {n:Nat}{X:XM}{m:MS}{c:ME}{φ:Prop}{a b:List MSt}{Q:Fl→MS→Prop}(hc:PC K n X m c φ)(ha:φ→ax K n a Q X m)(hb:ax K n b Q X m):wpS K n (.ite c a b) Q X m:=
 hc _ fun t h=>by
  cases t with
  | true=>exact ha (h rfl)
  | false=>exact hb
omit hK in
theorem xI {n st:Nat}{X:XM}{vs:List (Option MV)}{hp:List MO}{fs:List Fr}(h:hp[st]?=some (.list (cE fs))):PC K n X ⟨some (.ref st)::vs,hp⟩ (.cmp .lt (.blt .len [.var 0]) (.cst (.int 8))) (fs.length<8):=fun Q hq=>by
 refine al h ?_
 refine hq _ fun e=>?_
 have:=of_decide_eq_true e
 simp [cE] at this
 lia
omit hK in
theorem Aj {n st:Nat}{X:XM}{vs:List (Option MV)}{hp:List MO}{fs:List Fr}(h:hp[st]?=some (.list (cE fs))):PC K n X ⟨some (.ref st)::vs,hp⟩ (.cmp .gt (.blt .len [.var 0]) (.cst (.int 1))) (1<fs.length):=fun Q hq=>by
 refine al h ?_
 refine hq _ fun e=>?_
 have:=of_decide_eq_true e
 simp [cE] at this
 lia
theorem sa {L st r:Nat}{h0 hp:List MO}{ss:List (List Nat)}{fs:List Fr}(A:At L h0 r ss hp st fs){B M:Nat}(hB:wts fs+5≤B)(hB':B≤2000)(hM:1≤M){more mode way:Int}{dark sec shut:Bool}{t:Tm}(ht:t.gp (·∈ss))(hmode:mode=0∨mode=1∨mode=2){Q:MV→List MO→Prop}{X:XT}
  (hq:∀hp' fs',At L h0 r ss hp' st fs'→wts fs'≤wts fs+5→Q .none hp') :
  ax K M (e8.body.drop 5) (fin Q) (fun c m=>X c m.heap) ⟨[some (.ref st),some (.ref r),some (.int more),some (.int mode),some (.int way),some (.bool dark),some t.mv,some (.bool sec),some (.bool shut),none,none],hp⟩:=by
 obtain ⟨gs,f,ef⟩:=od A.ne
 have hfB:f.wt≤B:=by rw [ef,bR] at hB;exact n1 hB (by simp +arith only)
 have put:∀{hp1:List MO} {w:Rw} {e:ME} {vs:List (Option MV)},hp<+:hp1→w.gp (·∈ss)→w.nest=0→w.lines.length=1→(∀Q:PQ,Q w.mv ⟨some (.ref st)::vs,hp1⟩→wpE K M e Q (fun c m=>X c m.heap) ⟨some (.ref st)::vs,hp1⟩)→ax K M [fZ e] (fin Q) (fun c m=>X c m.heap) ⟨some (.ref st)::vs,hp1⟩:=by
  intro hp1 w e vs hpre hg hn hl he
  have A1:=A.up hpre
  have S1:=A1.S
  rw [ef] at S1
  show wpS K M (fZ e) _ _ _
  refine oe S1 hfB hB' he ?_
  refine hq _ _ (A1.row ef hg hn) ?_
  rw [ef,bR,bR,xH,hl];exact by simp +arith only
 have setrow:∀{hp1:List MO} {i:Nat},hp<+:hp1→i6 ss hp1 i→ax K M [fZ (.tup [.cst (.str cW),.idx (.var 9) (.bin .mod (.bin .fdiv (.var 2) (.cst (.int 96))) (.blt .len [.var 9])),.var 6])] (fin Q) (fun c m=>X c m.heap)
   ⟨[some (.ref st),some (.ref r),some (.int more),some (.int mode),some (.int way),some (.bool dark),some t.mv,some (.bool sec),some (.bool shut),some (.ref i),none],hp1⟩:=by
  intro hp1 i hpre h1
  obtain ⟨sl,e1,hne,hsub⟩:=h1
  have hpos:0<sl.length:=List.length_pos_iff.mpr hne
  have hx:0≤more / 96 % (sl.length:Int)∧more / 96 % (sl.length:Int)<sl.length:=⟨Int.emod_nonneg _ (cne hpos),Int.emod_lt_of_pos _ (jT hpos)⟩
  have hk:(more / 96 % (sl.length:Int)).toNat<sl.length:=tn (z1 hx.1 (by simp +arith only)) (z1 hx.2 (by simp +arith only))
  refine put (w:=.set (sl[(more / 96 % (sl.length:Int)).toNat]'hk) t) hpre ⟨hsub _ (List.getElem_mem _),ht⟩ rfl rfl fun Q hq=>?_
  refine al e1 ?_
  rw [List.length_map]
  refine ay (decide_eq_true (z2 hx.1 hx.2 (by simp +arith only))) ?_
  refine af e1 ?_
  delta ci onO;try dsimp only
  rw [aL hx.1 (by rw [List.length_map];exact hx.2)]
  dsimp only
  rw [List.getElem?_map,List.getElem?_eq_getElem hk]
  exact hq
 show wpS K M _ _ _ _
 refine dE (cD rfl .lt (.inr (.inr rfl))) ?_ ?_
 ·have after:∀{hp1:List MO} {i:Nat},hp<+:hp1→i6 ss hp1 i→ax K M [.ite (.var 8) [.asg [9] false (.sl (.var 1) (some (.cst (.int 5))) none)] [],fZ (.tup [.cst (.str cW),.idx (.var 9) (.bin .mod (.bin .fdiv (.var 2) (.cst (.int 96))) (.blt .len [.var 9])),.var 6])] (fin Q) (fun c m=>X c m.heap)
    ⟨[some (.ref st),some (.ref r),some (.int more),some (.int mode),some (.int way),some (.bool dark),some t.mv,some (.bool sec),some (.bool shut),some (.ref i),none],hp1⟩:=by
   intro hp1 i hpre h1
   show wpS K M _ _ _ _
   refine dE (ju rfl) ?_ (setrow hpre h1)
   refine af ((A.up hpre).names) ?_
   exact setrow (aa hpre) (ng A.ten hp1)
  conv=>whnf
  dsimp only
  refine af A.names ?_
  refine af (ah A.names) ?_
  conv=>whnf
  dsimp only [MS.push]
  rw [ac]
  delta ci onO;try dsimp only
  refine az (lI) (nZ) ?_
  have hpre3:hp<+:hp++[MO.list (aJ (ss.map MV.str) none (some 5))]++[MO.list (aJ (ss.map MV.str) (some 5) none)]++[MO.list [.ref hp.length,.ref (hp++[MO.list (aJ (ss.map MV.str) none (some 5))]).length]]:=aa (aa (aa (ai _)))
  have hk:∃k,sel (more / 7 % 4==3) (MV.ref hp.length) (.ref (hp++[MO.list (aJ (ss.map MV.str) none (some 5))]).length)=.ref k∧i6 ss (hp++[MO.list (aJ (ss.map MV.str) none (some 5))]++[MO.list (aJ (ss.map MV.str) (some 5) none)]++[MO.list [.ref hp.length,.ref (hp++[MO.list (aJ (ss.map MV.str) none (some 5))]).length]]) k:=by
   cases (more / 7 % 4==3)
   ·exact ⟨_,rfl,(ua A.ten hp).up (aa (aa (ai _)))⟩
   ·exact ⟨_,rfl,(ng A.ten _).up (aa (ai _))⟩
  obtain ⟨k,ek,hk⟩:=hk
  rw [ek]
  conv=>whnf
  dsimp only [MS.push]
  rw [ac]
  have hr:=A.all
  rcases hmode with rfl | rfl | rfl
  ·exact after (aa hpre3) (hr.up (aa hpre3))
  ·exact after (aa hpre3) (hr.up (aa hpre3))
  ·exact after (aa hpre3) (hk.up (aa (ai _)))
 ·show wpS K M _ _ _ _
  refine dE (fX (cD rfl .eq (.inl rfl)) (xF (ju rfl))).1 ?_ ?_
  ·exact put (w:=.tell t) (ai _) ht rfl rfl fun Q hq=>hq
  ·show wpS K M _ _ _ _
   refine dE (cD rfl .eq (.inl rfl)) ?_ ?_
   ·exact put (w:=.skip) (ai _) trivial rfl rfl fun Q hq=>hq
   ·show wpS K M _ _ _ _
    refine qT (DC (cD rfl .lt (.inr (.inr rfl))) (xI A.S.at_)) (fun hl=>?_) ?_
    ·exact jv hK A hl ht (.inl rfl) fun hp' fs' A' h'=>hq hp' fs' A' (n1 h' (by simp +arith only))
    ·show wpS K M _ _ _ _
     refine qT (Ai (cD rfl .lt (.inr (.inr rfl))) (xI A.S.at_) (xF (ju rfl))) (fun hl=>?_) ?_
     ·show wpS K M _ _ _ _
      refine dE (fX (cD rfl .eq (.inl rfl)) (n9 rfl (by decide) (by decide) .gt (.inr rfl))).1 ?_ ?_
      ·have hk:(more / 384 % 5).toNat<ss.length:=by rw [A.ten];exact emN rfl
       have hg:(Tm.op 60 (.nm (ss[(more / 384 % 5).toNat]'hk)) (.num (1+more / 1920 % 4))).gp (·∈ss):=⟨⟨.inr (.inr (.inr (.inl rfl))),List.getElem_mem _,by lia,by lia⟩,by show 1≤3;decide⟩
       refine af A.names ?_
       delta ci onO;try dsimp only
       rw [aL (em0 rfl) (by rw [List.length_map];exact (Int.toNat_lt (em0 rfl)).mp hk)]
       dsimp only
       rw [List.getElem?_map,List.getElem?_eq_getElem hk]
       exact jv hK A hl hg (.inr rfl) fun hp' fs' A' h'=>hq hp' fs' A' (n1 h' (by simp +arith only))
      ·exact jv hK A hl ht (.inr rfl) fun hp' fs' A' h'=>hq hp' fs' A' (n1 h' (by simp +arith only))
     ·show wpS K M _ _ _ _
      refine qT (Aj A.S.at_) (fun hl=>?_) (hq hp fs A (by simp +arith only))
      obtain ⟨M,rfl⟩:∃M',M=M'+1:=⟨M-1,sb hM⟩
      have S1:=A.S
      have O1:=A.O
      rw [ef] at S1 O1
      have hgs:gs≠[]:=fun e=>by rw [ef,e] at hl;exact absurd hl (Nat.lt_irrefl 1)
      refine pD hK S1 O1 hgs (B:=B) (by rw [←ef];exact n1 hB (by simp +arith only)) hB' fun hp' fs' S' O' n' l' w' c' p'=>?_
      rw [←ef] at l' w'
      exact hq hp' fs' ⟨S',O',n',Nat.le_trans l' A.len,p' h0 A.L0 A.pre,A.L0,A.nm,A.ten,A.gn⟩ (n1 w' (by simp +arith only))
theorem EX {L st r:Nat}{h0 hp:List MO}{ss:List (List Nat)}{fs:List Fr}(A:At L h0 r ss hp st fs){B N:Nat}(hB:wts fs+5≤B)(hB':B≤2000)(hN:9≤N){more mode:Int}(hmode:mode=0∨mode=1∨mode=2){Q:MV→List MO→Prop}{X:XT}
  (hq:∀hp' fs',At L h0 r ss hp' st fs'→wts fs'≤wts fs+5→Q .none hp'):K N 40 [.ref st,.ref r,.int more,.int mode] Q X hp:=by
 obtain ⟨M,rfl,hM⟩:=room (k:=8) (show 8<N by lia)
 refine hK _ _ _ _ _ _ e8 rfl rfl ?_
 refine aG (aF A.S.at_) ?_
 refine rT (fun w=>⟨[some (.ref st),some (.ref r),some (.int more),some (.int mode),some (.int (more % 12)),none,none,none,none,none,w],hp⟩) (fun _=>True) none rfl trivial (fun _ _=>A.S.at_) (fun j y w P hy _ h1 h2=>?_) (fun a w _=>?_)
 ·obtain ⟨f,ef,rfl⟩:=Option.map_eq_some_iff.mp (List.getElem?_map ..▸hy)
  refine af ((A.S.fr f (List.mem_of_getElem? ef)).1) ?_
  conv=>whnf
  cases f.sec with
  | true=>exact h1 _ _ trivial
  | false=>exact h2 _ trivial
 ·refine .nil _ _ a rfl rfl (ah (ac _ _)) (ac _ _) ?_
  have A1:=A.up (aa (o:=.list []) (aa (o:=.list a) (ai hp)))
  refine Ah hK A1.names A1.gn hM fun hp2 t b hpre ht=>?_
  have hpre:hp++[.list a]++[.list []]<+:hp2:=hpre
  have A2:=A1.up hpre
  refine ⟨rfl,?_⟩
  change ax K M (e8.body.drop 3) (fin Q) _ ⟨[some (.ref st),some (.ref r),some (.int more),some (.int mode),some (.int (more % 12)),some (.bool (!a.isEmpty)),some t.mv,some (.bool b),none,none,none],hp2⟩
  show wpS K M _ _ _ _
  refine DB (fX (cD rfl .eq (.inl rfl)) (fX (ju rfl) (ju rfl)).2).1 fun shut=>?_
  show wpS K M _ _ _ _
  refine dE (cD rfl .eq (.inl rfl)) ?_ (sa hK A2 hB hB' (Nat.le_trans (nb rfl) hM) ht hmode hq)
  conv=>whnf
  dsimp only [MS.push,MS.set]
  rw [ac]
  delta ci onO;try dsimp only
  rw [aL (em0 rfl) (by show _<(4:Int);exact em2 rfl)]
  obtain ⟨w',ew⟩:=Fy (j:=(more / 7 % 4).toNat) (emN rfl)
  refine cJ ew ?_
  exact sa hK (A2.up (aa (ai _))) hB hB' (Nat.le_trans (nb rfl) hM) ht hmode hq
end Internal
end
section
namespace Internal
variable {N:Nat}{Q:MV→List MO→Prop}{h:List MO}
variable {K:KT}(hK:aK PP K)
include hK
omit hK in
theorem ub (x:Int):dt (mix x):=by
 have:=z0 x
 obtain ⟨n,hn⟩:=Int.eq_ofNat_of_zero_le this.1
 unfold dt
 rw [hn]
 exact Nat.lt_of_lt_of_le (Int.ofNat_lt.mp (hn▸this.2)) (nb rfl)
omit hK in
theorem At.base {L st r:Nat}{h0 hp:List MO}{ss:List (List Nat)}{f:Fr}(A:At L h0 r ss hp st [f]):hp[f.ra]?=some (.list (mvs f.rows))∧hp[f.a]?=some (.list f.cells)∧gps (·∈ss) f.rows∧aB f.rows≤7:=
 have h:=A.S.fr f (List.mem_singleton.mpr rfl)
 have o:=A.O 0 f rfl
 ⟨h.2,h.1,o.good,by have:=o.nest;exact this⟩
theorem uc {L st r:Nat}{h0 hp:List MO}{ss:List (List Nat)}{fs:List Fr}(A:At L h0 r ss hp st fs){M:Nat}(hM:1≤M){B:Nat}(hB':B≤2000)(hB:wts fs≤B){v0 v1 v2:Option MV}{vs:List (Option MV)}{X:XT}
  (hq:∀hp' i rows,h0<+:hp'→hp'[i]?=some (.list (mvs rows))→gps (·∈ss) rows→aB rows≤7→(lns rows).length≤B→Q (.ref i) hp') :
  ax K M (cV.body.drop 2) (fin Q) (fun c m=>X c m.heap) ⟨v0::v1::v2::some (.ref st)::vs,hp⟩:=by
 show wpS K M _ _ _ _
 refine ⟨cls fs+1,gz (fun k m=>∃hp fs,m=⟨v0::v1::v2::some (.ref st)::vs,hp⟩∧At L h0 r ss hp st fs∧wts fs≤B∧cls fs+1≤k) (fun m hI=>by obtain ⟨_,_,_,_,_,h⟩:=hI;exact nf (n1 h (by simp +arith only))) (fun k m W hI hW=>?_) _ _ ⟨hp,fs,rfl,A,hB,Nat.le_refl _⟩⟩
 obtain ⟨hp,fs,rfl,A,hB,hk⟩:=hI
 obtain ⟨gs,f,ef⟩:=od A.ne
 refine al A.S.at_ ?_
 conv=>whnf
 cases gs with
 | nil=>
  subst ef
  obtain ⟨b1,b2,b3,b4⟩:=A.base
  refine af A.S.at_ ?_
  refine af b2 ?_
  refine hq hp f.ra f.rows A.pre b1 b3 b4 ?_
  have:wts ([]++[f])=f.wt+0:=rfl
  have:(lns f.rows).length+4≤f.wt:=by unfold Fr.wt;exact by simp +arith only
  lia
 | cons g gs=>
  have hl:(1:Int)<(cE fs).length:=by rw [ef];simp [cE];lia
  rw [decide_eq_true hl]
  obtain ⟨M,rfl⟩:∃M',M=M'+1:=⟨M-1,sb hM⟩
  have S1:=A.S
  have O1:=A.O
  rw [ef] at S1 O1
  refine pD hK S1 O1 (List.cons_ne_nil _ _) (B:=B) (by rw [←ef];exact hB) hB' fun hp' fs' S' O' n' l' w' c' p'=>?_
  rw [←ef] at l' w' c'
  exact hW _ ⟨hp',fs',rfl,⟨S',O',n',Nat.le_trans l' A.len,p' h0 A.L0 A.pre,A.L0,A.nm,A.ten,A.gn⟩,n2 w' hB (by simp +arith only),n2 c' hk (by simp +arith only)⟩
theorem Ak {rc r:Nat}{cells:List Int}{ss:List (List Nat)}{loose:Int}(hc:h[rc]?=some (.list (cells.map .int)))(hr:h[r]?=some (.list (ss.map .str)))(ten:ss.length=10)(gn:∀s∈ss,Gn s)(hz:cells.length≤63)(hN:10≤N){X:XT}
  (hq:∀hp' i rows,h<+:hp'→hp'[i]?=some (.list (mvs rows))→gps (·∈ss) rows→aB rows≤7→(lns rows).length≤4+5 * cells.length→Q (.ref i) hp'):K N 41 [.ref rc,.ref r,.int loose] Q X h:=by
 obtain ⟨M,rfl,hM⟩:=room (k:=9) (show 9<N by lia)
 have e1:(h++[MO.list []]).length=h.length+1:=by simp
 have e2:(h++[MO.list []]++[MO.list [.str [],.none,.ref h.length,.bool false,.none]]).length=h.length+2:=by simp
 have A0:At h.length h r ss (h++[MO.list []]++[MO.list [.str [],.none,.ref h.length,.bool false,.none]]++[MO.list [.ref (h++[MO.list []]).length]]) (h++[MO.list []]++[MO.list [.str [],.none,.ref h.length,.bool false,.none]]).length [⟨(h++[MO.list []]).length,h.length,[],none,[],false,none⟩]:=by
  refine ⟨⟨ac _ _,fun f hf=>?_,List.pairwise_singleton ..,fun f hf=>?_,by rw [e2];exact by simp +arith only⟩,fun i f e=>?_,List.cons_ne_nil _ _,Nat.le_of_ble_eq_true rfl,aa (aa (aa (ai _))),Nat.le_refl _,hr,ten,gn⟩
  ·rw [List.mem_singleton.mp hf]
   exact ⟨ah (ac _ _),ah (ah (ac _ _))⟩
  ·rw [List.mem_singleton.mp hf,e1,e2]
   exact ⟨by show h.length<h.length+1;exact by simp +arith only,by show h.length≠h.length+2;lia,by show h.length+1≠h.length+2;lia,Nat.le_refl _⟩
  ·cases i with
   | zero=>cases e;exact ⟨trivial,Nat.zero_le _,(fun rs e=>by cases e),.inl rfl⟩
   | succ i=>cases e
 refine hK _ _ _ _ _ _ cV rfl rfl ?_
 conv=>whnf
 dsimp only [cZ,MS.set,MS.push]
 refine aG (jp (ag A0.pre hc)) ?_
 generalize (h++[MO.list []]++[MO.list [.str [],.none,.ref h.length,.bool false,.none]]).length=st at *
 refine gw (fun j w4 w5 w6 w7 hp fs=>⟨[some (.ref rc),some (.ref r),some (.int loose),some (.ref st),w4,w5,w6,w7],hp⟩) (fun j w4 w5 w6 w7 hp fs=>At h.length h r ss hp st fs∧wts fs≤4+5 * j)
  _ _ _ _ _ _ rfl ⟨A0,Nat.le_refl 4⟩ (fun _ _ _ _ _ _ _ hI=>ag hI.1.pre hc) (fun j y w4 w5 w6 w7 hp fs P hy hI hn _=>?_) (fun w4 w5 w6 w7 hp fs hI=>?_)
 ·obtain ⟨A,hw⟩:=hI
  obtain ⟨z,hz1,rfl⟩:=nY hy
  obtain ⟨c,hc1,rfl⟩:=Option.map_eq_some_iff.mp (List.getElem?_map ..▸hz1)
  have hj:j<cells.length:=(List.getElem?_eq_some_iff.mp hc1).1
  have hc':=ag A.pre hc
  have last:∀more mode:Int,mode=0∨mode=1∨mode=2→ax K M [.expr (.call 40 [.var 3,.var 1,.var 6,.var 7])] P (fun c m=>X c m.heap) ⟨[some (.ref rc),some (.ref r),some (.int loose),some (.ref st),some (.int j),some (.int c),some (.int more),some (.int mode)],hp⟩:=fun more mode hm=>by
   refine EX hK A (B:=2000) (by lia) (Nat.le_refl _) hM hm fun hp' fs' A' hw'=>?_
   exact hn _ _ _ _ _ _ ⟨A',n2 hw' hw (by simp +arith only)⟩
  have second:∀more mode:Int,mode=0∨mode=1→ax K M [.ite (.and [.cmp .gt (.var 2) (.cst (.int 1)),.cmp .eq (.var 4) (.bin .mod (.var 2) (.blt .len [.var 0]))]) [.asg [7] false (.cst (.int 2))] [],.expr (.call 40 [.var 3,.var 1,.var 6,.var 7])] P (fun c m=>X c m.heap) ⟨[some (.ref rc),some (.ref r),some (.int loose),some (.ref st),some (.int j),some (.int c),some (.int more),some (.int mode)],hp⟩:=fun more mode hm=>by
   show wpS K M _ _ _ _
   refine dE (fX (cD rfl .gt (.inr (.inl rfl))) fun Q hq=>?_).1 (last more 2 (.inr (.inr rfl))) (last more mode (by lia))
   refine al hc' ?_
   refine ay (decide_eq_true (by rw [List.length_map];exact jT (n1 hj (by simp +arith only)))) ?_
   exact hq _
  refine ⟨rfl,?_⟩
  refine ⟨.inl (by unfold dt;decide),?_⟩
  obtain ⟨M,rfl⟩:∃M',M=M'+1:=⟨M-1,sb (n1 hN (by simp +arith only))⟩
  refine bL hK ?_
  refine ⟨.inl (ub _),?_⟩
  refine bL hK ?_
  change ax K (M+1) [_,_,_,_] P _ ⟨[some (.ref rc),some (.ref r),some (.int loose),some (.ref st),some (.int j),some (.int c),some (.int _),w7],hp⟩
  show wpS K (M+1) (.ite _ _ _) _ _ ⟨[some (.ref rc),some (.ref r),some (.int loose),some (.ref st),some (.int j),some (.int c),some (.int _),some (.int 0)],hp⟩
  refine dE (fX (cD rfl .eq (.inl rfl)) (n9 rfl (by decide) (by decide) .eq (.inl rfl))).1 (second _ 1 (.inr rfl)) (second _ 0 (.inl rfl))
 ·obtain ⟨A,hw⟩:=hI
  rw [pn,List.length_map] at hw
  exact uc hK A (Nat.le_trans (nb rfl) hM) (B:=4+5 * cells.length) (by lia) hw hq
end Internal
end
section
namespace Internal
variable {N:Nat}{Q:MV→List MO→Prop}{X:XT}{h:List MO}
noncomputable abbrev bC:List Nat:=[110,111,117,103,104,116]
noncomputable def Rw.ft:Rw→Tm
 | .set _ t=>t
 | .tell t=>t
 | .skip=>.num 0
 | .ite t _ _=>t
 | .wh t _=>t
noncomputable abbrev Txt:=List Nat
noncomputable def rn:Tm→List Txt
 | .op c a b=>rn a++rn b++(match c==47 with
  | true=>an b
  | false=>[])
 | _=>[]
noncomputable def dvs:Tm→Bool
 | .op c a b=>c==47||(dvs a||dvs b)
 | _=>false
theorem sf:∀{t:Tm}{x:Txt},x∈rn t→x∈an t
 | .num _,x,h=>aC h
 | .nm _,x,h=>aC h
 | .op c a b,x,h=>by
  show x∈an a++an b
  rcases List.mem_append.mp (show x∈rn a++rn b++_ from h) with h | h
  ·exact (List.mem_append.mp h).elim (fun h=>List.mem_append_left _ (sf h)) fun h=>List.mem_append_right _ (sf h)
  ·cases q:c==47 with
   | true=>rw [q] at h;exact List.mem_append_right _ h
   | false=>rw [q] at h;exact aC h
noncomputable abbrev ES:=List (List Nat × MV)
theorem pE {c i:Nat}{x:List Nat}{hp:List MO}{es:List (List Nat × MV)}(e:hp[i]?=some (.attrs es))(hx:(bf es x).isNone=true):yB c x (.inst c i) hp=true:=by
 show (match hp[i]? with
  | some (.attrs es)=>c==c&&(bf es x).isNone
  | _=>false)=true
 rw [e]
 show (c==c&&(bf es x).isNone)=true
 rw [hx,beq_self_eq_true];rfl
theorem l8:∀{es:List (List Nat × MV)}{k:List Nat}{v:MV},k∉es.map (·.1)→ch es k v=es++[(k,v)]
 | [],_,_,_=>rfl
 | (a,w)::es,k,v,h=>by
  have h1:(a==k)=false:=by
   cases q:a==k with
   | false=>rfl
   | true=>exact absurd (by rw [eq_of_beq q];exact .head _) h
  show (match a==k with | true=>_ | false=>_)=_
  rw [h1]
  show (a,w)::ch es k v=(a,w)::(es++[(k,v)])
  rw [l8 fun q=>h (.tail _ q)]
theorem og:∀{es:List (List Nat × MV)}{k:List Nat},k∈es.map (·.1)→∃v,bf es k=some v∧(k,v)∈es
 | [],k,h=>aC h
 | (a,w)::es,k,h=>by
  show ∃v,(match a==k with | true=>some w | false=>bf es k)=some v∧_
  cases q:a==k with
  | true=>rw [eq_of_beq q];exact ⟨w,rfl,.head _⟩
  | false=>
   rcases List.mem_cons.mp h with e | h
   ·rw [e,beq_self_eq_true] at q;exact tf q
   ·obtain ⟨v,h1,h2⟩:=og h;exact ⟨v,h1,.tail _ h2⟩
theorem xJ:∀{es:List (List Nat × MV)}{k:List Nat}{v:MV},bf es k=some v→(k,v)∈es
 | [],k,v,h=>aw h
 | (a,w)::es,k,v,h=>by
  replace h:(match a==k with | true=>some w | false=>bf es k)=some v:=h
  cases q:a==k with
  | true=>rw [q] at h;rw [←Option.some.inj h,eq_of_beq q];exact .head _
  | false=>rw [q] at h;exact .tail _ (xJ h)
theorem DD:∀(es:List (List Nat × MV)) (x:List Nat) (v:MV) (k:List Nat),bf (ch es x v) k=if k=x then some v else bf es k
 | [],x,v,k=>by
  show (match x==k with | true=>some v | false=>none)=_
  by_cases e:k=x
  ·subst e;rw [beq_self_eq_true,if_pos rfl]
  ·rw [if_neg e,beq_eq_false_iff_ne.mpr (Ne.symm e)];rfl
 | (y,w)::r,x,v,k=>by
  have ih:=DD r x v k
  by_cases e:y=x
  ·subst e
   show bf (match y==y with | true=>(y,v)::r | false=>(y,w)::ch r y v) k=_
   rw [beq_self_eq_true]
   show (match y==k with | true=>some v | false=>bf r k)=if k=y then some v else (match y==k with | true=>some w | false=>bf r k)
   by_cases e2:k=y
   ·subst e2;rw [beq_self_eq_true,if_pos rfl]
   ·rw [if_neg e2,beq_eq_false_iff_ne.mpr (Ne.symm e2)]
  ·show bf (match y==x with | true=>(y,v)::r | false=>(y,w)::ch r x v) k=_
   rw [beq_eq_false_iff_ne.mpr e]
   show (match y==k with | true=>some w | false=>bf (ch r x v) k)=if k=x then some v else (match y==k with | true=>some w | false=>bf r k)
   by_cases e2:y=k
   ·subst e2;rw [beq_self_eq_true,if_neg e]
   ·rw [beq_eq_false_iff_ne.mpr e2];exact ih
mutual
theorem ni:∀d:D,d.deq d=true
 | .none=>rfl
 | .bool b=>beq_self_eq_true b
 | .int i=>beq_self_eq_true i
 | .str s=>beq_self_eq_true s
 | .list xs=>hJ xs
 | .tup xs=>hJ xs
theorem hJ:∀ds:List D,D.deqs ds ds=true
 | []=>rfl
 | d::ds=>by
  show (d.deq d&&D.deqs ds ds)=true
  rw [ni d,hJ ds];rfl
end
theorem Al {hp:List MO}{x y:MV}{Q:Bool→Prop}(d:D)(h1:Rd hp x d)(h2:Rd hp y d)(h3:d.deep≤1000)(h4:d.ok=true)(h:Q true):EqP hp x y Q:=.mk d d h1 h2 h3 h4 h4 (by rw [ni];exact h)
theorem pF {es:ES}{x:Txt}:(bf es x).isSome=true↔x∈es.map (·.1):=by
 constructor
 ·intro h
  obtain ⟨v,e⟩:=Option.isSome_iff_exists.mp h
  exact List.mem_map.mpr ⟨_,xJ e,rfl⟩
 ·intro h
  obtain ⟨v,e,_⟩:=og h
  rw [e];rfl
noncomputable abbrev pG:Txt:=[116,117,114,110]
noncomputable def ats (ab:List Tm):List Txt:=ab.flatMap fun t=>aS (an t)
noncomputable def Rw.fs:Rw→List Txt
 | .skip=>[]
 | r=>aS (an r.ft)
noncomputable def cX (r:Rw)(ab:List Tm):List Txt:=aS (ats ab++r.fs)
theorem oh {ab:List Tm}{n:Txt}:n∈ats ab↔∃t∈ab,n∈an t:=by
 unfold ats
 rw [List.mem_flatMap]
 exact ⟨fun ⟨t,h,k⟩=>⟨t,h,aE.mp k⟩,fun ⟨t,h,k⟩=>⟨t,h,aE.mpr k⟩⟩
theorem xK {r:Rw}{n:Txt}(hr:r≠.skip):n∈r.fs↔n∈an r.ft:=by
 cases r with
 | skip=>exact absurd rfl hr
 | set s t=>exact aE
 | tell t=>exact aE
 | ite t a b=>exact aE
 | wh t a=>exact aE
theorem pH {r:Rw}{ab:List Tm}{n:Txt}(hr:r≠.skip):n∈cX r ab↔n∈ats ab∨n∈an r.ft:=by
 unfold cX
 rw [aE,List.mem_append,xK hr]
noncomputable abbrev Flw:=Int × Txt × Txt
noncomputable def qfl (q:Num):List Flw:=match q.2.1 with
 | .set x t=>(cX (.set x t) q.2.2).map fun s=>(q.1,s,x)
 | _=>[]
noncomputable def bq (qs:List Num):List Flw:=qs.flatMap qfl
inductive Rch (A B:List Txt)(fl:List Flw):Txt→Prop
 | base {x} (h:x∈B):Rch A B fl x
 | step {k s x} (h:(k,s,x)∈fl) (hs:Rch A B fl s) (hA:x∉A) (hB:x∉B):Rch A B fl x
noncomputable abbrev Lk:=Txt × List Txt
noncomputable def lk1 (A:List Txt)(r:Rw)(ab:List Tm):List Lk:=match r with
 | .set x t=>match A.contains x with
  | true=>[(cW,cX (.set x t) ab)]
  | false=>[]
 | _=>[]
noncomputable def lk2 (r:Rw)(ab:List Tm):List Lk:=match r with
 | .tell t=>[(iU,cX (.tell t) ab)]
 | _=>[]
noncomputable def lk3 (r:Rw)(ab:List Tm):List Lk:=match r with
 | .wh t a=>[(pG,cX (.wh t a) ab)]
 | _=>[]
noncomputable def lk4 (r:Rw)(ab:List Tm):List Lk:=match dvs r.ft with
 | true=>[(bC,aS (rn r.ft)++ats ab)]
 | false=>[]
noncomputable def lks (A:List Txt)(r:Rw)(ab:List Tm):List Lk:=lk1 A r ab++lk2 r ab++lk3 r ab++lk4 r ab
mutual
theorem DE {P:Tm→Prop}:∀(r:Rw) {k:Int}{ab:List Tm},(∀q∈r.num k ab,P q.2.1.ft)→(∀t∈ab,P t)→∀q∈r.num k ab,(∀t∈q.2.2,P t)∧q.2.2.length≤ab.length+r.nest
 | .set s t,k,ab,h,ha,q,hq=>by rw [List.mem_singleton.mp hq];exact ⟨ha,Nat.le_refl _⟩
 | .tell t,k,ab,h,ha,q,hq=>by rw [List.mem_singleton.mp hq];exact ⟨ha,Nat.le_refl _⟩
 | .skip,k,ab,h,ha,q,hq=>by rw [List.mem_singleton.mp hq];exact ⟨ha,Nat.le_refl _⟩
 | .ite t a b,k,ab,h,ha,q,hq=>by
  have hb:∀u∈ab++[t],P u:=fun u hu=>(List.mem_append.mp hu).elim (ha u) fun e=>by rw [List.mem_singleton.mp e];exact h (k,.ite t a b,ab) (.head _)
  rcases List.mem_cons.mp hq with rfl | hq
  ·exact ⟨ha,Nat.le_add_right _ _⟩
  ·show _∧_≤ab.length+(max (aB a) (aB b)+1)
   rcases List.mem_append.mp hq with hq | hq
   ·obtain ⟨h1,h2⟩:=gG a (fun q hq=>h q (.tail _ (List.mem_append_left _ hq))) hb q hq
    rw [List.length_append,List.length_singleton] at h2
    exact ⟨h1,n2 h2 (Nat.le_max_left (aB a) (aB b)) (by simp +arith only)⟩
   ·obtain ⟨h1,h2⟩:=gG b (fun q hq=>h q (.tail _ (List.mem_append_right _ hq))) hb q hq
    rw [List.length_append,List.length_singleton] at h2
    exact ⟨h1,n2 h2 (Nat.le_max_right (aB a) (aB b)) (by simp +arith only)⟩
 | .wh t a,k,ab,h,ha,q,hq=>by
  have hb:∀u∈ab++[t],P u:=fun u hu=>(List.mem_append.mp hu).elim (ha u) fun e=>by rw [List.mem_singleton.mp e];exact h (k,.wh t a,ab) (.head _)
  rcases List.mem_cons.mp hq with rfl | hq
  ·exact ⟨ha,Nat.le_add_right _ _⟩
  ·obtain ⟨h1,h2⟩:=gG a (fun q hq=>h q (.tail _ hq)) hb q hq
   rw [List.length_append,List.length_singleton] at h2
   exact ⟨h1,show _≤ab.length+(aB a+1) from n1 h2 (by simp +arith only)⟩
theorem gG {P:Tm→Prop}:∀(rs:List Rw) {k:Int}{ab:List Tm},(∀q∈nums k ab rs,P q.2.1.ft)→(∀t∈ab,P t)→∀q∈nums k ab rs,(∀t∈q.2.2,P t)∧q.2.2.length≤ab.length+aB rs
 | [],_,_,_,_,q,hq=>aC hq
 | r::rs,k,ab,h,ha,q,hq=>by
  show _∧_≤ab.length+max r.nest (aB rs)
  rcases List.mem_append.mp (show q∈r.num k ab++nums (k+r.size) ab rs from hq) with hq | hq
  ·obtain ⟨h1,h2⟩:=DE r (fun q hq=>h q (List.mem_append_left _ hq)) ha q hq
   exact ⟨h1,n2 h2 (Nat.le_max_left r.nest (aB rs)) (by simp +arith only)⟩
  ·obtain ⟨h1,h2⟩:=gG rs (fun q hq=>h q (List.mem_append_right _ hq)) ha q hq
   exact ⟨h1,n2 h2 (Nat.le_max_right r.nest (aB rs)) (by simp +arith only)⟩
end
theorem i7 {r:Rw}(h:r.good):r.ft.good:=by
 cases r with
 | set s t=>exact h.2
 | tell t=>exact h
 | skip=>exact ⟨⟨Int.le_refl 0,by decide⟩,Nat.zero_le _⟩
 | ite t a b=>exact h.1
 | wh t a=>exact h.1
theorem xL {r:Rw}{n:Txt}(h:n∈an r.ft):n∈r.nms:=by
 cases r with
 | set s t=>exact .tail _ (aE.mpr h)
 | tell t=>exact aE.mpr h
 | skip=>exact aC h
 | ite t a b=>exact aE.mpr h
 | wh t a=>exact aE.mpr h
structure LF (A B:List Txt)(rows:List Rw):Prop where
 gn:∀s∈A++B,Gn s
 nd:(A++B).Nodup
 len:A.length+B.length≤100
 g:dT rows
 sz:av rows≤400
 ne:aB rows≤7
 few:(aS (aN A B rows)).length<200
 ok:∀s∈aS (aN A B rows),okS s
 nf:∀q∈nums 1 [] rows,(cX q.2.1 q.2.2).length<64
structure nj (T:List Txt)(q:Num):Prop where
 good:q.2.1.good
 tg:∀t∈q.2.2,t.good
 am:∀n∈ats q.2.2,n∈T
 fn:∀n∈an q.2.1.ft,n∈T
 len:q.2.2.length≤7
 few:(cX q.2.1 q.2.2).length<64
theorem LF.nums {A B:List Txt}{rows:List Rw}(F:LF A B rows):∀q∈nums 1 [] rows,nj (aS (aN A B rows)) q:=fun q hq=>by
 have key:∀q∈Internal.nums 1 [] rows,q.2.1.ft.good∧∀n∈Internal.an q.2.1.ft,n∈aS (aN A B rows):=fun q hq=>⟨i7 (di F.g q hq),fun n hn=>aE.mpr (List.mem_append_right _ (List.mem_flatMap.mpr ⟨q,hq,xL hn⟩))⟩
 obtain ⟨h1,h2⟩:=gG rows (P:=fun t=>t.good∧∀n∈Internal.an t,n∈aS (aN A B rows)) key (fun _ h=>aC h) q hq
 refine ⟨di F.g q hq,fun t ht=>(h1 t ht).1,fun n hn=>?_,(key q hq).2,Nat.le_trans h2 (by rw [List.length_nil,Nat.zero_add];exact F.ne),F.nf q hq⟩
 obtain ⟨t,ht,hn⟩:=oh.mp hn
 exact (h1 t ht).2 n hn
theorem dj {t:Tm}(h:t.good):(aS (an t)).length≤8:=Nat.le_trans (fV _) (Nat.le_trans (cC t) h.lv)
theorem xM (ab:List Tm)(t:Tm):ats (ab++[t])=ats ab++aS (an t):=by
 unfold ats
 rw [List.flatMap_append]
 exact congrArg (_++·) (List.append_nil _)
theorem kh:∀{ab:List Tm},(∀t∈ab,t.good)→(ats ab).length≤8 * ab.length
 | [],_=>Nat.le_refl _
 | t::ab,h=>by
  have h1:=dj (h t (.head _))
  have h2:=kh (ab:=ab) fun u hu=>h u (.tail _ hu)
  show (aS (an t)++ats ab).length≤8 * (ab.length+1)
  rw [List.length_append];exact n2 h2 h1 (by simp +arith only)
theorem xN {r:Rw}(h:r.good):r.fs.length≤8:=by
 cases r with
 | skip=>exact Nat.zero_le _
 | set s t=>exact dj h.2
 | tell t=>exact dj h
 | ite t a b=>exact dj h.1
 | wh t a=>exact dj h.1
noncomputable abbrev Bh:Txt:=[111,112,101,110]
noncomputable abbrev Am:Txt:=[115,101,99,114,101,116]
noncomputable abbrev EY:Txt:=[102,114,101,101]
noncomputable def nk (A B:List Txt)(x:Txt):Txt:=match A.contains x with
 | true=>Bh
 | false=>match B.contains x with
  | true=>Am
  | false=>EY
noncomputable def hO (f:Flw):MV:=.tup [.int f.1,.str f.2.1,.str f.2.2]
theorem si {T:List Txt}{q:Num}(o:nj T q):(qfl q).length≤63:=by
 obtain ⟨k,r,ab⟩:=q
 cases r with
 | set x t=>
  show ((cX (.set x t) ab).map _).length≤63
  rw [List.length_map]
  exact Nat.le_of_lt_succ o.few
 | _=>exact Nat.zero_le _
theorem pI {T:List Txt}:∀{qs:List Num},(∀q∈qs,nj T q)→(bq qs).length≤63 * qs.length
 | [],_=>Nat.le_refl _
 | q::qs,h=>by
  have h1:=si (h q (.head _))
  have h2:=pI (qs:=qs) fun x hx=>h x (.tail _ hx)
  show (qfl q++bq qs).length≤63 * (qs.length+1)
  rw [List.length_append];exact n2 h2 h1 (by simp +arith only)
theorem i8 (a b:List Num):bq (a++b)=bq a++bq b:=List.flatMap_append ..
variable {K:KT}(hK:aK PP K)
include hK
theorem sj {ab:List Tm}(hg:∀t∈ab,t.good)(hl:ab.length≤7)(hN:6<N)(hq:∀h',h<+:h'→h'[h.length]?=some (.list ((ats ab).map .str))→Q (.ref h.length) h'):K N 101 [.tup (ab.map Tm.mv)] Q X h:=by
 obtain ⟨M,rfl,hM⟩:=room hN
 refine hK _ _ _ _ _ _ fM rfl rfl ?_
 refine iM (fun j w hp=>⟨[some (.tup (ab.map Tm.mv)),some (.ref h.length),w],hp⟩) (fun j w hp=>h<+:hp∧hp[h.length]?=some (.list ((ats (ab.take j)).map .str))) none _ rfl ⟨aa (ai _),ac _ _⟩ (fun _ _ _ _=>trivial) (fun j x w hp P hx hI hn _=>?_) (fun w hp hI=>?_)
 ·obtain ⟨p1,e1⟩:=hI
  obtain ⟨t,ht,rfl⟩:=Option.map_eq_some_iff.mp (List.getElem?_map ..▸hx)
  have hg1:=hg t (List.mem_of_getElem? ht)
  refine ay (jr e1) ?_
  refine lQ hK (by have:=hg1.2;exact n2 this hN (by simp +arith only)) hg1.1 (Nat.le_trans hg1.lv (nb rfl)) fun i h2 p2 l2 e2=>?_
  have e3:=ag p2 e1
  refine aY (aW e3) (aY (aW e2) ?_)
  have l1:=kh (ab:=ab.take j) fun u hu=>hg u (List.mem_of_mem_take hu)
  have l2:=dj hg1
  have l3:(ab.take j).length≤ab.length:=by rw [List.length_take];exact Nat.min_le_right ..
  refine ⟨aI (by rw [List.length_map,List.length_map];exact Nat.le_trans (Nat.add_le_add (Nat.le_trans l1 (Nat.mul_le_mul_left 8 (Nat.le_trans l3 hl))) l2) (nb rfl)),?_⟩
  refine hn _ _ ⟨aM (p1.trans p2) (Nat.le_refl _),?_⟩
  rw [ap ht,xM,List.map_append];exact get_set e3
 ·obtain ⟨p1,e1⟩:=hI
  rw [List.length_map,List.take_length] at e1
  exact hq hp p1 e1
theorem xO {T:List Txt}{k:Int}{r:Rw}{ab:List Tm}(o:nj T (k,r,ab))(hN:7<N)(hq:∀h' i,h<+:h'→h.length≤i→h'[i]?=some (.list ((cX r ab).map .str))→Q (.ref i) h'):K N 102 [r.mv,.tup (ab.map Tm.mv)] Q X h:=by
 obtain ⟨M,rfl,hM⟩:=room hN
 have few:(aS (ats ab++r.fs)).length<64:=o.few
 have la:(ats ab).length≤8 * ab.length:=kh o.tg
 have ll:ab.length≤7:=o.len
 have lf:r.fs.length≤8:=xN o.good
 refine hK _ _ _ _ _ _ gV rfl rfl ?_
 refine sj hK o.tg o.len hM fun h1 p1 e1=>?_
 have p1:h<+:h1:=p1
 have last:∀{hp:List MO} {i:Nat},h1<+:hp→hp[i]?=some (.list ((ats ab++r.fs).map .str))→ax K M [.ret (.blt .sortedSet [.var 2])] (fin Q) (fun c m=>X c m.heap) ⟨[some r.mv,some (.tup (ab.map Tm.mv)),some (.ref i)],hp⟩:=fun {hp i} p e=>by
  refine af e ?_
  refine .mk (ats ab++r.fs) rfl few (by rw [List.length_append];exact Nat.lt_of_le_of_lt (Nat.add_le_add (Nat.le_trans la (Nat.mul_le_mul_left 8 ll)) lf) (nb rfl)) (hq _ _ (aa (p1.trans p)) (Nat.le_trans p1.length_le p.length_le) (ac _ _))
 have more:∀{t:Tm},r.fm=t.mv→r.fs=aS (an t)→t.good→ax K M [.asg [2] false (.bin .add (.var 2) (.call 1 [.call 26 [.var 0]])),.ret (.blt .sortedSet [.var 2])] (fin Q) (fun c m=>X c m.heap) ⟨[some r.mv,some (.tup (ab.map Tm.mv)),some (.ref h.length)],h1⟩:=fun {t} h2 h3 ht=>by
  refine rX hK (jP (pu (n:=0) r)) (Nat.le_trans (nb rfl) hM) ?_
  rw [h2]
  refine lQ hK (by have:=ht.2;exact n2 this hN (by simp +arith only)) ht.1 (Nat.le_trans ht.lv (nb rfl)) fun i h4 p4 l4 e4=>?_
  have p4:h1<+:h4:=p4
  refine af (ag p4 e1) (af e4 ?_)
  rw [h3] at lf
  refine ⟨bU (Nat.le_trans (Nat.add_le_add (Nat.le_trans la (Nat.mul_le_mul_left 8 ll)) lf) (nb rfl)),?_⟩
  refine last (aa p4) ?_
  rw [h3];exact cA _ _ _
 cases r with
 | skip=>
  refine last (ai _) ?_
  rw [show ats ab++Rw.fs .skip=ats ab from List.append_nil _];exact e1
 | set s t=>exact more rfl rfl o.good.2
 | tell t=>exact more rfl rfl o.good
 | ite t a b=>exact more rfl rfl o.good.1
 | wh t a=>exact more rfl rfl o.good.1
theorem xP {i:Nat}{A B:List Txt}{rows:List Rw}{x:Txt}(hp:bW h i A B rows)(hg:∀s∈A++B,Gn s)(hx:okS x)(hN:0<N)(hq:Q (.str (nk A B x)) h):K N 65 [.inst 0 i,.str x] Q X h:=by
 obtain ⟨M,rfl,hM⟩:=room hN
 obtain ⟨a,b,h1,h2,h3⟩:=hp
 unfold nk at hq
 refine hK _ _ _ _ _ _ fy rfl rfl ?_
 refine dJ h1 ?_
 refine al h2 ?_
 refine bB hx (fun s hs=>(hg s (List.mem_append_left _ hs)).1.ok) ?_
 cases q:A.contains x with
 | true=>rw [q] at hq;exact hq
 | false=>
  rw [q] at hq
  refine dJ h1 ?_
  refine al h3 ?_
  refine bB hx (fun s hs=>(hg s (List.mem_append_right _ hs)).1.ok) ?_
  cases q:B.contains x with
  | true=>rw [q] at hq;exact hq
  | false=>rw [q] at hq;exact hq
theorem An {i:Nat}{A B:List Txt}{rows:List Rw}(hp:bW h i A B rows)(F:LF A B rows)(hN:9<N)
  (hq:∀h' r,h<+:h'→h.length≤r→h'[r]?=some (.list ((bq (nums 1 [] rows)).map hO))→Q (.ref r) h'):K N 103 [.inst 0 i] Q X h:=by
 obtain ⟨M,rfl,hM⟩:=room hN
 obtain ⟨a,b,h1,_,_⟩:=id hp
 have p1:h<+:h++[.list []]:=aa (ai _)
 have hF:=F.nums
 have ln:(nums 1 [] rows).length=av rows:=bw rows 1 []
 have sz:=F.sz
 refine hK _ _ _ _ _ _ pk rfl rfl ?_
 refine ay (pE (ag p1 h1) rfl) ?_
 refine lT hK (hp.up p1) (Nat.le_trans (nb rfl) hM) ?_
 refine lX hK rows (k:=1) (ab:=[]) (Nat.le_trans F.sz (nb rfl)) (by show 0+_≤_;exact n1 F.ne (by simp +arith only)) (n2 hN F.ne (by simp +arith only)) fun h4 p4 e4=>?_
 have p4:h++[.list []]<+:h4:=p4
 have l4:h.length<h4.length:=Nat.lt_of_lt_of_le (by rw [List.length_append];exact Nat.lt_succ_self _) p4.length_le
 refine aG (aF e4) ?_
 refine nX (fun j w2 w3 w4 w5 hp=>⟨[some (.inst 0 i),some (.ref h.length),w2,w3,w4,w5],hp⟩) (fun j w2 w3 w4 w5 hp=>A3 (h<+:hp) (hp[h.length]?=some (.list ((bq ((nums 1 [] rows).take j)).map hO))) (hp[(h++[MO.list []]).length]?=some (.list ((nums 1 [] rows).map b0))))
  none none none none _ rfl ⟨p1.trans p4,ag p4 (ac _ _),e4⟩ (fun _ _ _ _ _ _ hI=>hI.h3) (fun j x w2 w3 w4 w5 hp P hx hI hn _=>?_) (fun w2 w3 w4 w5 hp hI=>?_)
 ·obtain ⟨q1,q2,q3⟩:=hI
  obtain ⟨⟨k,r,ab⟩,hq1,rfl⟩:=Option.map_eq_some_iff.mp (List.getElem?_map ..▸hx)
  have o:=hF _ (List.mem_of_getElem? hq1)
  have lt:=pI (qs:=(nums 1 [] rows).take j) fun x hx=>hF x (List.mem_of_mem_take hx)
  have lj:=List.length_take_le j (nums 1 [] rows)
  have hj:=(List.getElem?_eq_some_iff.mp hq1).1
  refine ⟨rfl,?_⟩
  have skip:qfl (k,r,ab)=[]→P .next ⟨[some (.inst 0 i),some (.ref h.length),some (.int k),some r.mv,some (.tup (ab.map Tm.mv)),w5],hp⟩:=fun e=>hn _ _ _ _ _ ⟨q1,by rw [ap hq1,i8,show bq [(k,r,ab)]=[] from (List.append_nil _).trans e,List.append_nil];exact q2,q3⟩
  cases r with
  | skip=>exact skip rfl
  | tell t=>exact skip rfl
  | ite t a b=>exact skip rfl
  | wh t a=>exact skip rfl
  | set x t=>
   have lq:=si o
   refine ay (jr q2) ?_
   refine xO hK o (n1 hN (by simp +arith only)) fun h5 r5 p5 l5 e5=>?_
   have p5:hp<+:h5:=p5
   refine aG (aF e5) ?_
   refine gE (fun w=>⟨[some (.inst 0 i),some (.ref h.length),some (.int k),some (Rw.mv (.set x t)),some (.tup (ab.map Tm.mv)),w],h5⟩) (fun j=>((qfl (k,.set x t,ab)).map hO).take j) _ rfl rfl (fun _=>e5) (fun j z w P hz n1 n2=>?_) (fun w=>?_)
   ·obtain ⟨s,hs1,rfl⟩:=Option.map_eq_some_iff.mp (List.getElem?_map ..▸hz)
    refine n1 _ _ (ap ?_)
    show (((cX (.set x t) ab).map fun s=>(k,s,x)).map hO)[j]?=_
    rw [List.getElem?_map,List.getElem?_map,hs1];rfl
   ·have e6:((cX (.set x t) ab).map MV.str).length=((qfl (k,.set x t,ab)).map hO).length:=by
     show _=(((cX (.set x t) ab).map fun s=>(k,s,x)).map hO).length
     rw [List.length_map,List.length_map,List.length_map]
    rw [e6,List.take_length]
    have q4:=ah (o':=.list ((qfl (k,.set x t,ab)).map hO)) (ag p5 q2)
    refine aY (aW q4) (aY (aW (ac _ _)) ?_)
    refine ⟨aI (by rw [List.length_map,List.length_map];exact Nat.le_trans (Nat.add_le_add (Nat.le_trans lt (Nat.mul_le_mul_left 63 (Nat.le_trans lj (Nat.le_of_lt (Nat.lt_of_lt_of_le hj (Nat.le_trans (Nat.le_of_eq ln) sz)))))) lq) (nb rfl)),?_⟩
    refine hn _ _ _ _ _ ⟨aM (aa (q1.trans p5)) (Nat.le_refl _),?_,ao (by rw [List.length_append];exact Nat.ne_of_lt (Nat.lt_succ_self _)) (ah (ag p5 q3))⟩
    rw [ap hq1,i8,show bq [(k,.set x t,ab)]=qfl (k,.set x t,ab) from List.append_nil _,List.map_append]
    exact get_set q4
 ·obtain ⟨q1,q2,q3⟩:=hI
  rw [List.length_map,List.take_length] at q2
  exact hq _ _ q1 (Nat.le_refl _) q2
end Internal
end
section
namespace Internal
inductive Rn (A B:List Txt)(fl:List Flw):Nat→Txt→Prop
 | base {x} (h:x∈B):Rn A B fl 0 x
 | step {n k s x} (h:(k,s,x)∈fl) (hs:Rn A B fl n s) (hA:x∉A) (hB:x∉B):Rn A B fl (n+1) x
structure Dst (A B:List Txt)(fl:List Flw)(x:Txt)(d:Nat):Prop where
 at_:Rn A B fl d x
 le:∀n,Rn A B fl n x→d≤n
noncomputable abbrev ud:=List (Int × Txt)
inductive Pth (A B:List Txt)(fl:List Flw):ud→Txt→Prop
 | base {x} (h:x∈B):Pth A B fl [(0,x)] x
 | step {l s k x} (hl:Pth A B fl l s) (h:(k,s,x)∈fl) (hA:x∉A) (hB:x∉B):Pth A B fl (l++[(k,x)]) x
noncomputable def pM (p:Int × Txt):MV:=.tup [.int p.1,.str p.2]
section
variable {A B:List Txt}{fl:List Flw}
theorem Rn.rch {n:Nat}{x:Txt}(h:Rn A B fl n x):Rch A B fl x:=by
 induction h with
 | base h=>exact .base h
 | step h _ hA hB ih=>exact .step h ih hA hB
theorem Rch.rn {x:Txt}(h:Rch A B fl x):∃n,Rn A B fl n x:=by
 induction h with
 | base h=>exact ⟨0,.base h⟩
 | step h _ hA hB ih=>obtain ⟨n,hn⟩:=ih;exact ⟨n+1,.step h hn hA hB⟩
theorem Dst.rch {x:Txt}{d:Nat}(h:Dst A B fl x d):Rch A B fl x:=h.at_.rch
theorem Dst.one {x:Txt}{d e:Nat}(h:Dst A B fl x d)(k:Dst A B fl x e):d=e:=Nat.le_antisymm (h.le _ k.at_) (k.le _ h.at_)
noncomputable def upd (f:Txt→Nat)(x:Txt)(v:Nat):Txt→Nat:=fun y=>match y==x with
 | true=>v
 | false=>f y
theorem dF {f:Txt→Nat}{x:Txt}{v:Nat}:upd f x v x=v:=by
 show (match x==x with | true=>v | false=>f x)=v
 rw [beq_self_eq_true]
theorem qU {f:Txt→Nat}{x y:Txt}{v:Nat}(h:y≠x):upd f x v y=f y:=by
 show (match y==x with | true=>v | false=>f y)=f y
 rw [beq_eq_false_iff_ne.mpr h]
structure RL (A B:List Txt)(fl:List Flw)(f:Txt→Nat)(ws:List Txt)(n:Nat):Prop where
 base:∀x∈B,x∈ws∧f x=0
 snd:∀x∈ws,Rn A B fl (f x) x
 cl:∀s∈ws.take n,∀k x,(k,s,x)∈fl→x∉A→x∉B→x∈ws∧f x≤f s+1
 mono:ws.Pairwise fun a b=>f a≤f b
 near:∀a,ws[n]?=some a→∀x∈ws,f x≤f a+1
theorem RL.low {f:Txt→Nat}{ws:List Txt}{n:Nat}(h:RL A B fl f ws n)(hn:ws.length≤n){m:Nat}{x:Txt}(r:Rn A B fl m x):x∈ws∧f x≤m:=by
 induction r with
 | base hb=>obtain ⟨h1,h2⟩:=h.base _ hb;exact ⟨h1,Nat.le_of_eq h2⟩
 | step hf _ hA hB ih=>
  obtain ⟨h1,h2⟩:=h.cl _ (by rw [List.take_of_length_le hn];exact ih.1) _ _ hf hA hB
  exact ⟨h1,Nat.le_trans h2 (Nat.succ_le_succ ih.2)⟩
theorem RL.all {f:Txt→Nat}{ws:List Txt}{n:Nat}(h:RL A B fl f ws n)(hn:ws.length≤n)(x:Txt):x∈ws↔Rch A B fl x:=
 ⟨fun hx=>(h.snd x hx).rch,fun r=>by obtain ⟨m,hm⟩:=r.rn;exact (h.low hn hm).1⟩
theorem RL.isd {f:Txt→Nat}{ws:List Txt}{n:Nat}(h:RL A B fl f ws n)(hn:ws.length≤n){x:Txt}(hx:x∈ws):Dst A B fl x (f x):=⟨h.snd x hx,fun _ r=>(h.low hn r).2⟩
theorem RL.turn {f:Txt→Nat}{ws:List Txt}{n j:Nat}{k:Int}{src s x:Txt}(L:RL A B fl f ws n)(hc:∀k x,(k,src,x)∈fl.take j→x∉A→x∉B→x∈ws∧f x≤f src+1)(e:ws[n]?=some src)(hj:fl[j]?=some (k,s,x)) :
  ((s=src→x∉A→x∉B→x∈ws)→∀k x,(k,src,x)∈fl.take (j+1)→x∉A→x∉B→x∈ws∧f x≤f src+1)∧
  (x∉ws→s=src→x∉A→x∉B→RL A B fl (upd f x (f src+1)) (ws++[x]) n∧(∀k y,(k,src,y)∈fl.take (j+1)→y∉A→y∉B→y∈ws++[x]∧upd f x (f src+1) y≤upd f x (f src+1) src+1)∧(ws++[x])[n]?=some src):=by
 have d:∀{k' y},(k',src,y)∈fl.take (j+1)→(k',src,y)∈fl.take j∨(s=src∧y=x):=fun hy=>by
  rw [ap hj] at hy
  exact (List.mem_append.mp hy).imp_right fun hy=>by cases List.mem_singleton.mp hy;exact ⟨rfl,rfl⟩
 have hsrc:=List.mem_of_getElem? e
 refine ⟨fun h4 k' y hy hA hB=>(d hy).elim (fun hy=>hc k' y hy hA hB) fun q=>by obtain ⟨q,rfl⟩:=q;exact ⟨h4 q hA hB,L.near _ e y (h4 q hA hB)⟩,fun hx hs hA hB=>?_⟩
 have old:∀{y},y∈ws→upd f x (f src+1) y=f y:=fun hy=>qU fun q=>hx (q▸hy)
 have e':(ws++[x])[n]?=some src:=ah e
 have up:∀{y s'},y∈ws∧f y≤f s'+1→s'∈ws→y∈ws++[x]∧upd f x (f src+1) y≤upd f x (f src+1) s'+1:=fun h h'=>⟨List.mem_append_left _ h.1,by rw [old h.1,old h'];exact h.2⟩
 refine ⟨⟨fun y hy=>?_,fun y hy=>?_,fun s' hs' k'' y hf' hA hB=>?_,?_,fun a ha y hy=>?_⟩,fun k' y hy hA hB=>?_,e'⟩
 ·obtain ⟨h1,h2⟩:=L.base y hy
  exact ⟨List.mem_append_left _ h1,by rw [old h1];exact h2⟩
 ·rcases List.mem_append.mp hy with hy | hy
  ·rw [old hy];exact L.snd y hy
  ·rw [List.mem_singleton.mp hy,dF]
   exact .step (hs▸List.mem_of_getElem? hj) (L.snd _ hsrc) hA hB
 ·rw [List.take_append_of_le_length (Nat.le_of_lt (List.getElem?_eq_some_iff.mp e).1)] at hs'
  exact up (L.cl s' hs' k'' y hf' hA hB) (List.mem_of_mem_take hs')
 ·refine List.pairwise_append.mpr ⟨L.mono.imp_of_mem fun ha hb h=>by rw [old ha,old hb];exact h,List.pairwise_singleton ..,fun a ha b hb=>?_⟩
  rw [List.mem_singleton.mp hb,dF,old ha]
  exact L.near _ e a ha
 ·obtain rfl:=same e' ha
  rw [old hsrc]
  rcases List.mem_append.mp hy with hy | hy
  ·rw [old hy];exact L.near _ e y hy
  ·rw [List.mem_singleton.mp hy,dF];exact Nat.le_refl _
 ·rcases d hy with hy | ⟨_,rfl⟩
  ·exact up (hc k' y hy hA hB) hsrc
  ·exact ⟨List.mem_append_right _ (List.mem_singleton.mpr rfl),by rw [dF,old hsrc];exact Nat.le_refl _⟩
theorem RL.next {f:Txt→Nat}{ws:List Txt}{n:Nat}{src:Txt}(L:RL A B fl f ws n)(hc:∀k x,(k,src,x)∈fl→x∉A→x∉B→x∈ws∧f x≤f src+1)(e:ws[n]?=some src):RL A B fl f ws (n+1):=
 ⟨L.base,L.snd,fun s hs k x hf hA hB=>by
  rw [ap e] at hs
  rcases List.mem_append.mp hs with hs | hs
  ·exact L.cl s hs k x hf hA hB
  ·rw [List.mem_singleton.mp hs] at hf ⊢;exact hc k x hf hA hB,L.mono,fun a ha x hx=>by
  obtain ⟨h1,h2⟩:=List.getElem?_eq_some_iff.mp e
  obtain ⟨h3,h4⟩:=List.getElem?_eq_some_iff.mp ha
  have h5:=List.pairwise_iff_getElem.mp L.mono n (n+1) h1 h3 (Nat.lt_succ_self _)
  rw [h2,h4] at h5
  exact Nat.le_trans (L.near _ e x hx) (Nat.succ_le_succ h5)⟩
structure Fz (A B:List Txt)(fl:List Flw)(hp:List MO)(w:Nat)(x:Txt)(v:MV)(n:Nat):Prop where
 ex:∃i l,v=.ref i∧w<i∧hp[i]?=some (.list (l.map pM))∧Pth A B fl l x∧l.length=n+1
structure RI (A B:List Txt)(fl:List Flw)(f:Txt→Nat)(h:List MO)(T:List Txt)(hp:List MO)(es:ES)(ws:List Txt):Prop where
 pre:h<+:hp
 d:hp[h.length]?=some (.dict es)
 w:hp[h.length+1]?=some (.list (ws.map .str))
 keys:es.map (·.1)=ws
 nd:ws.Nodup
 rd:∀e∈es,Fz A B fl hp (h.length+1) e.1 e.2 (f e.1)
 lt:∀x∈ws,f x<ws.length
 sub:∀x∈ws,x∈T
variable {f:Txt→Nat}{h:List MO}{T:List Txt}{hp hp':List MO}{es:ES}{ws:List Txt}
theorem RI.up (r:RI A B fl f h T hp es ws)(p:hp<+:hp'):RI A B fl f h T hp' es ws:=⟨r.pre.trans p,ag p r.d,ag p r.w,r.keys,r.nd,fun e he=>by
 obtain ⟨i,k,h1,h2,h3,h4⟩:=(r.rd e he).ex
 exact ⟨i,k,h1,h2,ag p h3,h4⟩,r.lt,r.sub⟩
theorem RI.few (r:RI A B fl f h T hp es ws)(hT:T.length<200):ws.length<200:=Nat.lt_of_le_of_lt (fg ws T r.nd r.sub) hT
theorem RI.len (r:RI A B fl f h T hp es ws):es.length=ws.length:=by rw [←r.keys,List.length_map]
theorem RI.add (r:RI A B fl f h T hp es ws){x:Txt}(hx:x∉ws)(hT:x∈T){i n:Nat}{l:ud}(hi:h.length+1<i)(e:hp[i]?=some (.list (l.map pM)))(hl:Pth A B fl l x)(hn:l.length=n+1)(hw:n≤ws.length) :
  RI A B fl (upd f x n) h T ((hp.set h.length (.dict (ch es x (.ref i)))).set (h.length+1) (.list ((ws++[x]).map .str))) (ch es x (.ref i)) (ws++[x]):=by
 have hd:ch es x (.ref i)=es++[(x,.ref i)]:=l8 (by rw [r.keys];exact hx)
 have keep:∀{j:Nat} {o:MO},h.length+1<j→hp[j]?=some o→((hp.set h.length (.dict (ch es x (.ref i)))).set (h.length+1) (.list ((ws++[x]).map .str)))[j]?=some o:=fun hj ho=>ao (Nat.ne_of_lt hj) (ao (Nat.ne_of_lt (Nat.lt_trans (Nat.lt_succ_self _) hj)) ho)
 have old:∀{y},y∈ws→upd f x n y=f y:=fun hy=>qU fun q=>hx (q▸hy)
 refine ⟨aM (aM r.pre (Nat.le_refl _)) (Nat.le_succ _),ao (Nat.succ_ne_self _) (get_set r.d),get_set (ao (Ne.symm (Nat.succ_ne_self _)) r.w),?_,?_,fun q hq=>?_,fun y hy=>?_,fun y hy=>?_⟩
 ·rw [hd,List.map_append,r.keys];rfl
 ·exact List.nodup_append.mpr ⟨r.nd,List.nodup_cons.mpr ⟨List.not_mem_nil,List.nodup_nil⟩,fun a ha b hb e=>hx (by rw [←List.mem_singleton.mp hb,←e];exact ha)⟩
 ·rw [hd] at hq
  rcases List.mem_append.mp hq with hq | hq
  ·obtain ⟨i',l',h1,h2,h3,h4⟩:=(r.rd q hq).ex
   rw [old (by rw [←r.keys];exact List.mem_map.mpr ⟨q,hq,rfl⟩)]
   exact ⟨i',l',h1,h2,keep h2 h3,h4⟩
  ·rw [List.mem_singleton.mp hq,dF]
   exact ⟨i,l,rfl,hi,keep hi e,hl,hn⟩
 ·rw [List.length_append,List.length_singleton]
  rcases List.mem_append.mp hy with hy | hy
  ·rw [old hy];exact Nat.lt_succ_of_lt (r.lt y hy)
  ·rw [List.mem_singleton.mp hy,dF];exact Nat.lt_succ_of_le hw
 ·rcases List.mem_append.mp hy with hy | hy
  ·exact r.sub y hy
  ·rw [List.mem_singleton.mp hy];exact hT
structure qV (A B:List Txt)(fl:List Flw)(hp:List MO)(es:ES):Prop where
 keys:∀x,x∈es.map (·.1)↔Rch A B fl x
 rd:∀e∈es,∃i l d,e.2=.ref i∧hp[i]?=some (.list (l.map pM))∧Pth A B fl l e.1∧l.length=d+1∧Dst A B fl e.1 d∧d<200
end
end Internal
end
section
namespace Internal
variable {N:Nat}{Q:MV→List MO→Prop}{X:XT}{h:List MO}
theorem DF {A B:List Txt}{rows:List Rw}:∀f∈bq (nums 1 [] rows),f.2.2∈aS (aN A B rows):=fun f hf=>by
 obtain ⟨⟨k,r,ab⟩,hq,hf⟩:=List.mem_flatMap.mp hf
 refine aE.mpr (List.mem_append_right _ (List.mem_flatMap.mpr ⟨_,hq,?_⟩))
 cases r with
 | set x t=>
  obtain ⟨s,_,rfl⟩:=List.mem_map.mp (show f∈(cX (.set x t) ab).map fun s=>(k,s,x) from hf)
  exact .head _
 | _=>exact aC hf
theorem DG {fl:List Flw}{j:Nat}{v:MV}(e:(fl.map hO)[j]?=some v):∃k s x,fl[j]?=some (k,s,x)∧v=hO (k,s,x):=by
 obtain ⟨⟨k,s,x⟩,h1,h2⟩:=List.getElem?_map ..▸e |> Option.map_eq_some_iff.mp
 exact ⟨k,s,x,h1,h2.symm⟩
variable {K:KT}(hK:aK PP K)
include hK
theorem ue {f:Txt→Nat}{T A B:List Txt}{rows:List Rw}{i p N:Nat}{fl:List Flw}{hp:List MO}{es:ES}{ws:List Txt}{v3:Option MV}{w7 w8:Option MV}{at_:Int}{k:Int}{src s x:Txt}{P:Fl→MS→Prop}{X:XM}(r:RI A B fl f h T hp es ws)(hT:T.length<200)(hpg:bW h i A B rows)(hg:∀s∈A++B,Gn s)(hx:okS x)(hxT:x∈T)(hs:src∈ws)(hm:(k,s,x)∈fl)(hN:0<N)
  (hf:h.length+1<p) (hfl:hp[p]?=some (.list (fl.map hO)))
  (q0:(s=src→x∉A→x∉B→x∈ws)→P .next ⟨[some (.inst 0 i),some (.ref h.length),some (.ref (h.length+1)),some (.str x),some (.ref p),some (.int at_),some (.str src),some (.int k),some (.str s)],hp⟩)
  (q1:∀hp' es',RI A B fl (upd f x (f src+1)) h T hp' es' (ws++[x])→hp'[p]?=some (.list (fl.map hO))→x∉ws→s=src→x∉A→x∉B→P .next ⟨[some (.inst 0 i),some (.ref h.length),some (.ref (h.length+1)),some (.str x),some (.ref p),some (.int at_),some (.str src),some (.int k),some (.str s)],hp'⟩) :
  asg [7,8,3] true (hO (k,s,x)) (fun m=>ax K N [.ite (.and [.cmp .eq (.var 8) (.var 6),.cmp .nin (.var 3) (.var 1),.cmp .eq (.umth 0 65 [107,105,110,100] (.var 0) [.var 3]) (.cst (.str [102,114,101,101]))]) [.setIdx (.var 1) (.var 3) (.bin .add (.idx (.var 1) (.var 6)) (.list [.tup [.var 7,.var 3]])),.expr (.mth .append (.var 2) [.var 3])] []] P X m) ⟨[some (.inst 0 i),some (.ref h.length),some (.ref (h.length+1)),v3,some (.ref p),some (.int at_),some (.str src),w7,w8],hp⟩:=by
 obtain ⟨a,b,h1,_,_⟩:=hpg.up r.pre
 have few:=r.few hT
 refine ⟨rfl,?_⟩
 conv=>whnf
 cases q1':(s==src) with
 | false=>exact q0 fun e=>by rw [e,beq_self_eq_true] at q1';exact tf q1'
 | true=>
  refine je r.d ?_
  conv=>whnf
  cases q2:(bf es x).isSome with
  | true=>exact q0 fun _ _ _=>r.keys▸pF.mp q2
  | false=>
   have hnew:x∉ws:=fun hx=>by rw [pF.mpr (r.keys.symm▸hx)] at q2;exact tf q2
   refine ay (pE h1 rfl) ?_
   refine xP hK (hpg.up r.pre) hg hx hN ?_
   unfold nk
   cases q3:A.contains x with
   | true=>exact q0 fun _ hA=>absurd (List.contains_iff_mem.mp q3) hA
   | false=>
    cases q4:B.contains x with
    | true=>exact q0 fun _ _ hB=>absurd (List.contains_iff_mem.mp q4) hB
    | false=>
     have hA:x∉A:=fun q=>by rw [List.contains_iff_mem.mpr q] at q3;exact tf q3
     have hB:x∉B:=fun q=>by rw [List.contains_iff_mem.mpr q] at q4;exact tf q4
     have hs':s=src:=eq_of_beq q1'
     obtain ⟨v,e1,e2⟩:=og (es:=es) (k:=src) (by rw [r.keys];exact hs)
     obtain ⟨j,l,e3,e4,e5,e6,e7⟩:=(r.rd _ e2).ex
     obtain rfl:v=.ref j:=e3
     have e7:l.length=f src+1:=e7
     have lt:=r.lt src hs
     refine dc r.d ?_
     refine cJ e1 ?_
     refine af (ah e5) (af (ac _ _) ?_)
     refine ⟨aI (by rw [List.length_map,List.length_singleton];exact n3 lt (Nat.le_of_eq e7) few (by simp +arith only)),?_⟩
     have p2:hp<+:hp++[MO.list [.tup [.int k,.str x]]]++[MO.list (l.map pM++[.tup [.int k,.str x]])]:=aa (aa (ai _))
     have r2:=r.up p2
     refine dc r2.d ?_
     refine ⟨by rw [r.len];exact Nat.lt_of_lt_of_le few (aI (nb rfl)),?_⟩
     have r3:RI A B fl (upd f x (f src+1)) h T _ _ _:=r2.add hnew hxT (i:=(hp++[MO.list [.tup [.int k,.str x]]]).length) (l:=l++[(k,x)]) ?_ (by rw [List.map_append];exact ac _ _) (.step e6 (hs'▸hm) hA hB) (by rw [List.length_append,e7];rfl) lt
     ·have hw:((hp++[MO.list [.tup [.int k,.str x]]]++[MO.list (l.map pM++[.tup [.int k,.str x]])]).set h.length (.dict (ch es x (.ref (hp++[MO.list [.tup [.int k,.str x]]]).length))))[h.length+1]?=some (.list (ws.map .str)):=ao (Ne.symm (Nat.succ_ne_self _)) r2.w
      refine ay (aA hw) (aY (aW hw) ?_)
      refine ⟨by rw [List.length_map];unfold line;exact Nat.le_trans few (nb rfl),?_⟩
      rw [List.map_append] at r3
      exact q1 _ _ r3 (ao (Nat.ne_of_lt hf) (ao (Nat.ne_of_lt (Nat.lt_trans (Nat.lt_succ_self _) hf)) (ag p2 hfl))) hnew hs' hA hB
     ·have:=(List.getElem?_eq_some_iff.mp r.w).1
      rw [List.length_append,List.length_singleton];exact n1 this (by simp +arith only)
theorem qW {T A B:List Txt}{rows:List Rw}{i p N:Nat}{fl:List Flw}{f:Txt→Nat}{hp:List MO}{es:ES}{ws:List Txt}{v3:Option MV}(r:RI A B fl f h T hp es ws)(hT:T.length<200)(hpg:bW h i A B rows)(hg:∀s∈A++B,Gn s)(hok:∀x∈T,okS x)(hN:0<N)
  (hf:h.length+1<p) (hfl:hp[p]?=some (.list (fl.map hO))) (hfT:∀f∈fl,f.2.2∈T) (L:RL A B fl f ws 0)
  (hq:∀h' es,h<+:h'→h'[h.length]?=some (.dict es)→qV A B fl h' es→Q (.ref h.length) h') :
  ax K N (iH.body.drop 5) (fin Q) (fun c m=>X c m.heap) ⟨[some (.inst 0 i),some (.ref h.length),some (.ref (h.length+1)),v3,some (.ref p),some (.int (0:Nat)),none,none,none],hp⟩:=by
 refine ⟨201,rP (fun w:Nat × List MO × (Txt→Nat) × ES × List Txt × Option MV × Option MV × Option MV × Option MV=>⟨[some (.inst 0 i),some (.ref h.length),some (.ref (h.length+1)),w.2.2.2.2.2.1,some (.ref p),some (.int (w.1:Nat)),w.2.2.2.2.2.2.1,w.2.2.2.2.2.2.2.1,w.2.2.2.2.2.2.2.2],w.2.1⟩) (fun k w=>A5 (w.1+k=201) (w.1≤w.2.2.2.2.1.length) (RI A B fl w.2.2.1 h T w.2.1 w.2.2.2.1 w.2.2.2.2.1) (w.2.1[p]?=some (.list (fl.map hO))) (RL A B fl w.2.2.1 w.2.2.2.2.1 w.1))
  (fun w hI=>nf (n3 (hI.h3.few hT) hI.h2 (Nat.le_of_eq hI.h1.symm) (by simp +arith only))) (fun k w W hI hW=>?_) 201 (0,hp,f,es,ws,v3,none,none,none) rfl ⟨rfl,Nat.zero_le _,r,hfl,L⟩⟩
 clear r hfl L
 obtain ⟨n,hp,f,es,ws,v3,w6,w7,w8⟩:=w
 obtain ⟨h1,h2,r,hfl,L⟩:=hI
 dsimp only at h1 h2 r hfl L
 refine al r.w ?_
 conv=>whnf
 rcases Nat.lt_or_ge n ws.length with hlt | hge
 ·rw [decide_eq_true (show (n:Int)<((ws.map MV.str).length:Nat) by rw [List.length_map];exact Int.ofNat_lt.mpr hlt)]
  have e:=bg hlt
  generalize ws[n]=src at e
  refine af r.w ?_
  refine az (j:=n) (n4 rfl (by rw [List.length_map];exact hlt)) (by rw [List.getElem?_map,e];rfl) ?_
  refine aG (aF hfl) ?_
  refine gw (fun j v3 w7 w8 hp es (z:(Txt→Nat) × List Txt)=>⟨[some (.inst 0 i),some (.ref h.length),some (.ref (h.length+1)),v3,some (.ref p),some (.int ((n:Int)+1)),some (.str src),w7,w8],hp⟩)
   (fun j v3 w7 w8 hp es z=>A5 (RI A B fl z.1 h T hp es z.2) (hp[p]?=some (.list (fl.map hO))) (RL A B fl z.1 z.2 n) (∀k x,(k,src,x)∈fl.take j→x∉A→x∉B→x∈z.2∧z.1 x≤z.1 src+1) (z.2[n]?=some src)) _ _ _ _ _ (f,ws) rfl ⟨r,hfl,L,fun k x h=>(by rw [List.take_zero] at h;exact aC h),e⟩ (fun _ _ _ _ _ _ _ hI=>hI.h2) (fun j y v3 w7 w8 hp es z P hy hI hn _=>?_) (fun v3 w7 w8 hp es z hI=>?_)
  ·obtain ⟨f,ws⟩:=z
   obtain ⟨r,hfl,L,hc,e⟩:=hI
   obtain ⟨k',s,x,hj,rfl⟩:=DG hy
   have hm:=List.mem_of_getElem? hj
   obtain ⟨t1,t2⟩:=L.turn hc e hj
   refine ue hK r hT hpg hg (hok x (hfT _ hm)) (hfT _ hm) (List.mem_of_getElem? e) hm hN hf hfl (fun h4=>?_) fun hp' es' r' hfl' h5 h6 h7 h8=>?_
   ·exact hn _ _ _ hp es (f,ws) ⟨r,hfl,L,t1 h4,e⟩
   ·obtain ⟨L,hc,e⟩:=t2 h5 h6 h7 h8
    exact hn _ _ _ hp' es' (_,_) ⟨r',hfl',L,hc,e⟩
  ·obtain ⟨f,ws⟩:=z
   obtain ⟨r,hfl,L,hc,e⟩:=hI
   have hlt:=(List.getElem?_eq_some_iff.mp e).1
   rw [List.length_map,List.take_length] at hc
   exact hW (n+1,hp,f,es,ws,_,_,_,_) ⟨(Nat.succ_add_eq_add_succ n k).trans h1,hlt,r,hfl,L.next hc e⟩
 ·rw [decide_eq_false (show ¬ (n:Int)<((ws.map MV.str).length:Nat) by rw [List.length_map];exact fun q=>Nat.not_lt.mpr hge (Int.ofNat_lt.mp q))]
  have few:=r.few hT
  refine hq hp es r.pre r.d ⟨fun x=>by rw [r.keys];exact L.all hge x,fun e he=>?_⟩
  obtain ⟨i',l,q1,_,q3,q4,q5⟩:=(r.rd e he).ex
  have hx:e.1∈ws:=r.keys▸List.mem_map.mpr ⟨e,he,rfl⟩
  exact ⟨i',l,_,q1,q3,q4,q5,L.isd hge hx,Nat.lt_trans (r.lt _ hx) few⟩
theorem Ao {i:Nat}{A B:List Txt}{rows:List Rw}(hpg:bW h i A B rows)(F:LF A B rows)(hN:10<N)
  (hq:∀h' es,h<+:h'→h'[h.length]?=some (.dict es)→qV A B (bq (nums 1 [] rows)) h' es→Q (.ref h.length) h'):K N 104 [.inst 0 i] Q X h:=by
 obtain ⟨M,rfl,hM⟩:=room hN
 obtain ⟨a,b,h1,_,_⟩:=id hpg
 have p2:h<+:h++[.dict []]++[.list []]:=aa (aa (ai _))
 have e2:(h++[MO.dict []]).length=h.length+1:=by rw [List.length_append];rfl
 have hp2:=hpg.up p2
 refine hK _ _ _ _ _ _ iH rfl rfl ?_
 show ax K M (iH.body.drop 2) (fin Q) (fun c m=>X c m.heap) ⟨[some (.inst 0 i),some (.ref h.length),some (.ref (h++[MO.dict []]).length),none,none,none,none,none,none],h++[MO.dict []]++[.list []]⟩
 rw [e2]
 generalize hfl:bq (nums 1 [] rows)=fl at hq
 have r0:RI A B fl (fun _=>0) h (aS (aN A B rows)) (h++[MO.dict []]++[.list []]) [] []:=⟨p2,ah (ac _ _),by rw [←e2];exact ac _ _,rfl,List.nodup_nil,fun _ h=>aC h,fun _ h=>aC h,fun _ h=>aC h⟩
 refine ay (pE (ag p2 h1) rfl) ?_
 refine Dy hK hp2 (Nat.le_trans (nb rfl) hM) ?_
 have r1:=r0.up (aa (o:=.list (B.map .str)) (aa (o:=.list (A.map .str)) (ai _)))
 have e3:(h++[MO.dict []]++[MO.list []]).length+1=(h++[MO.dict []]++[MO.list []]++[MO.list (A.map .str)]).length:=by rw [List.length_append (bs:=[MO.list (A.map .str)])];rfl
 have e4:(h++[MO.dict []]++[MO.list []]++[MO.list (A.map .str)]++[MO.list (B.map .str)])[(h++[MO.dict []]++[MO.list []]).length+1]?=some (.list (B.map .str)):=by rw [e3];exact ac _ _
 have l4:h.length+1<(h++[MO.dict []]++[MO.list []]).length+1:=by rw [List.length_append,e2];exact Nat.lt_succ_of_lt (Nat.lt_succ_self _)
 have gB:∀x∈B,x∈aS (aN A B rows):=fun x hx=>aE.mpr (List.mem_append_left _ (List.mem_append_right _ hx))
 have nB:B.Nodup:=(List.nodup_append.mp F.nd).2.1
 have few:=F.few
 refine aG (aF e4) ?_
 refine iO (fun j v3 hp es (f:Txt→Nat)=>⟨[some (.inst 0 i),some (.ref h.length),some (.ref (h.length+1)),v3,none,none,none,none,none],hp⟩) (fun j v3 hp es f=>A3 (RI A B fl f h (aS (aN A B rows)) hp es (B.take j)) (hp[(h++[MO.dict []]++[MO.list []]).length+1]?=some (.list (B.map .str))) (∀x,f x=0)) _ _ [] _ rfl ⟨r1,e4,fun _=>rfl⟩ (fun _ _ _ _ _ hI=>hI.h2) (fun j y v3 hp es f P hy hI hn _=>?_) (fun v3 hp es f hI=>?_)
 ·obtain ⟨r,e5,f0⟩:=hI
  obtain ⟨x,hx,rfl⟩:=Option.map_eq_some_iff.mp (List.getElem?_map ..▸hy)
  have hm:=List.mem_of_getElem? hx
  have hnew:x∉B.take j:=fun q=>by
   have hd:=(List.nodup_append.mp ((List.take_append_drop (j+1) B).symm▸nB)).1
   rw [ap hx] at hd
   exact (List.nodup_append.mp hd).2.2 x q x (List.mem_singleton.mpr rfl) rfl
  have rf:=r.few few
  have p3:hp<+:hp++[MO.list [.tup [.int 0,.str x]]]:=aa (ai _)
  have r2:=r.up p3
  refine dc r2.d ?_
  refine ⟨by rw [r.len];exact Nat.lt_of_lt_of_le rf (aI (nb rfl)),?_⟩
  have r3:RI A B fl (upd f x 0) h _ _ _ _:=r2.add hnew (gB x hm) (i:=hp.length) (l:=[(0,x)]) (List.getElem?_eq_some_iff.mp r.w).1 (ac _ _) (.base hm) rfl (Nat.zero_le _)
  have hw:((hp++[MO.list [.tup [.int 0,.str x]]]).set h.length (.dict (ch es x (.ref hp.length))))[h.length+1]?=some (.list ((B.take j).map .str)):=ao (Ne.symm (Nat.succ_ne_self _)) r2.w
  refine ay (aA hw) (aY (aW hw) ?_)
  refine ⟨by rw [List.length_map];unfold line;exact Nat.le_trans rf (nb rfl),?_⟩
  rw [List.map_append] at r3
  refine hn _ _ (ch es x (.ref hp.length)) (upd f x 0) ⟨?_,ao (Nat.ne_of_lt l4) (ao (Nat.ne_of_lt (Nat.lt_trans (Nat.lt_succ_self _) l4)) (ag p3 e5)),fun y=>?_⟩
  ·rw [ap hx];exact r3
  ·by_cases q:y=x
   ·rw [q,dF]
   ·rw [qU q];exact f0 y
 ·obtain ⟨r,e5,f0⟩:=hI
  rw [List.length_map,List.take_length] at r
  refine An hK (hpg.up r.pre) F (hM) fun h5 p p5 l5 e5=>?_
  have p5:_<+:h5:=p5
  have r5:=r.up p5
  rw [hfl] at e5
  refine qW hK r5 few hpg F.gn F.ok (Nat.le_trans (nb rfl) hM) (Nat.lt_of_lt_of_le (List.getElem?_eq_some_iff.mp r.w).1 l5) e5 (hfl▸DF) ⟨fun x hx=>⟨hx,f0 x⟩,fun x hx=>by rw [f0];exact .base hx,fun s hs=>by rw [List.take_zero] at hs;exact aC hs,?_,fun a _ x _=>by rw [f0];exact Nat.zero_le _⟩ hq
  exact List.pairwise_of_forall fun a b=>by rw [f0];exact Nat.zero_le _
end Internal
end
section
namespace Internal
theorem l9:∀t:Tm,(rn t).length≤t.deep * t.lv
 | .num _=>Nat.zero_le _
 | .nm _=>Nat.zero_le _
 | .op c a b=>by
  have h1:=l9 a
  have h2:=l9 b
  have h3:=cC b
  have g1:a.deep * a.lv≤max a.deep b.deep * a.lv:=Nat.mul_le_mul_right _ (Nat.le_max_left ..)
  have g2:b.deep * b.lv≤max a.deep b.deep * b.lv:=Nat.mul_le_mul_right _ (Nat.le_max_right ..)
  show (rn a++rn b++(match c==47 with | true=>an b | false=>[])).length≤(max a.deep b.deep+1) * (a.lv+b.lv)
  rw [List.length_append,List.length_append,Nat.succ_mul,Nat.mul_add]
  cases c==47 with
  | true=>exact Nat.add_le_add (Nat.add_le_add (Nat.le_trans h1 g1) (Nat.le_trans h2 g2)) (Nat.le_trans h3 (Nat.le_add_left _ _))
  | false=>exact Nat.add_le_add (Nat.add_le_add (Nat.le_trans h1 g1) (Nat.le_trans h2 g2)) (Nat.zero_le _)
theorem xQ {t:Tm}(h:t.good):(rn t).length≤24:=Nat.le_trans (l9 t) (Nat.le_trans (Nat.mul_le_mul h.2 h.lv) (nb rfl))
theorem ma {c:Nat}{w:Txt}(h:w.length≠1):([c]==w)=false:=beq_eq_false_iff_ne.mpr fun e=>h (by rw [←e];rfl)
inductive LkA (hp:List MO)(n:Nat):List Lk→List MV→Prop
 | nil:LkA hp n [] []
 | cons {w ns i ls vs}:n<i→hp[i]?=some (.list (ns.map .str))→LkA hp n ls vs→LkA hp n ((w,ns)::ls) (.tup [.str w,.ref i]::vs)
section
variable {hp hp':List MO}{n:Nat}
theorem LkA.up (u:∀i o,n<i→hp[i]?=some o→hp'[i]?=some o){ls:List Lk}{vs:List MV}(h:LkA hp n ls vs):LkA hp' n ls vs:=by
 induction h with
 | nil=>exact .nil
 | cons h1 h2 _ ih=>exact .cons h1 (u _ _ h1 h2) ih
theorem LkA.snoc {w:Txt}{ns:List Txt}{i:Nat}(h1:n<i)(h2:hp[i]?=some (.list (ns.map .str))){ls:List Lk}{vs:List MV}(h:LkA hp n ls vs):LkA hp n (ls++[(w,ns)]) (vs++[.tup [.str w,.ref i]]):=by
 induction h with
 | nil=>exact .cons h1 h2 .nil
 | cons k1 k2 _ ih=>exact .cons k1 k2 ih
theorem LkA.get {ls:List Lk}{vs:List MV}(h:LkA hp n ls vs):∀{j:Nat}{v:MV},vs[j]?=some v→∃w ns i,ls[j]?=some (w,ns)∧v=.tup [.str w,.ref i]∧hp[i]?=some (.list (ns.map .str)):=by
 induction h with
 | nil=>intro j v e;exact aw e
 | @cons w ns i ls vs h1 h2 h3 ih=>
  intro j v e
  cases j with
  | zero=>exact ⟨w,ns,i,rfl,(Option.some.inj e).symm,h2⟩
  | succ j=>exact ih e
theorem LkA.len {ls:List Lk}{vs:List MV}(h:LkA hp n ls vs):vs.length=ls.length:=by
 induction h with
 | nil=>rfl
 | cons _ _ _ ih=>exact congrArg (·+1) ih
end
structure LS (h hp:List MO)(ls:List Lk)(vs:List MV):Prop where
 pre:h<+:hp
 at_:hp[h.length]?=some (.list vs)
 lk:LkA hp h.length ls vs
theorem LS.up {h hp hp':List MO}{ls:List Lk}{vs:List MV}(s:LS h hp ls vs)(p:hp<+:hp'):LS h hp' ls vs:=⟨s.pre.trans p,ag p s.at_,s.lk.up fun _ _ _ e=>ag p e⟩
theorem LS.add {h hp:List MO}{ls:List Lk}{vs:List MV}(s:LS h hp ls vs){w:Txt}{ns:List Txt}{i:Nat}(h1:h.length<i)(h2:hp[i]?=some (.list (ns.map .str))):LS h (hp.set h.length (.list (vs++[.tup [.str w,.ref i]]))) (ls++[(w,ns)]) (vs++[.tup [.str w,.ref i]]):=
 ⟨aM s.pre (Nat.le_refl _),get_set s.at_,(s.lk.snoc h1 h2).up fun _ _ hi e=>ao (Nat.ne_of_lt hi) e⟩
variable {K:KT}(hK:aK PP K)
include hK
theorem DH {p:Txt→Prop}:∀(t:Tm) {N:Nat}{Q:MV→List MO→Prop}{X:XT}{h:List MO},t.deep+1<N→t.ok p→t.deep≤3→t.lv≤8→(∀r h',h<+:h'→h'[r]?=some (.list ((rn t).map .str))→Q (.ref r) h')→K N 2 [t.mv] Q X h
 | .num k,N,Q,X,h,hN,ht,hd,hl,hq=>by
  obtain ⟨M,rfl,hM⟩:=room hN
  refine hK _ _ _ _ _ _ bH rfl rfl ?_
  exact hq _ _ (aa (ai _)) (ac _ _)
 | .nm s,N,Q,X,h,hN,ht,hd,hl,hq=>by
  obtain ⟨M,rfl,hM⟩:=room hN
  refine hK _ _ _ _ _ _ bH rfl rfl ?_
  exact hq _ _ (aa (ai _)) (ac _ _)
 | .op c a b,N,Q,X,h,hN,ht,hd,hl,hq=>by
  have hN:max a.deep b.deep+1+1<N:=hN
  have hl:a.lv+b.lv≤8:=hl
  have hd:max a.deep b.deep+1≤3:=hd
  obtain ⟨M,rfl,hM⟩:=room hN
  have g1:a.deep * a.lv≤3 * 8:=Nat.mul_le_mul (n2 hd (Nat.le_max_left a.deep b.deep) (by simp +arith only)) (n1 hl (by simp +arith only))
  have g2:b.deep * b.lv≤3 * 8:=Nat.mul_le_mul (n2 hd (Nat.le_max_right a.deep b.deep) (by simp +arith only)) (n1 hl (by simp +arith only))
  have l1:=l9 a
  have l2:=l9 b
  have l3:=cC b
  refine hK _ _ _ _ _ _ bH rfl rfl ?_
  refine DH a (n2 hN (Nat.le_max_left a.deep b.deep) (by simp +arith only)) ht.2.1 (n2 hd (Nat.le_max_left a.deep b.deep) (by simp +arith only)) (n1 hl (by simp +arith only)) fun r1 h1 p1 e1=>?_
  refine DH b (n2 hN (Nat.le_max_right a.deep b.deep) (by simp +arith only)) ht.2.2 (n2 hd (Nat.le_max_right a.deep b.deep) (by simp +arith only)) (n1 hl (by simp +arith only)) fun r2 h2 p2 e2=>?_
  have p1:h<+:h1:=p1
  have p2:h1<+:h2:=p2
  refine af (ag p2 e1) (af e2 ?_)
  refine ⟨bU (Nat.le_trans (Nat.add_le_add (Nat.le_trans l1 g1) (Nat.le_trans l2 g2)) (nb rfl)),?_⟩
  have p3:h<+:h2++[.list ((rn a).map .str++(rn b).map .str)]:=aa (p1.trans p2)
  have e3:(h2++[MO.list ((rn a).map .str++(rn b).map .str)])[h2.length]?=some (.list ((rn a++rn b).map .str)):=cA _ _ _
  conv=>whnf
  have hq:∀r h',h<+:h'→h'[r]?=some (.list ((rn a++rn b++(match c==47 with | true=>an b | false=>[])).map .str))→Q (.ref r) h':=hq
  cases q:([c]==[47]) with
  | true=>
   obtain rfl:c=47:=(List.cons.inj (eq_of_beq q)).1
   refine Aa hK b (n2 hM (Nat.le_max_right a.deep b.deep) (by simp +arith only)) ht.2.2 (by lia) fun r4 h4 p4 e4=>?_
   have p4:h2++[.list ((rn a).map .str++(rn b).map .str)]<+:h4:=p4
   refine af (ag p4 e3) (af e4 ?_)
   refine ⟨bU (by rw [List.length_append];exact Nat.le_trans (Nat.add_le_add (Nat.add_le_add (Nat.le_trans l1 g1) (Nat.le_trans l2 g2)) (Nat.le_trans l3 (Nat.le_trans (Nat.le_add_left _ _) hl))) (nb rfl)),?_⟩
   exact hq _ _ (aa (p3.trans p4)) (cA _ _ _)
  | false=>
   rw [show (c==47)=false from beq_eq_false_iff_ne.mpr fun e=>by rw [e] at q;exact tf q] at hq
   exact hq _ _ p3 (by rw [List.append_nil];exact e3)
theorem xR {t:Tm}{N:Nat}{Q:MV→List MO→Prop}{X:XT}{h:List MO}(ht:t.good)(hN:5<N)(hq:∀r h',h<+:h'→h.length≤r→h'[r]?=some (.list ((aS (rn t)).map .str))→Q (.ref r) h'):K N 3 [t.mv] Q X h:=by
 obtain ⟨M,rfl,hM⟩:=room hN
 have l1:=xQ ht
 refine hK _ _ _ _ _ _ fK rfl rfl ?_
 refine DH hK t (by have:=ht.2;exact n2 this hN (by simp +arith only)) ht.1 ht.2 ht.lv fun r1 h1 p1 e1=>?_
 have p1:h<+:h1:=p1
 refine af e1 ?_
 exact .mk (rn t) rfl (Nat.lt_of_le_of_lt (fV _) (n1 l1 (by simp +arith only))) (n1 l1 (by simp +arith only)) (hq _ _ (aa p1) p1.length_le (ac _ _))
theorem xS:∀(t:Tm) {N:Nat}{Q:MV→List MO→Prop}{X:XT}{h:List MO},t.deep<N→Q (.bool (dvs t)) h→K N 4 [t.mv] Q X h
 | .num k,N,Q,X,h,hN,hq=>by
  obtain ⟨M,rfl,hM⟩:=room hN
  refine hK _ _ _ _ _ _ eY rfl rfl ?_
  exact hq
 | .nm s,N,Q,X,h,hN,hq=>by
  obtain ⟨M,rfl,hM⟩:=room hN
  refine hK _ _ _ _ _ _ eY rfl rfl ?_
  exact hq
 | .op c a b,N,Q,X,h,hN,hq=>by
  have hN:max a.deep b.deep+1<N:=hN
  have hq:Q (.bool (c==47||(dvs a||dvs b))) h:=hq
  obtain ⟨M,rfl,hM⟩:=room hN
  refine hK _ _ _ _ _ _ eY rfl rfl ?_
  conv=>whnf
  cases q:([c]==[47]) with
  | true=>
   obtain rfl:c=47:=(List.cons.inj (eq_of_beq q)).1
   exact hq
  | false=>
   rw [show (c==47)=false from beq_eq_false_iff_ne.mpr fun e=>by rw [e] at q;exact tf q] at hq
   refine xS a (n2 hN (Nat.le_max_left a.deep b.deep) (by simp +arith only)) ?_
   cases q1:dvs a with
   | true=>rw [q1] at hq;exact hq
   | false=>
    rw [q1] at hq
    exact xS b (n2 hN (Nat.le_max_right a.deep b.deep) (by simp +arith only)) hq
end Internal
end
section
namespace Internal
theorem uf {A B:List Txt}{x:Txt}:(nk A B x==Bh)=A.contains x:=by
 unfold nk
 cases A.contains x with
 | true=>rfl
 | false=>cases B.contains x<;>rfl
variable {K:KT}(hK:aK PP K)
include hK
section
variable {T:List Txt}{k:Int}{r:Rw}{ab:List Tm}{i N:Nat}{A B:List Txt}{rows:List Rw}{Q:MV→List MO→Prop}{X:XT}{h:List MO}(o:nj T (k,r,ab)) (hN:8≤N) (hq:∀h' vs,LS h h' (lks A r ab) vs→Q (.ref h.length) h')
theorem qX {ls:List Lk}{vs:List MV}{hp:List MO}{w:Txt}{P:Fl→MS→Prop}(o:nj T (k,r,ab))(hN:8≤N)(s:LS h hp ls vs)(hl:ls.length≤4)(hw:∀hp' vs',LS h hp' (ls++[(w,cX r ab)]) vs'→P .next ⟨[some (.inst 0 i),some r.mv,some (.tup (ab.map Tm.mv)),some (.ref h.length)],hp'⟩) :
  ax K N [.expr (.mth .append (.var 3) [.tup [.cst (.str w),.call 102 [.var 1,.var 2]]])] P (fun c m=>X c m.heap) ⟨[some (.inst 0 i),some r.mv,some (.tup (ab.map Tm.mv)),some (.ref h.length)],hp⟩:=by
 refine ay (aA s.at_) ?_
 refine xO hK o hN fun h1 j p1 l1 e1=>?_
 have p1:hp<+:h1:=p1
 have s1:=s.up p1
 refine aY (aW s1.at_) ?_
 refine ⟨Nat.lt_of_le_of_lt (by rw [s1.lk.len];exact hl) (Nat.lt_of_lt_of_le (show 4<5 by decide) (aI (by decide))),?_⟩
 exact hw _ _ (s1.add (Nat.lt_of_lt_of_le (List.getElem?_eq_some_iff.mp s.at_).1 l1) e1)
include o hN hq in
theorem FA {ls:List Lk}{vs:List MV}{hp:List MO}(e:lks A r ab=ls++lk4 r ab)(s:LS h hp ls vs)(hl:ls.length≤4):ax K N (dQ.body.drop 4) (fin Q) (fun c m=>X c m.heap) ⟨[some (.inst 0 i),some r.mv,some (.tup (ab.map Tm.mv)),some (.ref h.length)],hp⟩:=by
 have no:dvs r.ft=false→Q (.ref h.length) hp:=fun hd=>by
  unfold lk4 at e
  rw [hd,List.append_nil] at e
  exact hq hp vs (e▸s)
 have any:r≠.skip→r.fm=r.ft.mv→wpE K N (.call 4 [.call 26 [.var 1]]) (cp fun b m=>match b with
   | true=>ax K N [.expr (.mth .append (.var 3) [.tup [.cst (.str [110,111,117,103,104,116]),.bin .add (.call 3 [.call 26 [.var 1]]) (.call 101 [.var 2])]]),.ret (.var 3)] (fin Q) (fun c m=>X c m.heap) m
   | false=>ax K N [.ret (.var 3)] (fin Q) (fun c m=>X c m.heap) m) (fun c m=>X c m.heap) ⟨[some (.inst 0 i),some r.mv,some (.tup (ab.map Tm.mv)),some (.ref h.length)],hp⟩:=fun hr hf=>by
  have gf:r.ft.good:=i7 o.good
  refine rX hK (jP (pu (n:=0) r)) (Nat.le_trans (nb rfl) hN) ?_
  rw [hf]
  refine xS hK r.ft (by have:=gf.2;exact n2 this hN (by simp +arith only)) ?_
  cases hd:dvs r.ft with
  | false=>exact no hd
  | true=>
   unfold lk4 at e
   rw [hd] at e
   refine ay (aA s.at_) ?_
   refine rX hK (jP (pu (n:=0) r)) (Nat.le_trans (nb rfl) hN) ?_
   rw [hf]
   refine xR hK gf (Nat.le_trans (nb rfl) hN) fun j1 h1 p1 l1 e1=>?_
   have p1:hp<+:h1:=p1
   refine sj hK o.tg o.len (Nat.le_trans (nb rfl) hN) fun h2 p2 e2=>?_
   have p2:h1<+:h2:=p2
   refine af (ag p2 e1) (af e2 ?_)
   have la:(ats ab).length≤8 * ab.length:=kh o.tg
   have ll:ab.length≤7:=o.len
   have lr:=xQ gf
   have lr2:=fV (rn r.ft)
   refine ⟨bU (Nat.le_trans (Nat.add_le_add (Nat.le_trans lr2 lr) (Nat.le_trans la (Nat.mul_le_mul_left 8 ll))) (nb rfl)),?_⟩
   have s1:=s.up (aa (o:=.list ((aS (rn r.ft)).map .str++(ats ab).map .str)) (p1.trans p2))
   refine aY (aW s1.at_) ?_
   refine ⟨Nat.lt_of_le_of_lt (by rw [s1.lk.len];exact hl) (Nat.lt_of_lt_of_le (show 4<5 by decide) (aI (by decide))),?_⟩
   refine hq _ _ (e▸s1.add ?_ (cA _ _ _))
   exact Nat.lt_of_lt_of_le (List.getElem?_eq_some_iff.mp s.at_).1 (Nat.le_trans p1.length_le p2.length_le)
 cases r with
 | skip=>exact no rfl
 | set x t=>exact any (fun e=>by cases e) rfl
 | tell t=>exact any (fun e=>by cases e) rfl
 | ite t a b=>exact any (fun e=>by cases e) rfl
 | wh t a=>exact any (fun e=>by cases e) rfl
include o hN hq in
theorem Ap (hp:bW h i A B rows)(hg:∀s∈A++B,Gn s)(hx:∀x t,r=.set x t→okS x):K (N+1) 111 [.inst 0 i,r.mv,.tup (ab.map Tm.mv)] Q X h:=by
 obtain ⟨a,b,h1,_,_⟩:=id hp
 have p0:h<+:h++[.list []]:=aa (ai _)
 have s0:LS h (h++[.list []]) [] []:=⟨p0,ac _ _,.nil⟩
 refine hK _ _ _ _ _ _ dQ rfl rfl ?_
 have four:∀{ls:List Lk} {vs:List MV} {hp:List MO},lks A r ab=ls++lk4 r ab→LS h hp ls vs→ls.length≤4→ax K N (dQ.body.drop 4) (fin Q) (fun c m=>X c m.heap) ⟨[some (.inst 0 i),some r.mv,some (.tup (ab.map Tm.mv)),some (.ref h.length)],hp⟩:=fun e s hl=>FA hK o hN hq e s hl
 cases r with
 | skip=>exact four rfl s0 (Nat.zero_le _)
 | ite t x y=>exact four rfl s0 (Nat.zero_le _)
 | tell t=>
  refine qX hK (w:=iU) o hN s0 (Nat.zero_le _) fun hp' vs' s'=>?_
  exact four rfl s' (Nat.le_of_ble_eq_true rfl)
 | wh t x=>
  refine qX hK (w:=pG) o hN s0 (Nat.zero_le _) fun hp' vs' s'=>?_
  exact four rfl s' (Nat.le_of_ble_eq_true rfl)
 | set x t=>
  refine ay (pE (ag p0 h1) rfl) ?_
  refine xP hK (hp.up p0) hg (hx x t rfl) (Nat.le_trans (nb rfl) hN) ?_
  conv=>whnf
  rw [show (nk A B x==[111,112,101,110])=A.contains x from uf]
  cases q:A.contains x with
  | false=>exact four (by show (match A.contains x with | true=>_ | false=>_)++_++_++_=_;rw [q];rfl) s0 (Nat.zero_le _)
  | true=>
   refine qX hK (w:=cW) o hN s0 (Nat.zero_le _) fun hp' vs' s'=>?_
   exact four (by show (match A.contains x with | true=>_ | false=>_)++_++_++_=_;rw [q];rfl) s' (Nat.le_of_ble_eq_true rfl)
end
end Internal
end
section
namespace Internal
variable {N:Nat}{Q:MV→List MO→Prop}{X:XT}{h:List MO}
theorem oi {σ:Type}(st:σ→MS)(I:Nat→σ→Prop)(Rt:MV→MS→Prop){g:Gd}{step:MV→(Fl→MS→Prop)→MS→Prop}{Q:Fl→MS→Prop}{items:List MV}{m:MS}(w:σ)(e0:m=st w)(h0:I 0 w)(hg:∀i w,I i w→aQ g (st w).heap)
  (hstep:∀i x w (P:Fl→MS→Prop),items[i]?=some x→I i w→(∀w,I (i+1) w→P .next (st w))→(∀r m',Rt r m'→P (.ret r) m')→step x P (st w)) (hend:∀w,I items.length w→Q .next (st w)) (hret:∀r m,Rt r m→Q (.ret r) m):dY g step Q items m:=by
 refine lH (fun i m=>∃w,m=st w∧I i w) Rt ⟨w,e0,h0⟩ (fun i m hI=>?_) (fun i x m P hx hI h1 _ h3=>?_) (fun m hI=>?_) hret
 ·obtain ⟨w,rfl,h⟩:=hI;exact hg i w h
 ·obtain ⟨w,rfl,h⟩:=hI;exact hstep i x w P hx h (fun w h=>h1 _ ⟨w,rfl,h⟩) h3
 ·obtain ⟨w,rfl,h⟩:=hI;exact hend w h
structure EZ (A B:List Txt)(fl:List Flw)(h:List MO)(ns ms:List Txt)(n:Txt)(i:Nat)(l:ud)(d:Nat):Prop where
 mem:n∈ns
 at_:h[i]?=some (.list (l.map pM))
 pth:Pth A B fl l n
 len:l.length=d+1
 isd:Dst A B fl n d
 few:d<200
 low:∀m∈ms,∀e,Dst A B fl m e→d≤e
theorem qV.up {A B:List Txt}{fl:List Flw}{hp hp':List MO}{es:ES}(r:qV A B fl hp es)(p:hp<+:hp'):qV A B fl hp' es:=⟨r.keys,fun e he=>by
 obtain ⟨i,l,d,h1,h2,h3⟩:=r.rd e he
 exact ⟨i,l,d,h1,ag p h2,h3⟩⟩
noncomputable def kss (A:List Txt)(r:Rw):List Txt:=(match r with
 | .set x _=>(match A.contains x with
  | true=>[cW]
  | false=>[])
 | .tell _=>[iU]
 | .wh _ _=>[pG]
 | _=>[])++match dvs r.ft with
 | true=>[bC]
 | false=>[]
noncomputable def fw (r:Rw)(ab:List Tm)(w:Txt):List Txt:=match w==bC with
 | true=>aS (rn r.ft)++ats ab
 | false=>cX r ab
theorem xU (A:List Txt)(r:Rw)(ab:List Tm):lks A r ab=(kss A r).map fun w=>(w,fw r ab w):=by
 have h4:lk4 r ab=(match dvs r.ft with | true=>[bC] | false=>[]).map fun w=>(w,fw r ab w):=by
  unfold lk4;cases dvs r.ft<;>rfl
 unfold lks kss
 rw [List.map_append,←h4]
 congr 1
 cases r with
 | set x t=>
  show (match A.contains x with | true=>[(cW,cX (.set x t) ab)] | false=>[])++[]++[]=(match A.contains x with | true=>[cW] | false=>[]).map fun w=>(w,fw (.set x t) ab w)
  cases A.contains x<;>rfl
 | _=>rfl
noncomputable def i9 (sec:List Txt)(f:Txt→List Txt)(ws:List Txt):Option Txt:=ws.find? fun w=>(f w).any sec.contains
theorem DI {sec:List Txt}{f f':Txt→List Txt}{ws:List Txt}(h:∀w n,n∈f w↔n∈f' w):i9 sec f ws=i9 sec f' ws:=by
 unfold i9
 congr 1
 funext w
 rw [Bool.eq_iff_iff,List.any_eq_true,List.any_eq_true]
 exact ⟨fun ⟨n,h1,h2⟩=>⟨n,(h w n).mp h1,h2⟩,fun ⟨n,h1,h2⟩=>⟨n,(h w n).mpr h1,h2⟩⟩
noncomputable def gL (A sec:List Txt)(q:Num):Option Txt:=i9 sec (fw q.2.1 q.2.2) (kss A q.2.1)
noncomputable def eD (f:Num→Option Txt):List Num→Option (Num × Txt)
 | []=>none
 | q::qs=>match f q with
  | some w=>some (q,w)
  | none=>eD f qs
theorem xV {f:Num→Option Txt}{qs:List Num}{j:Nat}{q:Num}(e:qs[j]?=some q)(h:f q=none):eD f (qs.drop j)=eD f (qs.drop (j+1)):=by
 obtain ⟨h1,h2⟩:=List.getElem?_eq_some_iff.mp e
 rw [List.drop_eq_getElem_cons h1,h2]
 show (match f q with | some w=>some (q,w) | none=>eD f (qs.drop (j+1)))=_
 rw [h]
theorem sk {f:Num→Option Txt}{qs:List Num}{j:Nat}{q:Num}{w:Txt}(e:qs[j]?=some q)(h:f q=some w):eD f (qs.drop j)=some (q,w):=by
 obtain ⟨h1,h2⟩:=List.getElem?_eq_some_iff.mp e
 rw [List.drop_eq_getElem_cons h1,h2]
 show (match f q with | some w=>some (q,w) | none=>eD f (qs.drop (j+1)))=_
 rw [h]
theorem mc {sec:List Txt}{f:Txt→List Txt}{ws:List Txt}{j:Nat}{w:Txt}(e:ws[j]?=some w):((f w).any sec.contains=false→i9 sec f (ws.drop j)=i9 sec f (ws.drop (j+1)))∧((f w).any sec.contains=true→i9 sec f (ws.drop j)=some w):=by
 obtain ⟨h1,h2⟩:=List.getElem?_eq_some_iff.mp e
 rw [List.drop_eq_getElem_cons h1,h2]
 exact ⟨fun h=>List.find?_cons_of_neg (by show ¬ (f w).any sec.contains=true;rw [h];decide),fun h=>List.find?_cons_of_pos (p:=fun w=>(f w).any sec.contains) h⟩
noncomputable def tgt (r:Rw)(w:Txt):Txt:=match w==cW with
 | true=>(match r with
  | .set x _=>x
  | _=>[])
 | false=>[]
theorem Aq {A:List Txt}{r:Rw}(h:cW∈kss A r):∃x t,r=.set x t:=by
 have h4:cW∉(match dvs r.ft with | true=>[bC] | false=>[]:List Txt):=by cases dvs r.ft<;>decide
 rcases List.mem_append.mp h with h | h
 ·cases r with
  | set x t=>exact ⟨x,t,rfl⟩
  | tell t=>exact absurd (List.mem_singleton.mp (show cW∈[iU] from h)) (by decide)
  | wh t a=>exact absurd (List.mem_singleton.mp (show cW∈[pG] from h)) (by decide)
  | _=>exact aC h
 ·exact absurd h h4
theorem hX {A B:List Txt}{rows:List Rw}{k:Int}{r:Rw}{ab:List Tm}(hq:(k,r,ab)∈nums 1 [] rows)(x:Txt)(t:Tm)(e:r=.set x t):x∈aS (aN A B rows):=by
 subst e
 exact aE.mpr (List.mem_append_right _ (List.mem_flatMap.mpr ⟨_,hq,.head _⟩))
structure Chn (A B:List Txt)(fl:List Flw)(h:List MO)(q:Num)(w:Txt)(j:Nat):Prop where
 ex:∃n l d,n∈fw q.2.1 q.2.2 w∧Pth A B fl l n∧l.length=d+1∧Dst A B fl n d∧d<200∧(∀m∈fw q.2.1 q.2.2 w,∀e,Dst A B fl m e→d≤e)∧h[j]?=some (.list ((l++[(q.1,tgt q.2.1 w)]).map pM))
variable {K:KT}(hK:aK PP K)
include hK
theorem Ar {d i:Nat}{es:ES}{ns:List Txt}{A B:List Txt}{fl:List Flw}(hd:h[d]?=some (.dict es))(hi:h[i]?=some (.list (ns.map .str)))(R:qV A B fl h es)
  (q0:(∀n∈ns,¬ Rch A B fl n)→Q .none h) (q1:∀n j l d,EZ A B fl h ns ns n j l d→Q (.ref j) h):K (N+1) 112 [.ref d,.ref i] Q X h:=by
 refine hK _ _ _ _ _ _ jL rfl rfl ?_
 refine aG (aF hi) ?_
 refine iM (fun j (b:MV) w=>⟨[some (.ref d),some (.ref i),some b,w],h⟩) (fun j b w=>(b=.none∧∀n∈ns.take j,¬ Rch A B fl n)∨∃n i l d,b=.ref i∧EZ A B fl h ns (ns.take j) n i l d) .none none rfl (.inl ⟨rfl,fun n h=>by rw [List.take_zero] at h;exact aC h⟩) (fun _ _ _ _=>hi) (fun j x b w P hx hI hn _=>?_) (fun b w hI=>?_)
 ·obtain ⟨n,hn1,rfl⟩:=Option.map_eq_some_iff.mp (List.getElem?_map ..▸hx)
  have mem:=List.mem_of_getElem? hn1
  refine je hd ?_
  conv=>whnf
  cases e:bf es n with
  | none=>
   have no:¬ Rch A B fl n:=fun hs=>by have:=pF.mpr ((R.keys n).mpr hs);rw [e] at this;exact ff this
   refine hn _ _ ?_
   rw [ap hn1]
   rcases hI with ⟨rfl,hI⟩ | ⟨n',i',l',d',rfl,hI⟩
   ·refine .inl ⟨rfl,fun m hm=>?_⟩
    rcases List.mem_append.mp hm with hm | hm
    ·exact hI m hm
    ·rw [List.mem_singleton.mp hm];exact no
   ·refine .inr ⟨n',i',l',d',rfl,hI.mem,hI.at_,hI.pth,hI.len,hI.isd,hI.few,fun m hm c hc=>?_⟩
    rcases List.mem_append.mp hm with hm | hm
    ·exact hI.low m hm c hc
    ·rw [List.mem_singleton.mp hm] at hc;exact absurd hc.rch no
  | some v=>
   obtain ⟨j',l,d2,h1,h2,h3,h4,h5,h6⟩:=R.rd _ (xJ e)
   obtain rfl:v=.ref j':=h1
   have h5:Dst A B fl n d2:=h5
   have hS:Rch A B fl n:=h5.rch
   have take:(∀m∈ns.take j,∀c,Dst A B fl m c→d2≤c)→P .next ⟨[some (.ref d),some (.ref i),some (.ref j'),some (.str n)],h⟩:=fun lo=>hn _ _ (.inr ⟨n,j',l,d2,rfl,mem,h2,h3,h4,h5,h6,fun m hm c hc=>by
    rw [ap hn1] at hm
    rcases List.mem_append.mp hm with hm | hm
    ·exact lo m hm c hc
    ·rw [List.mem_singleton.mp hm] at hc;exact Nat.le_of_eq (h5.one hc)⟩)
   rcases hI with ⟨rfl,hI⟩ | ⟨n',i',l',d',rfl,hI⟩
   ·refine dc hd ?_
    exact cJ e (take fun m hm c hc=>absurd hc.rch (hI m hm))
   ·refine dc hd ?_
    refine cJ e ?_
    refine al h2 ?_
    refine al hI.at_ ?_
    have l1:=hI.len
    conv=>whnf
    cases q:decide (((l.map pM).length:Int)<((l'.map pM).length:Nat)) with
    | true=>
     have q:=of_decide_eq_true q
     rw [List.length_map,List.length_map] at q
     refine dc hd ?_
     exact cJ e (take fun m hm c hc=>Nat.le_trans (by lia) (hI.low m hm c hc))
    | false=>
     have q:=of_decide_eq_false q
     rw [List.length_map,List.length_map] at q
     refine hn _ _ (.inr ⟨n',i',l',d',rfl,hI.mem,hI.at_,hI.pth,hI.len,hI.isd,hI.few,fun m hm c hc=>?_⟩)
     rw [ap hn1] at hm
     rcases List.mem_append.mp hm with hm | hm
     ·exact hI.low m hm c hc
     ·rw [List.mem_singleton.mp hm] at hc
      have:=h5.one hc
      lia
 ·rcases hI with ⟨rfl,hI⟩ | ⟨n,i',l,d',rfl,hI⟩
  ·rw [List.length_map,List.take_length] at hI
   exact q0 hI
  ·rw [List.length_map,List.take_length] at hI
   exact q1 n i' l d' hI
section
variable {A B sec:List Txt}{rows:List Rw}(F:LF A B rows) (hs:∀x,x∈sec↔Rch A B (bq (nums 1 [] rows)) x)
omit hK in
theorem DJ {ns:List Txt}{S:Txt→Prop}(hs:∀x,x∈sec↔S x)(h:∀n∈ns,¬ S n):ns.any sec.contains=false:=by
 rw [Bool.eq_false_iff]
 intro q
 obtain ⟨n,h1,h2⟩:=List.any_eq_true.mp q
 exact h n h1 ((hs n).mp (List.contains_iff_mem.mp h2))
omit hK in
theorem As {ns:List Txt}{S:Txt→Prop}{n:Txt}(hs:∀x,x∈sec↔S x)(h:n∈ns)(k:S n):ns.any sec.contains=true:=List.any_eq_true.mpr ⟨n,h,List.contains_iff_mem.mpr ((hs n).mpr k)⟩
include F hs
theorem xW {i d N:Nat}{k:Int}{r:Rw}{ab:List Tm}{es:ES}{w2 w3 w4 w5 w6 w7 w8:Option MV}{P:Fl→MS→Prop}{X:XT}{hp:List MO}(hpg:bW hp i A B rows)(hN:11<N)(hqm:(k,r,ab)∈nums 1 [] rows)(hd:hp[d]?=some (.dict es))(R:qV A B (bq (nums 1 [] rows)) hp es)
  (hn:∀hp' w5 w6 w7 w8,hp<+:hp'→gL A sec (k,r,ab)=none→P .next ⟨[some (.inst 0 i),some (.ref d),some (.int k),some r.mv,some (.tup (ab.map Tm.mv)),w5,w6,w7,w8],hp'⟩)
  (hr:∀hp' w j vars,hp<+:hp'→hp.length≤j→gL A sec (k,r,ab)=some w→Chn A B (bq (nums 1 [] rows)) hp' (k,r,ab) w j→P (.ret (.tup [.str w,.ref j])) ⟨vars,hp'⟩) :
  asg [2,3,4] true (b0 (k,r,ab)) (fun m=>ax K N [.for_ [5,6] true .val [.call 111 [.var 0,.var 3,.var 4]] [.asg [7] false (.call 112 [.var 1,.var 6]),.ite (.isN false (.var 7)) [.asg [8] false (.cst (.str [])),.ite (.cmp .eq (.var 5) (.cst (.str [115,101,116]))) [.asg [8] false (.idx (.var 3) (.cst (.int 1)))] [],.ret (.tup [.var 5,.bin .add (.var 7) (.list [.tup [.var 2,.var 8]])])] []]] P (fun c m=>X c m.heap) m) ⟨[some (.inst 0 i),some (.ref d),w2,w3,w4,w5,w6,w7,w8],hp⟩:=by
 obtain ⟨M,rfl,hM⟩:=room hN
 refine ⟨rfl,?_⟩
 refine Ap hK (h:=hp) (F.nums _ hqm) (Nat.le_trans (nb rfl) hM) (fun h1 vs s=>?_) hpg F.gn fun x t e=>F.ok x (hX hqm x t e)
 have hd1:=ag s.pre hd
 have R1:=R.up s.pre
 refine aG (aF s.at_) ?_
 refine oi (fun w:Option MV × Option MV × Option MV × Option MV=>⟨[some (.inst 0 i),some (.ref d),some (.int k),some r.mv,some (.tup (ab.map Tm.mv)),w.1,w.2.1,w.2.2.1,w.2.2.2],h1⟩) (fun j _=>gL A sec (k,r,ab)=i9 sec (fw r ab) ((kss A r).drop j))
  (fun v m=>P (.ret v) m) (w5,w6,w7,w8) rfl (by rw [List.drop_zero];rfl) (fun _ _ _=>s.at_) (fun j x w0 P' hx hI hn' hr'=>?_) (fun w0 hI=>?_) (fun v m h=>h)
 ·obtain ⟨w5,w6,w7,w8⟩:=w0
  obtain ⟨w,ns,i',hl,rfl,e1⟩:=s.lk.get hx
  rw [xU,List.getElem?_map] at hl
  obtain ⟨w',hw,e⟩:=Option.map_eq_some_iff.mp hl
  cases e
  obtain ⟨t1,t2⟩:=mc (sec:=sec) (f:=fw r ab) hw
  refine ⟨rfl,?_⟩
  refine Ar hK hd1 e1 R1 (fun h0=>?_) fun n j' l dd hB=>?_
  ·exact hn' (_,_,_,_) (hI.trans (t1 (DJ hs h0)))
  ·have hot:=hI.trans (t2 (As hs hB.mem hB.isd.rch))
   have last:ax K (M+1) [.ret (.tup [.var 5,.bin .add (.var 7) (.list [.tup [.var 2,.var 8]])])] P' (fun c m=>X c m.heap) ⟨[some (.inst 0 i),some (.ref d),some (.int k),some r.mv,some (.tup (ab.map Tm.mv)),some (.str w),some (.ref i'),some (.ref j'),some (.str (tgt r w))],h1⟩:=by
    refine af (ah hB.at_) (af (ac _ _) ?_)
    refine ⟨aI (by rw [List.length_map,List.length_singleton,hB.len];exact Nat.le_trans (Nat.succ_le_succ (Nat.succ_le_succ (Nat.le_of_lt hB.few))) (nb rfl)),?_⟩
    refine hr' _ _ (hr _ _ _ _ (aa (aa s.pre)) (Nat.le_trans s.pre.length_le (by show h1.length≤(h1++[_]).length;rw [List.length_append];exact Nat.le_add_right _ _)) hot ⟨n,l,dd,hB.mem,hB.pth,hB.len,hB.isd,hB.few,hB.low,?_⟩)
    rw [List.map_append];exact ac _ _
   conv=>whnf
   cases q:(w==[115,101,116]) with
   | false=>
    have e:tgt r w=[]:=by show (match w==cW with | true=>_ | false=>[])=_;rw [show (w==cW)=false from q]
    rw [e] at last
    exact last
   | true=>
    obtain ⟨x,t,rfl⟩:=Aq (A:=A) (r:=r) (by rw [←show w=cW from eq_of_beq q];exact List.mem_of_getElem? hw)
    have e:tgt (.set x t) w=x:=by show (match w==cW with | true=>x | false=>[])=_;rw [show (w==cW)=true from q]
    rw [e] at last
    exact last
 ·rw [s.lk.len,xU,List.length_map,List.drop_length] at hI
  exact hn _ _ _ _ _ s.pre hI
theorem md {i:Nat}(hpg:bW h i A B rows)(hN:12<N)
  (q0:∀h',h<+:h'→eD (gL A sec) (nums 1 [] rows)=none→Q .none h') (q1:∀h' q w j,h<+:h'→h.length≤j→eD (gL A sec) (nums 1 [] rows)=some (q,w)→Chn A B (bq (nums 1 [] rows)) h' q w j→Q (.tup [.str w,.ref j]) h'):K N 113 [.inst 0 i] Q X h:=by
 obtain ⟨M,rfl,hM⟩:=room hN
 refine hK _ _ _ _ _ _ mZ rfl rfl ?_
 refine Ao hK hpg F (Nat.le_trans (nb rfl) hM) fun h1 es p1 d1 R1=>?_
 have p1:h<+:h1:=p1
 obtain ⟨a,b,b1,_,_⟩:=hpg.up p1
 refine ay (pE b1 rfl) ?_
 refine lT hK (hpg.up p1) (Nat.le_trans (nb rfl) hM) ?_
 refine lX hK rows (k:=1) (ab:=[]) (Nat.le_trans F.sz (nb rfl)) (by show 0+_≤_;exact n1 F.ne (by simp +arith only)) (by have:=F.ne;exact n2 this hN (by simp +arith only)) fun h2 p2 e2=>?_
 have p2:h1<+:h2:=p2
 refine aG (aF e2) ?_
 refine oi (fun w:Option MV × Option MV × Option MV × Option MV × Option MV × Option MV × Option MV × List MO=>⟨[some (.inst 0 i),some (.ref h.length),w.1,w.2.1,w.2.2.1,w.2.2.2.1,w.2.2.2.2.1,w.2.2.2.2.2.1,w.2.2.2.2.2.2.1],w.2.2.2.2.2.2.2⟩) (fun j w=>h2<+:w.2.2.2.2.2.2.2∧eD (gL A sec) (nums 1 [] rows)=eD (gL A sec) ((nums 1 [] rows).drop j))
  (fun v m=>Q v m.heap) (none,none,none,none,none,none,none,h2) rfl ⟨ai _,by rw [List.drop_zero]⟩ (fun _ _ hI=>ag hI.1 e2) (fun j x w0 P hx hI hn hr=>?_) (fun w0 hI=>?_) (fun v m h=>h)
 ·obtain ⟨w2,w3,w4,w5,w6,w7,w8,hp⟩:=w0
  obtain ⟨p3,hI⟩:=hI
  have p3:h2<+:hp:=p3
  obtain ⟨⟨k,r,ab⟩,hq1,rfl⟩:=Option.map_eq_some_iff.mp (List.getElem?_map ..▸hx)
  have p4:h1<+:hp:=p2.trans p3
  have p5:h<+:hp:=p1.trans p4
  refine xW hK F hs (hpg.up p5) hM (List.mem_of_getElem? hq1) (ag p4 d1) (R1.up p4) (fun hp' w5 w6 w7 w8 p6 h0=>?_) fun hp' w j' vars p6 l6 hot L=>hr _ _ (q1 hp' (k,r,ab) w j' (p5.trans p6) (Nat.le_trans p5.length_le l6) (hI.trans (sk hq1 hot)) L)
  exact hn (_,_,_,_,_,_,_,_) ⟨p3.trans p6,hI.trans (xV hq1 h0)⟩
 ·obtain ⟨p3,hI⟩:=hI
  rw [List.length_map,List.drop_length] at hI
  exact q0 _ (p1.trans (p2.trans p3)) hI
end
end Internal
end
section
namespace Internal
variable {N:Nat}{Q:MV→List MO→Prop}{X:XT}{h:List MO}
noncomputable def ans (ab:List Tm):List Txt:=ab.flatMap an
theorem Au (ab:List Tm)(t:Tm):ans (ab++[t])=ans ab++an t:=by
 unfold ans
 rw [List.flatMap_append]
 exact congrArg (_++·) (List.append_nil _)
theorem ja:∀{ab:List Tm},(∀t∈ab,t.good)→(ans ab).length≤8 * ab.length
 | [],_=>Nat.le_refl _
 | t::ab,h=>by
  have h1:=Nat.le_trans (cC t) (h t (.head _)).lv
  have h2:=ja (ab:=ab) fun u hu=>h u (.tail _ hu)
  show (an t++ans ab).length≤8 * (ab.length+1)
  rw [List.length_append];exact n2 h2 h1 (by simp +arith only)
inductive LsA (hp:List MO)(i:Nat):List Num→List MV→Prop
 | nil:LsA hp i [] []
 | cons {k r ab a qs us}:a≠i→hp[a]?=some (.list ((ans ab).map .str))→LsA hp i qs us→LsA hp i ((k,r,ab)::qs) (.tup [r.mv,.ref a]::us)
section
variable {hp hp':List MO}{i:Nat}
theorem LsA.up (u:∀j o,j≠i→hp[j]?=some o→hp'[j]?=some o){qs:List Num}{us:List MV}(h:LsA hp i qs us):LsA hp' i qs us:=by
 induction h with
 | nil=>exact .nil
 | cons h1 h2 _ ih=>exact .cons h1 (u _ _ h1 h2) ih
theorem LsA.app {qs qs':List Num}{us us':List MV}(h:LsA hp i qs us)(k:LsA hp i qs' us'):LsA hp i (qs++qs') (us++us'):=by
 induction h with
 | nil=>exact k
 | cons h1 h2 _ ih=>exact .cons h1 h2 ih
theorem LsA.len {qs:List Num}{us:List MV}(h:LsA hp i qs us):us.length=qs.length:=by
 induction h with
 | nil=>rfl
 | cons _ _ _ ih=>exact congrArg (·+1) ih
theorem LsA.get {qs:List Num}{us:List MV}(h:LsA hp i qs us):∀{j:Nat}{q:Num},qs[j]?=some q→∃a,us[j]?=some (.tup [q.2.1.mv,.ref a])∧hp[a]?=some (.list ((ans q.2.2).map .str)):=by
 induction h with
 | nil=>intro j q e;exact aw e
 | @cons k r ab a qs us h1 h2 h3 ih=>
  intro j q e
  cases j with
  | zero=>obtain rfl:=Option.some.inj e;exact ⟨a,rfl,h2⟩
  | succ j=>exact ih e
end
variable {K:KT}(hK:aK PP K)
include hK
theorem oj:∀(t:Tm) {N:Nat}{Q:MV→List MO→Prop}{X:XT}{h:List MO},t.deep<N→t.lv≤1000→(∀r h',h<+:h'→h'[r]?=some (.list ((an t).map .str))→Q (.ref r) h')→K N 37 [t.mv] Q X h
 | .num k,N,Q,X,h,hN,hl,hq=>by
  obtain ⟨M,rfl,hM⟩:=room hN
  refine hK _ _ _ _ _ _ bd rfl rfl ?_
  exact hq _ _ (aa (ai _)) (ac _ _)
 | .nm s,N,Q,X,h,hN,hl,hq=>by
  obtain ⟨M,rfl,hM⟩:=room hN
  refine hK _ _ _ _ _ _ bd rfl rfl ?_
  exact hq _ _ (aa (ai _)) (ac _ _)
 | .op c a b,N,Q,X,h,hN,hl,hq=>by
  have hN:max a.deep b.deep+1<N:=hN
  have hl:a.lv+b.lv≤1000:=hl
  obtain ⟨M,rfl,hM⟩:=room hN
  have ea:=cC a
  have eb:=cC b
  refine hK _ _ _ _ _ _ bd rfl rfl ?_
  conv=>whnf
  rw [show ([c]==tY)=false from ma (by decide)]
  conv=>whnf
  rw [show ([c]==lN)=false from ma (by decide)]
  refine oj a (n2 hN (Nat.le_max_left a.deep b.deep) (by simp +arith only)) (n1 hl (by simp +arith only)) fun r1 h1 p1 e1=>?_
  refine oj b (n2 hN (Nat.le_max_right a.deep b.deep) (by simp +arith only)) (n1 hl (by simp +arith only)) fun r2 h2 p2 e2=>?_
  refine af (ag p2 e1) (af e2 ?_)
  refine ⟨bU (n3 eb ea hl (by simp +arith only)),?_⟩
  exact hq _ _ (aa (List.IsPrefix.trans p1 p2)) (cA _ _ _)
theorem ug {r:Rw}(hN:0<N)(hq:Q (.ref h.length) (h++[.list (r.subs.map fun b=>.tup (mvs b))])):K N 72 [r.mv] Q X h:=by
 obtain ⟨M,rfl,hM⟩:=room hN
 refine hK _ _ _ _ _ _ gW rfl rfl ?_
 cases r with
 | set s t=>exact hq
 | tell t=>exact ⟨⟨rfl,rfl,by decide,Nat.le_of_ble_eq_true rfl⟩,hq⟩
 | skip=>exact ⟨⟨rfl,rfl,by decide,Nat.le_of_ble_eq_true rfl⟩,hq⟩
 | ite t a b=>exact ⟨⟨rfl,rfl,by decide,Nat.le_of_ble_eq_true rfl⟩,hq⟩
 | wh t a=>exact ⟨⟨rfl,rfl,by decide,Nat.le_of_ble_eq_true rfl⟩,hq⟩
theorem sq {r:Rw}(hN:0<N)(hq:Q r.ft.mv h):K N 106 [r.mv] Q X h:=by
 obtain ⟨M,rfl,hM⟩:=room hN
 refine hK _ _ _ _ _ _ fQ rfl rfl ?_
 cases r<;>exact hq
end Internal
end
section
namespace Internal
noncomputable def Kp1 (i:Nat)(h h':List MO):Prop:=∀j o,j≠i→h[j]?=some o→h'[j]?=some o
theorem Kp1.refl {i:Nat}(h:List MO):Kp1 i h h:=fun _ _ _ e=>e
theorem Kp1.trans {i:Nat}{a b c:List MO}(x:Kp1 i a b)(y:Kp1 i b c):Kp1 i a c:=fun j o h e=>y j o h (x j o h e)
theorem Kp1.pre {i:Nat}{a b:List MO}(p:a<+:b):Kp1 i a b:=fun _ _ _ e=>ag p e
theorem Kp1.set {i:Nat}{a:List MO}{o:MO}:Kp1 i a (a.set i o):=fun j _ h e=>ao (Ne.symm h) e
theorem xX {r:Rw}{b:List Rw}(h:b∈r.subs):r.tm=r.ft:=by
 cases r with
 | ite t x y=>rfl
 | wh t x=>rfl
 | _=>exact aC h
variable {K:KT}
noncomputable def LI (K:KT)(rs:List Rw):Prop:=∀{N:Nat}{k:Int}{ab:List Tm}{ar i:Nat}{vs:List MV}{Q:MV→List MO→Prop}{X:XT}{h:List MO}{u:MV}{g:Gd},cj .val [u] h=some (mvs rs,g)→(∀hp,Kp1 i h hp→aQ g hp)→dT rs→(∀t∈ab,t.good)→ab.length+aB rs≤7→vs.length+av rs≤10000→aB rs+6<N→h[ar]?=some (.list ((ans ab).map .str))→ar≠i→h[i]?=some (.list vs)→
 (∀h' us,Kp1 i h h'→h'[i]?=some (.list (vs++us))→LsA h' i (nums k ab rs) us→Q (.ref i) h')→K N 107 [u,.ref ar,.ref i] Q X h
variable (hK:aK PP K)
include hK
theorem Av (rs:List Rw)(ih:∀r∈rs,∀b∈r.subs,LI K b):LI K rs:=by
 intro N k ab ar i vs Q X h u g hit hgd hg hab hl hz hN har hne hi hq
 obtain ⟨M,rfl,hM⟩:=room hN
 have la:=ja hab
 refine hK _ _ _ _ _ _ gX rfl rfl ?_
 refine aG hit ?_
 refine iO (fun j w3 w4 hp us=>⟨[some u,some (.ref ar),some (.ref i),w3,w4],hp⟩) (fun j w3 w4 hp us=>A3 (Kp1 i h hp) (hp[i]?=some (.list (vs++us))) (LsA hp i (nums k ab (rs.take j)) us)) none none h [] rfl ⟨.refl _,by rw [List.append_nil];exact hi,.nil⟩ (fun _ _ _ _ _ hI=>hgd _ hI.h1) (fun j x w3 w4 hp us P hx hI hn _=>?_) (fun w3 w4 hp us hI=>?_)
 ·obtain ⟨k1,e1,a1⟩:=hI
  obtain ⟨r,hr,rfl⟩:=rS hx
  have hm:=List.mem_of_getElem? hr
  have gr:=gD hg r hm
  have sz:av (rs.take (j+1))≤av rs:=lW rs _
  rw [ap hr,dh,show av [r]=r.size from Nat.add_zero _,rY] at sz
  have l1:us.length=av (rs.take j):=by rw [a1.len,bw]
  refine ay (aA e1) (aY (aW e1) ?_)
  refine ⟨Nat.lt_of_lt_of_le (show _<10000 by rw [List.length_append];exact n3 (Nat.le_of_eq l1) sz hz (by simp +arith only)) (aI (by decide)),?_⟩
  have e2:(hp.set i (.list (vs++us++[MV.tup [r.mv,.ref ar]])))[i]?=some (.list (vs++us++[MV.tup [r.mv,.ref ar]])):=get_set e1
  have k2:Kp1 i hp (hp.set i (.list (vs++us++[MV.tup [r.mv,.ref ar]]))):=.set
  refine ug hK (r:=r) (n1 hN (by simp +arith only)) ?_
  refine aG (aF (ac _ _)) ?_
  have p3:hp.set i (.list (vs++us++[MV.tup [r.mv,.ref ar]]))<+:(hp.set i (.list (vs++us++[MV.tup [r.mv,.ref ar]])))++[MO.list (r.subs.map fun b=>.tup (mvs b))]:=aa (ai _)
  have nei:i≠(hp.set i (.list (vs++us++[MV.tup [r.mv,.ref ar]]))).length:=Nat.ne_of_lt (List.getElem?_eq_some_iff.mp e2).1
  have a2:LsA (hp.set i (.list (vs++us++[MV.tup [r.mv,.ref ar]]))) i (nums k ab (rs.take j)++[(k+av (rs.take j),r,ab)]) (us++[MV.tup [r.mv,.ref ar]]):=(a1.up k2).app (.cons hne (k2 _ _ hne (k1 _ _ hne har)) .nil)
  refine nW (fun j2 w4 hp2 us2=>⟨[some u,some (.ref ar),some (.ref i),some r.mv,w4],hp2⟩) (fun j2 w4 hp2 us2=>A4 (Kp1 i hp hp2) (hp2[i]?=some (.list (vs++(us++[MV.tup [r.mv,.ref ar]]++us2)))) (LsA hp2 i (nums k ab (rs.take j)++[(k+av (rs.take j),r,ab)]++cI (k+av (rs.take j)+1) (ab++[r.tm]) (r.subs.take j2)) (us++[MV.tup [r.mv,.ref ar]]++us2)) (hp2[(hp.set i (.list (vs++us++[MV.tup [r.mv,.ref ar]]))).length]?=some (.list (r.subs.map fun b=>.tup (mvs b)))))
   _ _ [] rfl ⟨k2.trans (.pre p3),by rw [List.append_nil,←List.append_assoc];exact ag p3 e2,by rw [List.append_nil];show LsA _ i (_++[]) _;rw [List.append_nil];exact a2.up fun _ _ _ e=>ag p3 e,ac _ _⟩ (fun _ _ _ _ hI=>hI.h4) (fun j2 y w4 hp2 us2 P2 hy hI hn2 _=>?_) (fun w4 hp2 us2 hI=>?_)
  ·obtain ⟨q1,q2,q3,q4⟩:=hI
   obtain ⟨b,hb,rfl⟩:=Option.map_eq_some_iff.mp (List.getElem?_map ..▸hy)
   have hbm:=List.mem_of_getElem? hb
   have gt:r.ft.good:=i7 gr
   have nb1:=eu b hbm
   have nr:=en (Nat.le_refl (aB rs)) r hm
   have ss:=jR r.subs (j2+1)
   rw [ap hb,dD,show bj [b]=av b from Nat.add_zero _] at ss
   have l2:us2.length=bj (r.subs.take j2):=by
    have h1:=q3.len
    have h2:∀(bs:List (List Rw)) (k:Int) (ab:List Tm),(cI k ab bs).length=bj bs:=fun bs=>by
     induction bs with
     | nil=>intro k ab;rfl
     | cons b bs ih=>intro k ab;show (nums k ab b++cI (k+av b) ab bs).length=av b+bj bs;rw [List.length_append,bw,ih]
    rw [List.length_append,List.length_append,List.length_append,List.length_append,h2,bw,List.length_singleton,List.length_singleton] at h1
    lia
   have har2:=q1 _ _ hne (k1 _ _ hne har)
   refine sq hK (r:=r) (n1 hN (by simp +arith only)) ?_
   refine oj hK r.ft (by have:=gt.2;exact n2 this hN (by simp +arith only)) (Nat.le_trans gt.lv (nb rfl)) fun r5 h5 p5 e5=>?_
   have p5:hp2<+:h5:=p5
   refine af (ag p5 har2) (af e5 ?_)
   have ln:=Nat.le_trans (cC r.ft) gt.lv
   refine ⟨bU (Nat.le_trans (Nat.add_le_add (Nat.le_trans la (Nat.mul_le_mul_left 8 (Nat.le_trans (Nat.le_add_right _ _) hl))) ln) (nb rfl)),?_⟩
   have e6:(h5++[MO.list ((ans ab).map .str++(an r.ft).map .str)])[h5.length]?=some (.list ((ans (ab++[r.tm])).map .str)):=by rw [xX hbm,Au];exact cA _ _ _
   have p6:hp2<+:h5++[MO.list ((ans ab).map .str++(an r.ft).map .str)]:=aa p5
   have hlt:i<h5.length:=Nat.lt_of_lt_of_le (List.getElem?_eq_some_iff.mp q2).1 p5.length_le
   refine ih r hm b hbm (k:=k+av (rs.take j)+1+bj (r.subs.take j2)) (ab:=ab++[r.tm]) rfl (fun _ _=>trivial) (pC gr b hbm) (fun t ht=>(List.mem_append.mp ht).elim (hab t) fun e=>by rw [List.mem_singleton.mp e,xX hbm];exact gt) (by rw [List.length_append,List.length_singleton];exact n3 nr nb1 hl (by simp +arith only)) ?_ (n3 nr nb1 hN (by simp +arith only)) e6 (Nat.ne_of_gt hlt) (ag p6 q2) fun h7 us7 k7 e7 a7=>?_
   ·rw [List.length_append,List.length_append,List.length_append,List.length_singleton,l1,l2];exact n3 hz sz ss (by simp +arith only)
   ·refine hn2 _ h7 (us2++us7) ⟨(q1.trans (.pre p6)).trans k7,?_,?_,k7 _ _ (Ne.symm nei) (ag p6 q4)⟩
    ·rw [e7];simp only [List.append_assoc]
    ·rw [ap hb,jt,←List.append_assoc,←List.append_assoc]
     refine (q3.up fun j o hj e=>k7 j o hj (ag p6 e)).app ?_
     show LsA h7 i (nums _ _ b++[]) us7
     rw [List.append_nil];exact a7
  ·obtain ⟨q1,q2,q3,q4⟩:=hI
   rw [List.length_map,List.take_length] at q3
   refine hn _ _ hp2 (us++[MV.tup [r.mv,.ref ar]]++us2) ⟨k1.trans q1,q2,?_⟩
   rw [ap hr,iZ,show nums (k+av (rs.take j)) ab [r]=r.num (k+av (rs.take j)) ab from List.append_nil _,xD]
   rw [List.append_assoc] at q3
   exact q3
 ·obtain ⟨k1,e1,a1⟩:=hI
  rw [bt,List.take_length] at a1
  exact hq _ _ k1 e1 a1
theorem xY (rs:List Rw):LI K rs:=fU (P:=fun rs=>LI K rs) (fun rs ih=>Av hK rs ih) rs
end Internal
end
section
namespace Internal
theorem Bj {m:MS}{a:Nat}{v:MV}(h:a<m.vars.length):(m.set a v).get a=some v:=by
 unfold MS.get MS.set
 rw [List.getElem?_set_self h]
theorem xZ {α:Type}{p:α→Bool}{ys:List α}{j:Nat}{s:α}(e:ys[j]?=some s)(h:p s=true):(ys.take (j+1)).filter p=(ys.take j).filter p++[s]:=by
 rw [ap e,List.filter_append,List.filter_cons_of_pos h];rfl
theorem x0 {α:Type}{p:α→Bool}{ys:List α}{j:Nat}{s:α}(e:ys[j]?=some s)(h:p s=false):(ys.take (j+1)).filter p=(ys.take j).filter p:=by
 rw [ap e,List.filter_append,List.filter_cons_of_neg (by rw [h];exact Bool.false_ne_true)];exact List.append_nil _
theorem E0 {m:MS}{i j:Nat}{v:MV}(h:i≠j):(m.set i v).get j=m.get j:=by
 unfold MS.get MS.set
 rw [List.getElem?_set_ne h]
noncomputable def fil (sec l:List Txt):List Txt:=l.filter fun x=>sec.contains x
theorem fq {sec l:List Txt}{x:Txt}:x∈fil sec l↔x∈l∧x∈sec:=by
 unfold fil;rw [List.mem_filter,List.contains_iff_mem]
theorem om {sec l:List Txt}:(fil sec l).isEmpty=!l.any sec.contains:=by
 rw [Bool.eq_iff_iff,List.isEmpty_iff,Bool.not_eq_true',Bool.eq_false_iff]
 constructor
 ·intro h q
  obtain ⟨n,h1,h2⟩:=List.any_eq_true.mp q
  have:n∈fil sec l:=fq.mpr ⟨h1,List.contains_iff_mem.mp h2⟩
  rw [h] at this;exact aC this
 ·intro h
  refine List.eq_nil_iff_forall_not_mem.mpr fun n hn=>h ?_
  obtain ⟨h1,h2⟩:=fq.mp hn
  exact List.any_eq_true.mpr ⟨n,h1,List.contains_iff_mem.mpr h2⟩
section
variable {K:KT}
theorem su {n v w s:Nat}{src:ME}{l sec:List Txt}{vs:List (Option MV)}{hp:List MO}{P:PQ}{X:XM}(hsrc:∀P':PQ,(∀hp' r,hp<+:hp'→hp'[r]?=some (.list (l.map .str))→P' (.ref r) ⟨vs,hp'⟩)→wpE K n src P' X ⟨vs,hp⟩)(ol:∀x∈l,okS x)(hs:hp[s]?=some (.list (sec.map .str)))(os:∀x∈sec,okS x)(hv:v<vs.length)(hw:∀hp',(MS.mk vs hp').get w=some (.ref s))(hne:v≠w)
  (hq:∀hp',hp<+:hp'→P (.ref hp'.length) ⟨vs,hp'++[.list ((fil sec l).map .str)]⟩):wpE K n (.comp (.var v) [v] false .val [src] [.cmp .inn (.var v) (.var w)]) P X ⟨vs,hp⟩:=by
 show wpE K n src _ X ⟨vs,hp⟩
 refine hsrc _ fun hp r pre hl=>?_
 have hs:=ag pre hs
 have hq:=hq hp pre
 have hw:=hw hp
 refine aG (aF hl) ?_
 refine gE (fun z=>⟨vs.set v z,hp⟩) (fun j=>(fil sec (l.take j)).map .str) (vs[v]'hv) (by rw [List.set_getElem_self]) rfl (fun _=>hl) (fun j x z P hx n1 n2=>?_) (fun z=>?_)
 ·obtain ⟨y,hy,rfl⟩:=Option.map_eq_some_iff.mp (List.getElem?_map ..▸hx)
  have e:(MS.mk (vs.set v z) hp).set v (.str y)=⟨vs.set v (some (.str y)),hp⟩:=by unfold MS.set;rw [List.set_set]
  have g1:(MS.mk (vs.set v (some (.str y))) hp).get v=some (.str y):=Bj (m:=⟨vs,hp⟩) hv
  have g2:(MS.mk (vs.set v (some (.str y))) hp).get w=some (.ref s):=(E0 (m:=⟨vs,hp⟩) hne).trans hw
  show wpE K n (.var v) _ noX ((MS.mk (vs.set v z) hp).set v (.str y))
  rw [e]
  refine iQ g1 ?_
  refine iQ g2 ?_
  refine al hs ?_
  refine bB (ol y (List.mem_of_getElem? hy)) os ?_
  cases q:sec.contains y with
  | true=>
   show wpE K n (.var v) (fun x m=>P (some x) m) noX ⟨vs.set v (some (.str y)),hp⟩
   refine iQ g1 (n1 _ _ ?_)
   show ((l.take (j+1)).filter _).map MV.str=((l.take j).filter _).map MV.str++_
   rw [xZ hy q,List.map_append];rfl
  | false=>
   refine n2 _ ?_
   show ((l.take (j+1)).filter _).map MV.str=((l.take j).filter _).map MV.str
   rw [x0 hy q]
 ·rw [List.length_map,List.take_length]
  exact hq
theorem x2 {n:Nat}{c:ME}{a r:List MSt}{Q:Fl→MS→Prop}{X:XM}{m:MS}(hc:∀P:PQ,P (.bool false) m→wpE K n c P X m)(h:ax K n r Q X m):ax K n (.ite c a []::r) Q X m:=hc _ h
theorem E1 {n:Nat}{e:ME}{a b r:List MSt}{Q:Fl→MS→Prop}{X:XM}{m:MS}(h:wpE K n e (fun x m=>wpE K n (.list []) (fun y m=>ij .ne x y (fun t m=>match t with
  | true=>ax K n a (fun f m=>match f with
   | .next=>ax K n r Q X m
   | f=>Q f m) X m
  | false=>ax K n b (fun f m=>match f with
   | .next=>ax K n r Q X m
   | f=>Q f m) X m) m) X m) X m):ax K n (.ite (.cmp .ne e (.list [])) a b::r) Q X m:=h
theorem ki (hK:aK PP K){n u r:Nat}{a:ME}{t:Tm}{ab:List Tm}{m:MS}{P:PQ}{X:XM}(ha:∀P':PQ,P' t.mv m→wpE K n a P' X m)(hu:∀hp',(MS.mk m.vars hp').get u=some (.ref r))(hr:m.heap[r]?=some (.list ((ans ab).map .str)))(gt:t.good)(ga:∀t∈ab,t.good)(ll:ab.length≤7)(hn:3<n)
  (hq:∀hp' i,m.heap<+:hp'→hp'[i]?=some (.list ((an t++ans ab).map .str))→P (.ref i) ⟨m.vars,hp'⟩):wpE K n (.bin .add (.call 37 [a]) (.var u)) P X m:=by
 refine ha _ ?_
 refine oj hK t (by have:=gt.2;exact n2 this hn (by simp +arith only)) (Nat.le_trans gt.lv (nb rfl)) fun r5 h5 p5 e5=>?_
 have p5:m.heap<+:h5:=p5
 refine iQ (hu h5) ?_
 refine af e5 (af (ag p5 hr) ?_)
 have ln:=Nat.le_trans (cC t) gt.lv
 have la:(ans ab).length≤8 * ab.length:=ja ga
 refine ⟨bU (Nat.le_trans (Nat.add_le_add ln (Nat.le_trans la (Nat.mul_le_mul_left 8 ll))) (nb rfl)),?_⟩
 exact hq _ _ (aa p5) (cA _ _ _)
end
end Internal
end
section
namespace Internal
noncomputable def yN (b n:Nat):List (List Nat):=(List.range n).map fun (k:Nat)=>121::b::dec k
theorem x3:∀s∈yN 111 20++yN 115 20,Gn s:=by unfold Gn Nm;decide +kernel
theorem FB:(yN 111 20++yN 115 20).Nodup:=by decide +kernel
theorem x4 (b:Nat){n:Nat}(h:n≤20):(yN b n).Sublist (yN b 20):=by
 have e:yN b n=(yN b 20).take n:=by
  unfold yN;rw [←List.map_take,List.take_range,Nat.min_eq_left h]
 rw [e];exact List.take_sublist ..
theorem x5 (b n:Nat):(yN b n).length=n:=by unfold yN;rw [List.length_map,List.length_range]
section
variable {K:KT}
theorem jS {n i:Nat}{e:ME}{r:List MSt}{Q:Fl→MS→Prop}{X:XM}{m:MS}(h:wpE K n e (fun v m=>ax K n r Q X (m.set i v)) X m):ax K n (.asg [i] false e::r) Q X m:=h
theorem Aw {n:Nat}{a b:ME}{Q:PQ}{X:XM}{m:MS}(h:wpE K n a (fun x m=>wpE K n b (fun y m=>Q (.ref m.heap.length) (m.push (.list [x,y]))) X m) X m):wpE K n (.list [a,b]) Q X m:=h
theorem x6 {g:Gd}{step:MV→(Option MV→MS→Prop)→MS→Prop}{Q:List MV→MS→Prop}{x y:MV}{m:MS}(A:MV→MS→Prop)(B:MV→MV→MS→Prop)(g0:aQ g m.heap)(h1:∀P:Option MV→MS→Prop,(∀a m1,A a m1→P (some a) m1)→step x P m)(ga:∀a m1,A a m1→aQ g m1.heap)
  (h2:∀a m1,A a m1→∀P:Option MV→MS→Prop,(∀b m2,B a b m2→P (some b) m2)→step y P m1) (gb:∀a b m2,B a b m2→aQ g m2.heap∧Q [a,b] m2):co g step Q [x,y] [] m:=by
 rw [eJ]
 refine ⟨g0,h1 _ fun a m1 hA=>?_⟩
 show co g step Q [y] [a] m1
 rw [eJ]
 refine ⟨ga a m1 hA,h2 a m1 hA _ fun b m2 hB=>?_⟩
 show co g step Q [] [a,b] m2
 rw [jf]
 exact gb a b m2 hB
theorem x7 {n v b:Nat}{k:Int}{src:ME}{m:MS}{Q:PQ}{X:XM}(hk:0≤k∧k≤20)(hsrc:∀Q:PQ,Q (.int k) m→wpE K n src Q X m)(hv:v<m.vars.length)(hq:Q (.ref m.heap.length) ⟨m.vars,m.heap++[.list ((yN b k.toNat).map .str)]⟩) :
  wpE K n (.comp (.bin .add (.cst (.str [121,b])) (.blt .str [.var v])) [v] false .range1 [src] []) Q X m:=by
 show wpE K n src _ X m
 refine hsrc _ ?_
 refine aG (dS (z1 hk.1 (by simp +arith only)) (z1 hk.2 (by simp +arith only))) ?_
 refine dg (fun j a m'=>m'.vars.length=m.vars.length∧m'.heap=m.heap∧a=((yN b k.toNat).take j).map .str) ⟨rfl,rfl,rfl⟩ (fun _ _ _ _=>trivial) (fun j x a m' P hx hI n1 _=>?_) (fun a m' hI=>?_)
 ·obtain ⟨e1,e2,rfl⟩:=hI
  obtain ⟨hj,rfl⟩:=fS hx
  show wpE K n (.var v) _ noX (m'.set v (.int j))
  refine iQ (Bj (by rw [e1];exact hv)) ?_
  have hj6:(j:Int)<1000000:=Int.lt_trans (Int.lt_of_lt_of_le (Int.lt_toNat.mp hj) hk.2) (by decide)
  refine ⟨⟨Int.natCast_nonneg _,hj6⟩,?_⟩
  have:=(nD (i:=(j:Int)) ⟨Int.natCast_nonneg _,hj6⟩).2
  refine ⟨by show 2+_≤_;unfold line;lia,?_⟩
  refine n1 _ _ ⟨by show (m'.vars.set v _).length=_;rw [List.length_set,e1],e2,?_⟩
  rw [ap (r:=121::b::dec j) (by unfold yN;rw [List.getElem?_map,List.getElem?_range hj];rfl),List.map_append];rfl
 ·obtain ⟨e1,e2,rfl⟩:=hI
  rw [jq,List.take_of_length_le (by rw [x5];exact Nat.le_refl _),e2]
  exact hq
theorem x8 {n r a:Nat}{ss ys:List (List Nat)}{v1 v2 v3 v4 v5 v7:Option MV}{hp:List MO}{Q:PQ}{X:XM}(hr:hp[r]?=some (.list (ss.map .str)))(hs:∀s∈ss,okS s)(ha:hp[a]?=some (.list (ys.map .str)))(hy:∀s∈ys,okS s)(hq:Q (.ref hp.length) ⟨[some (.ref r),v1,v2,v3,v4,v5,some (.ref a),v7],hp++[.list ((ys.filter fun s=>!ss.contains s).map .str)]⟩) :
  wpE K n (.comp (.var 7) [7] false .val [.var 6] [.cmp .nin (.var 7) (.var 0)]) Q X ⟨[some (.ref r),v1,v2,v3,v4,v5,some (.ref a),v7],hp⟩:=by
 refine aG (aF ha) ?_
 refine gE (fun w=>⟨[some (.ref r),v1,v2,v3,v4,v5,some (.ref a),w],hp⟩) (fun j=>((ys.take j).filter fun s=>!ss.contains s).map .str) _ rfl rfl (fun _=>ha) (fun j x w P hx n1 n2=>?_) (fun w=>?_)
 ·obtain ⟨s,hs1,rfl⟩:=Option.map_eq_some_iff.mp (List.getElem?_map ..▸hx)
  refine al hr ?_
  refine bB (hy s (List.mem_of_getElem? hs1)) hs ?_
  cases q:ss.contains s with
  | true=>exact n2 _ (by rw [x0 hs1 (by rw [q];rfl)])
  | false=>exact n1 _ _ (by rw [xZ hs1 (by rw [q];rfl),List.map_append];rfl)
 ·rw [List.length_map,List.take_length]
  exact hq
variable (hK:aK PP K)
include hK
theorem DK {c:Int}{r:Nat}{ss:List (List Nat)}{N:Nat}{Q:MV→List MO→Prop}{X:XT}{h:List MO}(hr:h[r]?=some (.list (ss.map .str)))(hs:∀s∈ss,okS s)(hN:0<N)
  (hq:∀(h':List MO) (i a b:Nat) (U V:List (List Nat)),h<+:h'→h'[i]?=some (.list [.ref a,.ref b])→h'[a]?=some (.list (U.map .str))→h'[b]?=some (.list (V.map .str))→U.Sublist (yN 111 20)→V.Sublist (yN 115 20)→(∀s∈U++V,s∉ss)→Q (.ref i) h'):K N 95 [.ref r,.int c] Q X h:=by
 obtain ⟨m,rfl,hM⟩:=room hN
 refine hK _ _ _ _ _ _ fR rfl rfl ?_
 refine af (ac _ _) ?_
 have hx:0≤c % 4∧c % 4<4:=em rfl
 obtain ⟨x,hx1,k,rfl,hk⟩:=jN.get (P:=fun _ x=>∃k:Int,x=.int k∧0≤k∧k<20) (n:=0) (l:=[MV.int 0,.int (c / 4 % 3),.int (c / 4 % 20),.int 0]) (.cons ⟨0,rfl,by decide⟩ (.cons ⟨_,rfl,em rfl⟩ (.cons ⟨_,rfl,em rfl⟩ (.cons ⟨0,rfl,by decide⟩ .nil)))) (c % 4).toNat (by show _<4;exact emN rfl)
 refine az (aL hx.1 hx.2) hx1 ?_
 have rest:∀hp:List MO,h<+:hp→ax K m (fR.body.drop 1) (fin Q) (fun c m=>X c m.heap) ⟨[some (.ref r),some (.int c),some (.int k),none,none,none,none,none],hp⟩:=fun hp p1=>by
  refine jS (Aw ?_)
  refine x7 (⟨z1 hk.1 (by simp +arith only),z1 hk.2 (by simp +arith only)⟩) (fun Q hq=>hq) (Nat.le_of_ble_eq_true rfl) ?_
  have hk2:0≤k+c / 4 % 2∧k+c / 4 % 2≤20:=by lia
  have hn2:(k+c / 4 % 2).toNat≤20:=Int.toNat_le.mpr hk2.2
  have hn1:k.toNat≤20:=by lia
  refine x7 (k:=k+c / 4 % 2) hk2 (fun Q hq=>hq) (Nat.le_of_ble_eq_true rfl) ?_
  have ya:∀b n,b=111∨b=115→n≤20→∀s∈yN b n,okS s:=fun b n hb hn s hs=>by
   have hs:=(x4 b hn).subset hs
   rcases hb with rfl | rfl
   ·exact (x3 s (List.mem_append_left _ hs)).1.ok
   ·exact (x3 s (List.mem_append_right _ hs)).1.ok
  have q1:=p1.trans (aa (o:=.list ((yN 115 (k+c / 4 % 2).toNat).map .str)) (aa (o:=.list ((yN 111 k.toNat).map .str)) (ai hp)))
  have q2:(hp++[MO.list ((yN 111 k.toNat).map .str)]++[.list ((yN 115 (k+c / 4 % 2).toNat).map .str)])[hp.length]?=some (.list ((yN 111 k.toNat).map .str)):=ah (ac _ _)
  have q3:(hp++[MO.list ((yN 111 k.toNat).map .str)]++[.list ((yN 115 (k+c / 4 % 2).toNat).map .str)])[(hp++[MO.list ((yN 111 k.toNat).map .str)]).length]?=some (.list ((yN 115 (k+c / 4 % 2).toNat).map .str)):=ac _ _
  dsimp only
  generalize (hp++[MO.list ((yN 111 k.toNat).map .str)]).length=b at *
  generalize hp++[MO.list ((yN 111 k.toNat).map .str)]++[.list ((yN 115 (k+c / 4 % 2).toNat).map .str)]=h1 at *
  refine aG (aF (ac _ _)) ?_
  refine x6 (fun a m=>a=.ref (h1++[MO.list [.ref hp.length,.ref b]]).length∧m=⟨[some (.ref r),some (.int c),some (.int k),some (.ref h1.length),none,none,some (.ref hp.length),none],h1++[MO.list [.ref hp.length,.ref b]]++[MO.list (((yN 111 k.toNat).filter fun s=>!ss.contains s).map .str)]⟩) (fun a e m=>a=.ref (h1++[MO.list [.ref hp.length,.ref b]]).length∧e=.ref (h1++[MO.list [.ref hp.length,.ref b]]++[MO.list (((yN 111 k.toNat).filter fun s=>!ss.contains s).map .str)]).length∧m.heap=h1++[MO.list [.ref hp.length,.ref b]]++[MO.list (((yN 111 k.toNat).filter fun s=>!ss.contains s).map .str)]++[MO.list (((yN 115 (k+c / 4 % 2).toNat).filter fun s=>!ss.contains s).map .str)])
   (ac _ _) (fun P n1=>?_) (fun a m1 hA=>by obtain ⟨_,rfl⟩:=hA;exact ah (ac _ _)) (fun a m1 hA P n1=>?_) (fun a e m2 hB=>?_)
  ·show wpE K m (.comp (.var 7) [7] false .val [.var 6] [.cmp .nin (.var 7) (.var 0)]) (fun x m=>P (some x) m) noX ⟨[some (.ref r),some (.int c),some (.int k),some (.ref h1.length),none,none,some (.ref hp.length),none],h1++[MO.list [.ref hp.length,.ref b]]⟩
   refine x8 (n:=m) (v1:=some (.int c)) (v2:=some (.int k)) (v3:=some (.ref h1.length)) (v4:=none) (v5:=none) (v7:=none) (ah (ag q1 hr)) hs (ah q2) (ya 111 _ (.inl rfl) hn1) ?_
   exact n1 _ _ ⟨rfl,rfl⟩
  ·obtain ⟨rfl,rfl⟩:=hA
   show wpE K m (.comp (.var 7) [7] false .val [.var 6] [.cmp .nin (.var 7) (.var 0)]) (fun x m=>P (some x) m) noX ⟨[some (.ref r),some (.int c),some (.int k),some (.ref h1.length),none,none,some (.ref b),none],h1++[MO.list [.ref hp.length,.ref b]]++[MO.list (((yN 111 k.toNat).filter fun s=>!ss.contains s).map .str)]⟩
   refine x8 (n:=m) (v1:=some (.int c)) (v2:=some (.int k)) (v3:=some (.ref h1.length)) (v4:=none) (v5:=none) (v7:=none) (ah (ah (ag q1 hr))) hs (ah (ah q3)) (ya 115 _ (.inr rfl) hn2) ?_
   exact n1 _ _ ⟨rfl,rfl,rfl⟩
  obtain ⟨rfl,rfl,hB⟩:=hB
  refine ⟨by rw [hB];exact ah (ah (ac _ _)),?_⟩
  show Q _ (m2.heap++[_])
  rw [hB]
  refine hq _ _ _ _ ((yN 111 k.toNat).filter fun s=>!ss.contains s) ((yN 115 (k+c / 4 % 2).toNat).filter fun s=>!ss.contains s) (q1.trans (aa (aa (aa (aa (ai _)))))) (ac _ _) (ah (ah (ac _ _))) (ah (ac _ _)) (List.filter_sublist.trans (x4 _ hn1)) (List.filter_sublist.trans (x4 _ hn2)) fun s hs' q=>?_
  have hc:ss.contains s=true:=List.contains_iff_mem.mpr q
  rcases List.mem_append.mp hs' with h1 | h1
  ·have:=(List.mem_filter.mp h1).2;rw [hc] at this;exact ff this
  ·have:=(List.mem_filter.mp h1).2;rw [hc] at this;exact ff this
 exact rest _ (aa (ai _))
end
end Internal
end
section
namespace Internal
theorem pJ {α:Type}(n:Nat)(l:List α):(l.drop n++l.take n).Perm l:=by
 have:=List.perm_append_comm (l₁:=l.drop n) (l₂:=l.take n)
 rw [List.take_append_drop] at this;exact this
section
variable {K:KT}(hK:aK PP K)
include hK
theorem Ax {c:Int}{r i a b:Nat}{ss U V:List (List Nat)}{N:Nat}{Q:MV→List MO→Prop}{X:XT}{h:List MO}(hr:h[r]?=some (.list (ss.map .str)))(ten:ss.length=10)(hi:h[i]?=some (.list [.ref a,.ref b]))(ha:h[a]?=some (.list (U.map .str)))(hb:h[b]?=some (.list (V.map .str)))(hU:U.length≤20)(hV:V.length≤20)(hN:0<N)
  (hq:∀(h':List MO) (i a b:Nat) (A B A' B':List (List Nat)),h<+:h'→h'[i]?=some (.list [.ref a,.ref b])→h'[a]?=some (.list (A.map .str))→h'[b]?=some (.list (B.map .str))→A.Perm (U++A')→B.Perm (V++B')→A'.Sublist (ss.take 5)→B'.Sublist (ss.drop 5)→Q (.ref i) h'):K N 96 [.ref r,.ref i,.int c] Q X h:=by
 obtain ⟨m,rfl,hM⟩:=room hN
 refine hK _ _ _ _ _ _ dR rfl rfl ?_
 refine af hi ?_
 refine al ha ?_
 refine af (ah hi) ?_
 refine al (ah hb) ?_
 have loop:∀(hp:List MO) (ra rb rr:Nat),h<+:hp→h.length≤ra→h.length≤rb→ra≠rb→ra≠rr→rb≠rr→hp[rr]?=some (.list [.ref ra,.ref rb])→hp[ra]?=some (.list (U.map .str))→hp[rb]?=some (.list (V.map .str))→
   ax K m (dR.body.drop 2) (fin Q) (fun c m=>X c m.heap) ⟨[some (.ref r),some (.ref i),some (.int c),some (.ref rr),some (.int c),none,none,none],hp⟩:=fun hp ra rb rr p0 la lb n1 n2 n3 e1 e2 e3=>by
  refine aG (jp (ag p0 hr)) ?_
  refine gw (fun j (v:Int) (w5:Option MV) (w6:Option MV) (hp:List MO) (A:List (List Nat)) (B:List (List Nat))=>⟨[some (.ref r),some (.ref i),some (.int c),some (.ref rr),some (.int v),w5,w6,none],hp⟩) (fun j (v:Int) (w5:Option MV) (w6:Option MV) (hp:List MO) (A:List (List Nat)) (B:List (List Nat))=>A6 (h<+:hp) (hp[rr]?=some (.list [.ref ra,.ref rb])) (hp[ra]?=some (.list ((U++A).map .str))) (hp[rb]?=some (.list ((V++B).map .str))) (A.Sublist ((ss.take 5).take j)) (B.Sublist ((ss.drop 5).take (j-5))))
   c none none hp [] [] rfl ⟨p0,e1,by rw [List.append_nil];exact e2,by rw [List.append_nil];exact e3,List.nil_sublist _,List.nil_sublist _⟩ (fun _ _ _ _ _ _ _ hI=>ag hI.h1 hr) (fun j x v w5 w6 hp A B P hx hI hn _=>?_) (fun v w5 w6 hp A B hI=>?_)
  ·obtain ⟨p1,f1,f2,f3,sA,sB⟩:=hI
   obtain ⟨z,hz1,rfl⟩:=nY hx
   obtain ⟨s,hs1,rfl⟩:=Option.map_eq_some_iff.mp (List.getElem?_map ..▸hz1)
   have hj:=(List.getElem?_eq_some_iff.mp hs1).1
   have lA:=sA.length_le
   have lB:=sB.length_le
   rw [List.length_take,List.length_take] at lA
   rw [List.length_take,List.length_drop] at lB
   have tA:((ss.take 5).take j).Sublist ((ss.take 5).take (j+1)):=List.take_sublist_take_left (Nat.le_succ _)
   have tB:((ss.drop 5).take (j-5)).Sublist ((ss.drop 5).take (j+1-5)):=List.take_sublist_take_left (Nat.sub_le_sub_right (Nat.le_succ _) _)
   refine ⟨rfl,?_⟩
   conv=>whnf
   cases decide (0<v % 3) with
   | false=>
    exact hn _ _ _ hp A B ⟨p1,f1,f2,f3,sA.trans tA,sB.trans tB⟩
   | true=>
    refine af f1 ?_
    rcases Nat.lt_or_ge j 5 with h5 | h5
    ·refine az (j:=0) (v:=.ref ra) ?_ rfl ?_
     ·rw [show (j:Int) / 5=0 from Int.ediv_eq_zero_of_lt (Int.natCast_nonneg _) (Int.ofNat_lt.mpr h5)];rfl
     refine ay (aA f2) ?_
     refine aY (aW f2) ?_
     have lA:=Nat.le_trans lA (Nat.min_le_left ..)
     refine ⟨by rw [List.length_map,List.length_append];exact lk (Internal.n3 hU lA h5 (by simp +arith only)) (b:=1000) rfl,?_⟩
     refine hn _ _ _ _ (A++[s]) B ⟨aM p1 la,ao n2 f1,?_,ao n1 f3,?_,sB.trans tB⟩
     ·rw [show (U++(A++[s])).map MV.str=(U++A).map MV.str++[.str s] by rw [←List.append_assoc,List.map_append];rfl];exact get_set f2
     ·rw [ap (r:=s) (by rw [List.getElem?_take_of_lt h5];exact hs1)]
      exact sA.append (List.Sublist.refl _)
    ·refine az (j:=1) (v:=.ref rb) ?_ rfl ?_
     ·rw [show (j:Int) / 5=1 by lia];rfl
     refine ay (aA f3) ?_
     refine aY (aW f3) ?_
     have lB:=Nat.le_trans (Nat.le_trans lB (Nat.min_le_left ..)) (Nat.sub_le _ _)
     refine ⟨by rw [List.length_map,List.length_append];exact lk (Internal.n3 hV lB (Nat.le_trans hj (Nat.le_of_eq ten)) (by simp +arith only)) (b:=1000) rfl,?_⟩
     refine hn _ _ _ _ A (B++[s]) ⟨aM p1 lb,ao n3 f1,ao (Ne.symm n1) f2,?_,sA.trans tA,?_⟩
     ·rw [show (V++(B++[s])).map MV.str=(V++B).map MV.str++[.str s] by rw [←List.append_assoc,List.map_append];rfl];exact get_set f3
     ·rw [Nat.succ_sub h5,ap (r:=s) (by rw [List.getElem?_drop,Nat.add_sub_cancel' h5];exact hs1)]
      exact sB.append (List.Sublist.refl _)
  ·obtain ⟨p1,f1,f2,f3,sA,sB⟩:=hI
   have sA:=sA.trans (List.take_sublist _ _)
   have sB:=sB.trans (List.take_sublist _ _)
   have lA:=sA.length_le
   have lB:=sB.length_le
   rw [List.length_take] at lA
   rw [List.length_drop] at lB
   refine af f1 ?_
   refine al f2 ?_
   refine ay (decide_eq_true (Int.lt_of_lt_of_le Int.one_pos (Int.le_max_left ..))) ?_
   refine af f1 ?_
   refine al f3 ?_
   refine ay (decide_eq_true (Int.lt_of_lt_of_le Int.one_pos (Int.le_max_left ..))) ?_
   have hx:0≤c / 27 % max 1 (((U++A).map MV.str).length:Int):=Int.emod_nonneg _ (Int.ne_of_gt (Int.lt_of_lt_of_le Int.one_pos (Int.le_max_left ..)))
   have hy:0≤c / 189 % max 1 (((V++B).map MV.str).length:Int):=Int.emod_nonneg _ (Int.ne_of_gt (Int.lt_of_lt_of_le Int.one_pos (Int.le_max_left ..)))
   generalize c / 27 % max 1 (((U++A).map MV.str).length:Int)=x at *
   generalize c / 189 % max 1 (((V++B).map MV.str).length:Int)=y at *
   have fin':∀hp,h<+:hp→hp[rr]?=some (.list [.ref ra,.ref rb])→hp[ra]?=some (.list ((U++A).map .str))→hp[rb]?=some (.list ((V++B).map .str))→ax K m (dR.body.drop 4) (fin Q) (fun c m=>X c m.heap) ⟨[some (.ref r),some (.ref i),some (.int c),some (.ref rr),some (.int v),w5,w6,some (.ref hp.length)],hp++[MO.list [.int x,.int y]]⟩:=fun hp p1 f1 f2 f3=>by
    refine af (ah f1) ?_
    refine af (ac _ _) ?_
    refine af (ah f2) ?_
    have rot:∀(l:List (List Nat)) {x:Int},0≤x→aJ (l.map MV.str) (some x) none++aJ (l.map MV.str) none (some x)=(l.drop x.toNat++l.take x.toNat).map MV.str:=fun l {x} hx=>by
     rw [bv hx,bT hx,List.map_append,List.map_drop,List.map_take]
    have rln:∀(l:List (List Nat)) {x:Int},0≤x→l.length≤1000→(aJ (l.map MV.str) (some x) none).length+(aJ (l.map MV.str) none (some x)).length≤line:=fun l {x} hx hl=>by
     rw [bv hx,bT hx,List.length_drop,List.length_take,List.length_map,Nat.min_comm,Nat.sub_add_min_cancel];exact lk hl rfl
    refine af (ah (ah f1)) ?_
    refine af (ah (ac _ _)) ?_
    refine af (ah (ah f2)) ?_
    refine af (ah (ac _ _)) ?_
    refine af (ac _ _) ?_
    refine ⟨rln _ hx (by rw [List.length_append];exact Nat.le_trans (Nat.add_le_add hU (Nat.le_trans lA (Nat.min_le_left _ _))) (nb rfl)),?_⟩
    refine af (ah (ah (ah (ah f1)))) ?_
    refine af (ah (ah (ah (ac _ _)))) ?_
    refine af (ah (ah (ah (ah f3)))) ?_
    refine af (ah (ah (ah (ah (ah f1))))) ?_
    refine af (ah (ah (ah (ah (ac _ _))))) ?_
    refine af (ah (ah (ah (ah (ah f3))))) ?_
    refine af (ah (ac _ _)) ?_
    refine af (ac _ _) ?_
    refine ⟨rln _ hy (by rw [List.length_append];exact Nat.le_trans (Nat.add_le_add hV (Nat.le_trans lB (Nat.le_trans (Nat.sub_le _ _) (Nat.le_of_eq ten)))) (nb rfl)),?_⟩
    refine hq _ _ _ _ ((U++A).drop x.toNat++(U++A).take x.toNat) ((V++B).drop y.toNat++(V++B).take y.toNat) A B (aa (aa (aa (aa (aa (aa (aa (aa p1)))))))) (ac _ _) ?_ ?_ (pJ _ _) (pJ _ _) sA sB
    ·rw [←rot _ hx];exact ah (ah (ah (ah (ac _ _))))
    ·rw [←rot _ hy];exact ah (ac _ _)
   exact fin' hp p1 f1 f2 f3
 have l1:(h++[MO.list (U.map .str)]).length=h.length+1:=by rw [List.length_append];rfl
 have l2:(h++[MO.list (U.map .str)]++[MO.list (V.map .str)]).length=h.length+1+1:=by rw [List.length_append,l1];rfl
 exact loop (h++[MO.list (U.map .str)]++[MO.list (V.map .str)]++[MO.list [.ref h.length,.ref (h++[MO.list (U.map .str)]).length]]) h.length (h++[MO.list (U.map .str)]).length (h++[MO.list (U.map .str)]++[MO.list (V.map .str)]).length (aa (aa (aa (ai _)))) (Nat.le_refl _) (n1 (Nat.le_of_eq l1.symm) (by simp +arith only)) (Nat.ne_of_lt (n1 (Nat.le_of_eq l1.symm) (by simp +arith only))) (Nat.ne_of_lt (n1 (Nat.le_of_eq l2.symm) (by simp +arith only))) (Nat.ne_of_lt (n2 (Nat.le_of_eq l2.symm) (Nat.le_of_eq l1) (by simp +arith only))) (ac _ _) (ah (ah (ac _ _))) (ah (ac _ _))
end
end Internal
end
section
namespace Internal
theorem fu {ab:List Tm}{n:Txt}:n∈ans ab↔n∈ats ab:=by
 rw [oh];unfold ans;exact List.mem_flatMap
theorem kj {x:Txt}{t:Tm}{ab:List Tm}{n:Txt}:n∈cX (.set x t) ab↔n∈an t++ans ab:=by
 rw [pH (fun e=>by cases e),List.mem_append,fu]
 exact or_comm
theorem sv {k:Int}{x n:Txt}{t:Tm}{ab:List Tm}:(k,n,x)∈qfl (k,.set x t,ab)↔n∈an t++ans ab:=by
 rw [←kj (x:=x)]
 show (k,n,x)∈(cX (.set x t) ab).map (fun s=>(k,s,x))↔_
 rw [List.mem_map]
 exact ⟨fun ⟨s,h,e⟩=>by cases e;exact h,fun h=>⟨n,h,rfl⟩⟩
structure eE (h:List MO)(rp ra rb ri:Nat)(A B:List Txt)(qs:List Num)(us:List MV):Prop where
 p:h[rp]?=some (.list [.ref ra,.ref rb])
 a:h[ra]?=some (.list (A.map .str))
 b:h[rb]?=some (.list (B.map .str))
 r:h[ri]?=some (.list us)
 ls:LsA h ri qs us
theorem eE.up {h h':List MO}{rp ra rb ri:Nat}{A B:List Txt}{qs:List Num}{us:List MV}(L:eE h rp ra rb ri A B qs us)(p:h<+:h'):eE h' rp ra rb ri A B qs us:=
 ⟨ag p L.p,ag p L.a,ag p L.b,ag p L.r,L.ls.up fun _ _ _ e=>ag p e⟩
structure Sec (A B T:List Txt)(fl:List Flw)(sec:List Txt):Prop where
 nd:sec.Nodup
 sub:∀x∈sec,x∈T
 base:∀x∈B,x∈sec
 snd:∀x∈sec,Rch A B fl x
noncomputable def Clo (A:List Txt)(fl:List Flw)(sec:List Txt):Prop:=∀f∈fl,f.2.1∈sec→f.2.2∉A→f.2.2∈sec
theorem Sec.all {A B T:List Txt}{fl:List Flw}{sec:List Txt}(s:Sec A B T fl sec)(c:Clo A fl sec)(x:Txt):x∈sec↔Rch A B fl x:=by
 refine ⟨s.snd x,fun r=>?_⟩
 induction r with
 | base h=>exact s.base _ h
 | step h _ hA _ ih=>exact c _ h ih hA
theorem Sec.add {A B T:List Txt}{fl:List Flw}{sec:List Txt}{k:Int}{x n:Txt}(s:Sec A B T fl sec)(hx:x∉sec)(hT:x∈T)(hA:x∉A)(hf:(k,n,x)∈fl)(hn:n∈sec):Sec A B T fl (sec++[x]):=
 ⟨List.nodup_append.mpr ⟨s.nd,List.nodup_cons.mpr ⟨List.not_mem_nil,List.nodup_nil⟩,fun a ha b hb e=>hx (by rw [←List.mem_singleton.mp hb,←e];exact ha)⟩,
  fun y hy=>(List.mem_append.mp hy).elim (s.sub y) fun h=>by rw [List.mem_singleton.mp h];exact hT,fun y hy=>List.mem_append_left _ (s.base y hy),
  fun y hy=>(List.mem_append.mp hy).elim (s.snd y) fun h=>by rw [List.mem_singleton.mp h];exact .step hf (s.snd n hn) hA fun hB=>hx (s.base x hB)⟩
theorem LsA.at_ {hp:List MO}{i:Nat}{qs:List Num}{us:List MV}(h:LsA hp i qs us){j:Nat}{x:MV}(e:us[j]?=some x):∃q a,qs[j]?=some q∧x=.tup [q.2.1.mv,.ref a]∧hp[a]?=some (.list ((ans q.2.2).map .str)):=by
 have hj:=(List.getElem?_eq_some_iff.mp e).1
 rw [h.len] at hj
 obtain ⟨a,h1,h2⟩:=h.get (bg hj)
 exact ⟨_,a,bg hj,same e h1,h2⟩
theorem qY {hp:List MO}{i j:Nat}{l:List Txt}{Q:Bool→Prop}(hi:hp[i]?=some (.list (l.map .str)))(hj:hp[j]?=some (.list []))(h:Q l.isEmpty):EqP hp (.ref i) (.ref j) Q:=by
 refine .nil i j (l.map .str) rfl rfl hi hj ?_
 rw [show (l.map MV.str).isEmpty=l.isEmpty from by cases l<;>rfl];exact h
theorem Ay {α:Type}{x:α}{a b:List α}:x∉a++b↔x∉a∧x∉b:=by rw [List.mem_append,not_or]
theorem pK {x:Txt}{l:List Txt}(h:l.contains x=false):x∉l:=fun q=>by rw [List.contains_iff_mem.mpr q] at h;exact tf h
variable {K:KT}(hK:aK PP K)
include hK
section
variable {h:List MO}{rp ra rb ri:Nat}{A B:List Txt}{rows:List Rw}{us:List MV}(L:eE h rp ra rb ri A B (nums 1 [] rows) us) (F:LF A B rows)
include F
theorem x9 {k:Int}{r:Rw}{ab:List Tm}{a s N:Nat}{g:Bool}{sec:List Txt}{w4 w5 w6:Option MV}{hp:List MO}{P:Fl→MS→Prop}{X:XM}(L:eE hp rp ra rb ri A B (nums 1 [] rows) us)(hq:(k,r,ab)∈nums 1 [] rows)(ha:hp[a]?=some (.list ((ans ab).map .str)))(hs:hp[s]?=some (.list (sec.map .str)))(S:Sec A B (aS (aN A B rows)) (bq (nums 1 [] rows)) sec)(hN:4<N)
  (q0:∀hp' w6,hp<+:hp'→(∀x t,r=.set x t→x∉A→(∃n∈an t++ans ab,n∈sec)→x∈sec)→P .next ⟨[some (.ref rp),some (.ref ri),some (.ref s),some (.bool g),some r.mv,some (.ref a),w6],hp'⟩)
  (q1:∀hp' w6 x t n,hp<+:hp'→r=.set x t→x∉A→x∉sec→n∈an t++ans ab→n∈sec→P .next ⟨[some (.ref rp),some (.ref ri),some (.ref s),some (.bool true),some r.mv,some (.ref a),w6],hp'.set s (.list ((sec++[x]).map .str))⟩) :
  asg [4,5] true (.tup [r.mv,.ref a]) (fun m=>ax K N [.ite (.and [.cmp .eq (.idx (.var 4) (.cst (.int 0))) (.cst (.str [115,101,116])),.cmp .nin (.idx (.var 4) (.cst (.int 1))) (.bin .add (.idx (.var 0) (.cst (.int 0))) (.var 2))]) [.ite (.cmp .ne (.comp (.var 6) [6] false .val [.bin .add (.call 37 [.idx (.var 4) (.cst (.int 2))]) (.var 5)] [.cmp .inn (.var 6) (.var 2)]) (.list [])) [.expr (.mth .append (.var 2) [.idx (.var 4) (.cst (.int 1))]),.asg [3] false (.cst (.bool true))] []] []] P X m) ⟨[some (.ref rp),some (.ref ri),some (.ref s),some (.bool g),w4,w5,w6],hp⟩:=by
 have o:=F.nums _ hq
 have few:=fg sec _ S.nd S.sub
 have fT:=F.few
 have len:=F.len
 have oks:∀x∈sec,okS x:=fun x hx=>F.ok x (S.sub x hx)
 have no:(∀x t,r≠.set x t)→P .next ⟨[some (.ref rp),some (.ref ri),some (.ref s),some (.bool g),some r.mv,some (.ref a),w6],hp⟩:=fun h=>q0 hp w6 (ai _) fun x t e=>absurd e (h x t)
 refine ⟨rfl,?_⟩
 cases r with
 | tell t=>exact no fun _ _ e=>by cases e
 | skip=>exact no fun _ _ e=>by cases e
 | ite t a b=>exact no fun _ _ e=>by cases e
 | wh t a=>exact no fun _ _ e=>by cases e
 | set x t=>
  have gt:t.good:=o.good.2
  have xT:x∈aS (aN A B rows):=hX hq x t rfl
  have gA:∀y∈A++sec,okS y:=fun y hy=>(List.mem_append.mp hy).elim (fun h=>(F.gn y (List.mem_append_left _ h)).1.ok) (oks y)
  refine af L.p ?_
  refine af L.a (af hs ?_)
  refine ⟨bU (n3 len fT few (by simp +arith only)),?_⟩
  refine al (xs:=(A++sec).map .str) (by rw [List.map_append];exact ac _ _) ?_
  refine bB (F.ok x xT) gA ?_
  conv=>whnf
  cases q:(A++sec).contains x with
  | true=>exact q0 _ w6 (aa (ai _)) fun y u e hA _=>by cases e;exact (List.mem_append.mp (List.contains_iff_mem.mp q)).resolve_left hA
  | false=>
   obtain ⟨hA,hS⟩:=Ay.mp (pK q)
   have p1:hp<+:hp++[MO.list (A.map .str++sec.map .str)]:=aa (ai _)
   have on:∀n∈an t++ans ab,okS n:=fun n hn=>(List.mem_append.mp hn).elim (fun h=>F.ok n (o.fn n h)) fun h=>F.ok n (o.am n (fu.mp h))
   show ax K N [.ite (.cmp .ne (.comp (.var 6) [6] false .val [.bin .add (.call 37 [.idx (.var 4) (.cst (.int 2))]) (.var 5)] [.cmp .inn (.var 6) (.var 2)]) (.list [])) [.expr (.mth .append (.var 2) [.idx (.var 4) (.cst (.int 1))]),.asg [3] false (.cst (.bool true))] []] _ X ⟨[some (.ref rp),some (.ref ri),some (.ref s),some (.bool g),some (Rw.mv (.set x t)),some (.ref a),w6],hp++[MO.list (A.map .str++sec.map .str)]⟩
   refine E1 ?_
   refine su (l:=an t++ans ab) (fun P' hP'=>?_) on (ag p1 hs) oks (Nat.le_of_ble_eq_true rfl) (fun _=>rfl) (by decide) fun h5 p5=>?_
   ·exact ki hK (t:=t) (ab:=ab) (fun P' h=>h) (fun _=>rfl) (ag p1 ha) gt o.tg o.len (Nat.lt_of_succ_lt hN) hP'
   have p5:hp<+:h5:=p1.trans p5
   refine qY (ah (ac _ _)) (ac _ _) ?_
   conv=>whnf
   rw [om]
   cases q2:(an t++ans ab).any sec.contains with
   | false=>
    refine q0 _ _ (aa (aa p5)) fun y u e _ hx=>?_
    cases e
    obtain ⟨n,h1,h2⟩:=hx
    rw [List.any_eq_true.mpr ⟨n,h1,List.contains_iff_mem.mpr h2⟩] at q2;exact tf q2
   | true=>
    obtain ⟨n,h1,h2⟩:=List.any_eq_true.mp q2
    have e6:=ah (o':=MO.list []) (ah (o':=MO.list ((fil sec (an t++ans ab)).map .str)) (ag p5 hs))
    refine ay (aA e6) (aY (aW e6) ?_)
    refine ⟨by rw [List.length_map];exact Nat.lt_of_le_of_lt few (Nat.lt_of_lt_of_le fT (aI (nb rfl))),?_⟩
    have:=q1 _ w6 x t n (aa (o:=MO.list []) (aa (o:=MO.list ((fil sec (an t++ans ab)).map .str)) p5)) rfl hA hS h1 (List.contains_iff_mem.mp h2)
    rw [List.map_append] at this
    exact this
include L
theorem yb {N:Nat}{Q:MV→List MO→Prop}{X:XT}(hN:5<N)(hq:∀h' r (sec:List Txt),h<+:h'→h'[r]?=some (.list (sec.map .str))→(∀x,x∈sec↔Rch A B (bq (nums 1 [] rows)) x)→(∀x∈sec,x∈aS (aN A B rows))→sec.length<200→Q (.ref r) h'):K N 108 [.ref rp,.ref ri] Q X h:=by
 obtain ⟨M,rfl,hM⟩:=room hN
 have fT:=F.few
 have B0:Sec A B (aS (aN A B rows)) (bq (nums 1 [] rows)) B:=⟨(List.nodup_append.mp F.nd).2.1,fun x hx=>aE.mpr (List.mem_append_left _ (List.mem_append_right _ hx)),fun x hx=>hx,fun x hx=>.base hx⟩
 refine hK _ _ _ _ _ _ gY rfl rfl ?_
 refine af L.p ?_
 refine al L.b ?_
 refine ⟨202,rP (fun w:List Txt × Bool × List MO × Option MV × Option MV × Option MV=>⟨[some (.ref rp),some (.ref ri),some (.ref h.length),some (.bool w.2.1),w.2.2.2.1,w.2.2.2.2.1,w.2.2.2.2.2],w.2.2.1⟩) (fun k w=>A5 (h<+:w.2.2.1) (w.2.2.1[h.length]?=some (.list (w.1.map .str))) (Sec A B (aS (aN A B rows)) (bq (nums 1 [] rows)) w.1) (w.2.1=true→202≤k+w.1.length) (w.2.1=false→1≤k∧Clo A (bq (nums 1 [] rows)) w.1))
  (fun w hI=>?_) (fun k w W hI hW=>?_) 202 (B,true,_,none,none,none) rfl ⟨aa (ai _),ac _ _,B0,fun _=>Nat.le_add_right _ _,fun h=>tf h⟩⟩
 ·obtain ⟨sec,g,hp,w4,w5,w6⟩:=w
  obtain ⟨_,_,S,h1,h2⟩:=hI
  have few:sec.length≤_:=fg sec _ S.nd S.sub
  cases g with
  | true=>have:202≤0+sec.length:=h1 rfl;exact nf (n3 this few fT (by simp +arith only))
  | false=>exact nf (h2 rfl).1
 ·obtain ⟨sec,g,hp,w4,w5,w6⟩:=w
  obtain ⟨p1,e1,S,h1,h2⟩:=hI
  dsimp only at p1 e1 S h1 h2
  have few:=fg sec _ S.nd S.sub
  cases g with
  | false=>exact hq hp _ sec p1 e1 (S.all (h2 rfl).2) S.sub (Nat.lt_of_le_of_lt few fT)
  | true=>
   have h1:=h1 rfl
   have L1:=L.up p1
   refine aG (aF L1.r) ?_
   refine gw (fun j sec' g w4 w5 w6 hp=>⟨[some (.ref rp),some (.ref ri),some (.ref h.length),some (.bool g),w4,w5,w6],hp⟩)
    (fun j sec' g w4 w5 w6 hp=>A5 (h<+:hp) (hp[h.length]?=some (.list (sec'.map .str))) (Sec A B (aS (aN A B rows)) (bq (nums 1 [] rows)) sec') (g=true→sec.length<sec'.length) (g=false→sec'=sec∧Clo A (bq ((nums 1 [] rows).take j)) sec')) sec false w4 w5 w6 hp rfl ⟨p1,e1,S,fun h=>ff h,fun _=>⟨rfl,fun f hf=>by rw [List.take_zero] at hf;exact aC hf⟩⟩ (fun _ _ _ _ _ _ _ hI=>(L.up hI.h1).r) (fun j x sec' g w4 w5 w6 hp P hx hI hn _=>?_) (fun sec' g w4 w5 w6 hp hI=>?_)
   ·obtain ⟨p2,e2,S2,g1,g2⟩:=hI
    have L2:=L.up p2
    obtain ⟨⟨k',r,ab⟩,a,hj,rfl,ea⟩:=L2.ls.at_ hx
    have hm:=List.mem_of_getElem? hj
    refine x9 hK F L2 hm ea e2 S2 (n1 hM (by simp +arith only)) (fun hp' w6 p3 h3=>?_) fun hp' w6 x t n p3 h3 h4 h5 h6 h7=>?_
    ·refine hn sec' g _ _ _ hp' ⟨p2.trans p3,ag p3 e2,S2,g1,fun h=>⟨(g2 h).1,fun f hf hs hA=>?_⟩⟩
     rw [ap hj,i8] at hf
     rcases List.mem_append.mp hf with hf | hf
     ·exact (g2 h).2 f hf hs hA
     ·have hf:f∈qfl (k',r,ab):=by rw [show bq [(k',r,ab)]=qfl (k',r,ab) from List.append_nil _] at hf;exact hf
      cases r with
      | set x t=>
       obtain ⟨s,hs',rfl⟩:=List.mem_map.mp (show f∈(cX (.set x t) ab).map fun s=>(k',s,x) from hf)
       exact h3 x t rfl hA ⟨s,kj.mp hs',hs⟩
      | _=>exact aC hf
    ·subst h3
     have hf:(k',n,x)∈bq (nums 1 [] rows):=List.mem_flatMap.mpr ⟨_,hm,sv.mpr h6⟩
     refine hn (sec'++[x]) true _ _ _ _ ⟨aM (p2.trans p3) (Nat.le_refl _),get_set (ag p3 e2),S2.add h5 (hX hm x t rfl) h4 hf h7,fun _=>?_,fun h=>tf h⟩
     rw [List.length_append,List.length_singleton]
     cases g with
     | true=>exact Nat.lt_succ_of_lt (g1 rfl)
     | false=>rw [(g2 rfl).1];exact Nat.lt_succ_self _
   ·obtain ⟨p2,e2,S2,g1,g2⟩:=hI
    rw [L1.ls.len,List.take_length] at g2
    refine hW (sec',g,hp,_,_,_) ⟨p2,e2,S2,fun h=>?_,fun h=>⟨?_,(g2 h).2⟩⟩
    ·have:=g1 h;exact n2 this h1 (by simp +arith only)
    ·exact n3 h1 few fT (by simp +arith only)
end
end Internal
end
section
namespace Internal
noncomputable def dvr:Tm→Bool→List Txt
 | .num _,_=>[]
 | .nm s,b=>match b with
  | true=>[s]
  | false=>[]
 | .op c a b,r=>dvr a r++dvr b (r||c==47)
theorem yc:∀{t:Tm}{n:Txt},n∈dvr t true↔n∈an t
 | .num _,n=>Iff.rfl
 | .nm s,n=>Iff.rfl
 | .op c a b,n=>by
  show n∈dvr a true++dvr b true↔n∈an a++an b
  rw [List.mem_append,List.mem_append,yc,yc]
theorem pL:∀{t:Tm}{n:Txt},n∈dvr t false↔n∈rn t
 | .num _,n=>Iff.rfl
 | .nm s,n=>Iff.rfl
 | .op c a b,n=>by
  show n∈dvr a false++dvr b (c==47)↔n∈rn a++rn b++(match c==47 with | true=>an b | false=>[])
  cases c==47 with
  | true=>
   show _↔n∈rn a++rn b++an b
   rw [List.mem_append,List.mem_append,List.mem_append,pL,yc]
   exact ⟨fun h=>h.elim (fun h=>.inl (.inl h)) .inr,fun h=>h.elim (fun h=>h.elim .inl fun h=>.inr (sf h)) .inr⟩
  | false=>
   show _↔n∈rn a++rn b++[]
   rw [List.append_nil,List.mem_append,List.mem_append,pL,pL]
theorem gH:∀(t:Tm) (b:Bool),(dvr t b).length≤t.lv
 | .num _,_=>Nat.zero_le _
 | .nm s,b=>by cases b<;>exact Nat.le_of_ble_eq_true rfl
 | .op c a b,r=>by
  have h1:=gH a r
  have h2:=gH b (r||c==47)
  show (dvr a r++dvr b (r||c==47)).length≤a.lv+b.lv
  rw [List.length_append];exact Nat.add_le_add h1 h2
noncomputable def fwL (r:Rw)(ab:List Tm)(w:Txt):List Txt:=match w==bC with
 | true=>dvr r.ft false++ans ab
 | false=>an r.ft++ans ab
theorem qZ {r:Rw}{ab:List Tm}(hr:r≠.skip)(w n:Txt):n∈fw r ab w↔n∈fwL r ab w:=by
 unfold fw fwL
 cases w==bC with
 | true=>
  show n∈aS (rn r.ft)++ats ab↔n∈dvr r.ft false++ans ab
  rw [List.mem_append,List.mem_append,aE,pL,fu]
 | false=>
  show n∈cX r ab↔n∈an r.ft++ans ab
  rw [pH hr,List.mem_append,fu]
  exact or_comm
theorem sw {A sec:List Txt}(q:Num):gL A sec q=i9 sec (fwL q.2.1 q.2.2) (kss A q.2.1):=by
 obtain ⟨k,r,ab⟩:=q
 by_cases hr:r=.skip
 ·subst hr;rfl
 ·exact DI (qZ hr)
inductive FdA (hp:List MO)(sec:List Txt)(r:Rw)(ab:List Tm):List Txt→List MV→Prop
 | nil:FdA hp sec r ab [] []
 | cons {w i ws vs}:hp[i]?=some (.list ((fil sec (fwL r ab w)).map .str))→FdA hp sec r ab ws vs→FdA hp sec r ab (w::ws) (.tup [.str w,.str (tgt r w),.ref i]::vs)
section
variable {hp hp':List MO}{sec:List Txt}{r:Rw}{ab:List Tm}{ws:List Txt}{vs:List MV}
theorem FdA.snoc (h:FdA hp sec r ab ws vs){w:Txt}{i:Nat}(e:hp[i]?=some (.list ((fil sec (fwL r ab w)).map .str))):FdA hp sec r ab (ws++[w]) (vs++[.tup [.str w,.str (tgt r w),.ref i]]):=by
 induction h with
 | nil=>exact .cons e .nil
 | cons h _ ih=>exact .cons h ih
theorem FdA.get (h:FdA hp sec r ab ws vs):∀{j:Nat}{v:MV},vs[j]?=some v→∃w i,ws[j]?=some w∧v=.tup [.str w,.str (tgt r w),.ref i]∧hp[i]?=some (.list ((fil sec (fwL r ab w)).map .str)):=by
 induction h with
 | nil=>intro j v e;exact aw e
 | @cons w i ws vs h1 h2 ih=>
  intro j v e
  cases j with
  | zero=>exact ⟨w,i,rfl,(Option.some.inj e).symm,h1⟩
  | succ j=>exact ih e
theorem FdA.len (h:FdA hp sec r ab ws vs):vs.length=ws.length:=by
 induction h with
 | nil=>rfl
 | cons _ _ ih=>exact congrArg (·+1) ih
end
structure LLk (A sec:List Txt)(r:Rw)(ab:List Tm)(h:List MO)(vs:List MV):Prop where
 ex:(vs=[]∧i9 sec (fwL r ab) (kss A r)=none)∨∃w i rest,vs=.tup [.str w,.str (tgt r w),.ref i]::rest∧i9 sec (fwL r ab) (kss A r)=some w∧h[i]?=some (.list ((fil sec (fwL r ab w)).map .str))
variable {K:KT}(hK:aK PP K)
include hK
theorem q6:∀(t:Tm) {b:Bool}{N:Nat}{Q:MV→List MO→Prop}{X:XT}{h:List MO},t.deep<N→t.lv≤1000→(∀r h',h<+:h'→h'[r]?=some (.list ((dvr t b).map .str))→Q (.ref r) h')→K N 114 [t.mv,.bool b] Q X h
 | .num k,b,N,Q,X,h,hN,hl,hq=>by
  obtain ⟨M,rfl,hM⟩:=room hN
  refine hK _ _ _ _ _ _ cc rfl rfl ?_
  exact hq _ _ (aa (ai _)) (ac _ _)
 | .nm s,b,N,Q,X,h,hN,hl,hq=>by
  obtain ⟨M,rfl,hM⟩:=room hN
  refine hK _ _ _ _ _ _ cc rfl rfl ?_
  cases b with
  | true=>exact hq _ _ (aa (ai _)) (ac _ _)
  | false=>exact hq _ _ (aa (ai _)) (ac _ _)
 | .op c a b,d,N,Q,X,h,hN,hl,hq=>by
  have hN:max a.deep b.deep+1<N:=hN
  have hl:a.lv+b.lv≤1000:=hl
  obtain ⟨M,rfl,hM⟩:=room hN
  have ea:=gH a d
  have eb:=gH b (d||c==47)
  have e3:([c]==[47])=(c==47):=Bool.and_true _
  have one:∀x,(d||([c]==[47]))=x→K (M+1) 114 [(Tm.op c a b).mv,.bool d] Q X h:=fun x hx=>by
   rw [e3] at hx
   have hq:∀r h',h<+:h'→h'[r]?=some (.list ((dvr a d++dvr b x).map .str))→Q (.ref r) h':=by rw [←hx];exact hq
   rw [hx] at eb
   refine hK _ _ _ _ _ _ cc rfl rfl ?_
   conv=>whnf
   rw [show ([c]==tY)=false from ma (by decide)]
   conv=>whnf
   rw [show ([c]==lN)=false from ma (by decide)]
   conv=>whnf
   rw [show ([c]==lN)=false from ma (by decide)]
   refine q6 a (n2 hN (Nat.le_max_left a.deep b.deep) (by simp +arith only)) (n1 hl (by simp +arith only)) fun r1 h1 p1 e1=>?_
   have go:K M 114 [b.mv,.bool x] (fun v h'=>uw .add (.ref r1) v (fun v m=>Q v m.heap) ⟨[some (Tm.op c a b).mv,some (.bool d)],h'⟩) X h1:=by
    refine q6 b (n2 hN (Nat.le_max_right a.deep b.deep) (by simp +arith only)) (n1 hl (by simp +arith only)) fun r2 h2 p2 e2=>?_
    refine af (ag p2 e1) (af e2 ?_)
    refine ⟨bU (n3 eb ea hl (by simp +arith only)),?_⟩
    exact hq _ _ (aa (List.IsPrefix.trans p1 p2)) (cA _ _ _)
   cases d with
   | true=>
    obtain rfl:true=x:=hx
    exact go
   | false=>
    have hx:([c]==[47])=x:=e3.trans hx
    show K M 114 [b.mv,.bool ([c]==[47])] _ X h1
    rw [hx];exact go
  exact one _ rfl
theorem q7:∀(t:Tm) {N:Nat}{Q:MV→List MO→Prop}{X:XT}{h:List MO},t.deep<N→Q (.bool (dvs t)) h→K N 115 [t.mv] Q X h
 | .num k,N,Q,X,h,hN,hq=>by
  obtain ⟨M,rfl,hM⟩:=room hN
  refine hK _ _ _ _ _ _ bz rfl rfl ?_
  exact hq
 | .nm s,N,Q,X,h,hN,hq=>by
  obtain ⟨M,rfl,hM⟩:=room hN
  refine hK _ _ _ _ _ _ bz rfl rfl ?_
  exact hq
 | .op c a b,N,Q,X,h,hN,hq=>by
  have hN:max a.deep b.deep+1<N:=hN
  have hq:Q (.bool (c==47||(dvs a||dvs b))) h:=hq
  obtain ⟨M,rfl,hM⟩:=room hN
  refine hK _ _ _ _ _ _ bz rfl rfl ?_
  conv=>whnf
  cases q:([c]==[47]) with
  | true=>
   obtain rfl:c=47:=(List.cons.inj (eq_of_beq q)).1
   exact hq
  | false=>
   rw [show (c==47)=false from beq_eq_false_iff_ne.mpr fun e=>by rw [e] at q;exact tf q] at hq
   refine q7 a (n2 hN (Nat.le_max_left a.deep b.deep) (by simp +arith only)) ?_
   cases q1:dvs a with
   | true=>rw [q1] at hq;exact hq
   | false=>
    rw [q1] at hq
    exact q7 b (n2 hN (Nat.le_max_right a.deep b.deep) (by simp +arith only)) hq
end Internal
end
section
namespace Internal
inductive LLe (A sec:List Txt)(r:Rw)(ab:List Tm)(h:List MO)(j:Nat):List MV→Prop
 | inl {acc} (e:acc=[]) (hh:i9 sec (fwL r ab) (kss A r)=i9 sec (fwL r ab) ((kss A r).drop j)):LLe A sec r ab h j acc
 | inr {w i rest} (h1:i9 sec (fwL r ab) (kss A r)=some w) (h2:h[i]?=some (.list ((fil sec (fwL r ab w)).map .str))):LLe A sec r ab h j (.tup [.str w,.str (tgt r w),.ref i]::rest)
section
variable {A sec:List Txt}{r:Rw}{ab:List Tm}{h h':List MO}{j i:Nat}{acc:List MV}{w:Txt}
theorem LLe.no (x:LLe A sec r ab h j acc)(hw:(kss A r)[j]?=some w)(q:(fwL r ab w).any sec.contains=false):LLe A sec r ab h (j+1) acc:=by
 cases x with
 | inl e h=>exact .inl e (h.trans ((mc (sec:=sec) (f:=fwL r ab) hw).1 q))
 | inr h1 h2=>exact .inr h1 h2
theorem LLe.yes (x:LLe A sec r ab h j acc)(hw:(kss A r)[j]?=some w)(q:(fwL r ab w).any sec.contains=true)(e:h[i]?=some (.list ((fil sec (fwL r ab w)).map .str))):LLe A sec r ab h (j+1) (acc++[.tup [.str w,.str (tgt r w),.ref i]]):=by
 cases x with
 | inl e0 h=>subst e0;exact .inr (h.trans ((mc (sec:=sec) (f:=fwL r ab) hw).2 q)) e
 | inr h1 h2=>exact .inr h1 h2
theorem LLe.done (x:LLe A sec r ab h (kss A r).length acc)(p:h<+:h'):LLk A sec r ab h' acc:=by
 cases x with
 | inl e h=>rw [List.drop_length] at h;exact ⟨.inl ⟨e,h⟩⟩
 | inr h1 h2=>exact ⟨.inr ⟨_,_,_,rfl,h1,ag p h2⟩⟩
end
variable {K:KT}(hK:aK PP K)
include hK
section
variable {rp ra rb ri:Nat}{A B sec:List Txt}{rows:List Rw}{us:List MV}{k:Int}{r:Rw}{ab:List Tm}{a s N:Nat}{Q:MV→List MO→Prop}{X:XT}{h:List MO}
 (hA:∀hp,h<+:hp→hp[rp]?=some (.list [.ref ra,.ref rb])∧hp[ra]?=some (.list (A.map .str))) (ha:h[a]?=some (.list ((ans ab).map .str))) (hs:h[s]?=some (.list (sec.map .str))) (os:∀x∈sec,okS x)
 (hq:∀h' vs i,h<+:h'→h'[i]?=some (.list vs)→LLk A sec r ab h' vs→Q (.ref i) h')
omit hK in
include hq in
theorem DL {f:Nat}{vs:List MV}{v6 v7 v8 v9 v10:Option MV}{hp:List MO}(hpre:h<+:hp)(hf:hp[f]?=some (.list vs))(hv:FdA hp sec r ab (kss A r) vs) :
  ax K N (bu.body.drop 8) (fin Q) (fun c m=>X c m.heap) ⟨[some (.ref rp),some r.mv,some (.ref a),some (.ref s),some r.ft.mv,some (.ref f),v6,v7,v8,v9,v10],hp⟩:=by
 refine aG (aF hf) ?_
 refine z8 (fun w:Option MV × List MO=>⟨[some (.ref rp),some r.mv,some (.ref a),some (.ref s),some r.ft.mv,some (.ref f),v6,v7,v8,v9,w.1],w.2⟩) (fun j acc w=>hp<+:w.2∧LLe A sec r ab hp j acc)
  (v10,hp) rfl ⟨ai _,.inl rfl (by rw [List.drop_zero])⟩ (fun i acc w hI=>ag hI.1 hf) (fun j x acc w P hx hI n1 n2=>?_) (fun acc w hI=>?_)
 ·obtain ⟨z,hp'⟩:=w
  obtain ⟨p,hI⟩:=hI
  have p:hp<+:hp':=p
  obtain ⟨w,i,hw,rfl,e1⟩:=hv.get hx
  refine qY (ah (ag p e1)) (ac _ _) ?_
  conv=>whnf
  rw [om]
  cases q:(fwL r ab w).any sec.contains with
  | false=>exact n2 (_,_) ⟨aa p,hI.no hw q⟩
  | true=>exact n1 _ (_,_) ⟨aa p,hI.yes hw q e1⟩
 ·obtain ⟨z,hp'⟩:=w
  obtain ⟨p,hI⟩:=hI
  have p:hp<+:hp':=p
  rw [hv.len] at hI
  exact hq _ _ _ (aa (hpre.trans p)) (ac _ _) (hI.done (aa p))
omit hK in
include hq in
theorem E2 {f:Nat}{vs:List MV}{v6 v7 v8 v9 v10:Option MV}{hp:List MO}(hpre:h<+:hp)(hf:hp[f]?=some (.list vs))(hv:FdA hp sec r ab (kss A r) vs) :
  ax K N (bu.body.drop 7) (fin Q) (fun c m=>X c m.heap) ⟨[some (.ref rp),some r.mv,some (.ref a),some (.ref s),some r.ft.mv,some (.ref f),v6,v7,v8,v9,v10],hp⟩:=by
 have go:=DL (K:=K) (N:=N) (X:=X) (rp:=rp) (a:=a) (s:=s) (v6:=v6) (v7:=v7) (v8:=v8) (v9:=v9) (v10:=v10) hq hpre hf hv
 cases r with
 | skip=>exact hq _ [] _ (aa hpre) (ac _ _) ⟨.inl ⟨rfl,rfl⟩⟩
 | set x t=>exact go
 | tell t=>exact go
 | ite t a b=>exact go
 | wh t a=>exact go
include ha hs os hq in
theorem FC {f:Nat}{ws:List Txt}{vs:List MV}{v6 v7 v8 v9 v10:Option MV}{hp:List MO}(gt:r.ft.good)(ga:∀t∈ab,t.good)(ll:ab.length≤7)(on:∀n∈an r.ft++ans ab,okS n)(hN:4<N)(hpre:h<+:hp)(hfl:h.length≤f)(hf:hp[f]?=some (.list vs))(hl:vs.length≤5)(hv:∀hp',(∀j o,j≠f→hp[j]?=some o→hp'[j]?=some o)→FdA hp' sec r ab ws vs)(hw:kss A r=ws++match dvs r.ft with | true=>[bC] | false=>[]) :
  ax K N (bu.body.drop 6) (fin Q) (fun c m=>X c m.heap) ⟨[some (.ref rp),some r.mv,some (.ref a),some (.ref s),some r.ft.mv,some (.ref f),v6,v7,v8,v9,v10],hp⟩:=by
 refine q7 hK r.ft (by have:=gt.2;exact n2 this hN (by simp +arith only)) ?_
 cases hd:dvs r.ft with
 | false=>
  rw [hd] at hw
  refine E2 hq hpre hf ?_
  rw [show kss A r=ws from hw.trans (List.append_nil _)];exact hv hp fun _ _ _ e=>e
 | true=>
  rw [hd] at hw
  have ol:∀n∈dvr r.ft false++ans ab,okS n:=fun n hn=>on n ((List.mem_append.mp hn).elim (fun h=>List.mem_append_left _ (sf (pL.mp h))) fun h=>List.mem_append_right _ h)
  show ax K N (.asg [7] false (.comp (.var 9) [9] false .val [.bin .add (.call 114 [.var 4,.cst (.bool false)]) (.var 2)] [.cmp .inn (.var 9) (.var 3)])::[.expr (.mth .append (.var 5) [.tup [.cst (.str bC),.cst (.str []),.var 7]])]) _ _ ⟨[some (.ref rp),some r.mv,some (.ref a),some (.ref s),some r.ft.mv,some (.ref f),v6,v7,v8,v9,v10],hp⟩
  refine jS ?_
  refine su (l:=dvr r.ft false++ans ab) (fun P' hP'=>?_) ol (ag hpre hs) os (Nat.le_of_ble_eq_true rfl) (fun _=>rfl) (by decide) fun h5 p5=>?_
  ·refine q6 hK r.ft (by have:=gt.2;exact n2 this hN (by simp +arith only)) (Nat.le_trans gt.lv (nb rfl)) fun i1 h1 p1 e1=>?_
   have p1:hp<+:h1:=p1
   refine af e1 (af (ag (hpre.trans p1) ha) ?_)
   have ln:=Nat.le_trans (gH r.ft false) gt.lv
   have la:(ans ab).length≤8 * ab.length:=ja ga
   refine ⟨bU (Nat.le_trans (Nat.add_le_add ln (Nat.le_trans la (Nat.mul_le_mul_left 8 ll))) (nb rfl)),?_⟩
   exact hP' _ _ (aa p1) (cA _ _ _)
  ·have e5:=ah (o':=MO.list ((fil sec (dvr r.ft false++ans ab)).map .str)) (ag p5 hf)
   refine ay (aA e5) (aY (aW e5) ?_)
   refine ⟨Nat.lt_of_le_of_lt hl (Nat.lt_of_lt_of_le (show 5<6 by decide) (aI (by decide))),?_⟩
   have lf:f<h5.length:=Nat.lt_of_lt_of_le (List.getElem?_eq_some_iff.mp hf).1 p5.length_le
   refine E2 hq (v7:=some (.ref h5.length)) (aM (aa (hpre.trans p5)) hfl) (get_set e5) ?_
   rw [show kss A r=ws++[bC] from hw]
   exact (hv _ fun j o hj e=>ao (Ne.symm hj) (ah (ag p5 e))).snoc (w:=bC) (ao (Nat.ne_of_lt lf) (ac _ _))
include hA ha hs os hq in
theorem yd (gr:r.good)(ga:∀t∈ab,t.good)(ll:ab.length≤7)(on:∀n∈an r.ft++ans ab,okS n)(oA:∀x∈A,okS x)(ox:∀x t,r=.set x t→okS x)(hN:5<N):K N 116 [.ref rp,r.mv,.ref a,.ref s] Q X h:=by
 obtain ⟨M,rfl,hM⟩:=room hN
 have gt:=i7 gr
 refine hK _ _ _ _ _ _ bu rfl rfl ?_
 refine sq hK (r:=r) (n1 hN (by simp +arith only)) ?_
 have p1:h<+:h++[MO.list []]:=aa (ai _)
 show ax K M (.asg [6] false (.comp (.var 8) [8] false .val [.bin .add (.call 37 [.var 4]) (.var 2)] [.cmp .inn (.var 8) (.var 3)])::bu.body.drop 3) (fin Q) (fun c m=>X c m.heap) ⟨[some (.ref rp),some r.mv,some (.ref a),some (.ref s),some r.ft.mv,some (.ref h.length),none,none,none,none,none],h++[MO.list []]⟩
 refine jS ?_
 refine su (l:=an r.ft++ans ab) (fun P' hP'=>?_) on (ag p1 hs) os (Nat.le_of_ble_eq_true rfl) (fun _=>rfl) (by decide) fun h5 p5=>?_
 ·exact ki hK (t:=r.ft) (ab:=ab) (fun P' h=>h) (fun _=>rfl) (ag p1 ha) gt ga ll (Nat.lt_of_succ_lt hM) hP'
 have p6:h<+:h5:=p1.trans p5
 have ef:h5[h.length]?=some (.list []):=ag p5 (ac _ _)
 have lf:h.length<h5.length:=(List.getElem?_eq_some_iff.mp ef).1
 have e5:=ah (o':=MO.list ((fil sec (an r.ft++ans ab)).map .str)) ef
 have p7:h<+:h5++[MO.list ((fil sec (an r.ft++ans ab)).map .str)]:=aa p6
 have es:=ac h5 (MO.list ((fil sec (an r.ft++ans ab)).map .str))
 have six:=@FC K hK rp A sec r ab a s M Q X h ha hs os hq
 have none_:kss A r=[]++(match dvs r.ft with | true=>[bC] | false=>[])→ax K M (bu.body.drop 6) (fin Q) (fun c m=>X c m.heap) ⟨[some (.ref rp),some r.mv,some (.ref a),some (.ref s),some r.ft.mv,some (.ref h.length),some (.ref h5.length),none,none,none,none],h5++[MO.list ((fil sec (an r.ft++ans ab)).map .str)]⟩:=fun e=>six gt ga ll on hM p7 (Nat.le_refl _) e5 (Nat.zero_le _) (fun _ _=>.nil) e
 have one_:∀w,(w==bC)=false→kss A r=[w]++(match dvs r.ft with | true=>[bC] | false=>[])→ax K M (bu.body.drop 6) (fin Q) (fun c m=>X c m.heap) ⟨[some (.ref rp),some r.mv,some (.ref a),some (.ref s),some r.ft.mv,some (.ref h.length),some (.ref h5.length),none,none,none,none],(h5++[MO.list ((fil sec (an r.ft++ans ab)).map .str)]).set h.length (.list [.tup [.str w,.str (tgt r w),.ref h5.length]])⟩:=fun w hw e=>by
  refine six gt ga ll on hM (aM p7 (Nat.le_refl _)) (Nat.le_refl _) (get_set e5) (Nat.le_of_ble_eq_true rfl) (fun hp' k'=>?_) e
  refine .cons ?_ .nil
  show hp'[h5.length]?=some (.list ((fil sec (match w==bC with | true=>_ | false=>an r.ft++ans ab)).map .str))
  rw [hw]
  exact k' _ _ (Nat.ne_of_gt lf) (ao (Nat.ne_of_lt lf) es)
 have l1:([]:List MV).length<line:=Nat.lt_of_lt_of_le (show 0<1 by decide) (aI (by decide))
 cases r with
 | skip=>exact none_ rfl
 | ite t x y=>exact none_ rfl
 | tell t=>
  refine ay (aA e5) (aY (aW e5) ⟨l1,?_⟩)
  exact one_ iU rfl rfl
 | wh t x=>
  refine ay (aA e5) (aY (aW e5) ⟨l1,?_⟩)
  exact one_ pG rfl rfl
 | set x t=>
  obtain ⟨a1,a2⟩:=hA _ p7
  refine af a1 ?_
  refine al a2 ?_
  refine bB (ox x t rfl) oA ?_
  conv=>whnf
  cases q:A.contains x with
  | false=>exact none_ (by show (match A.contains x with | true=>_ | false=>_)++_=_;first | (rw [q];done) | (rw [q];rfl))
  | true=>
   refine ay (aA e5) (aY (aW e5) ⟨l1,?_⟩)
   exact one_ cW rfl (by show (match A.contains x with | true=>_ | false=>_)++_=_;first | (rw [q];done) | (rw [q];rfl))
end
end Internal
end
section
namespace Internal
noncomputable def ups (k:Int):Nat→List Int
 | 0=>[]
 | n+1=>k::ups (k+1) n
theorem sx (k:Int)(a b:Nat):ups k (a+b)=ups k a++ups (k+a) b:=by
 induction a generalizing k with
 | zero=>rw [Nat.zero_add,Int.natCast_zero,Int.add_zero];rfl
 | succ a ih=>
  rw [Nat.succ_add]
  show k::ups (k+1) (a+b)=k::(ups (k+1) a++_)
  rw [ih,Int.natCast_succ,Int.add_assoc,Int.add_comm 1]
theorem DM {k q:Int}{n j:Nat}(h:(ups k n)[j]?=some q):q=k+j:=by
 induction n generalizing k j with
 | zero=>exact aw h
 | succ n ih=>
  cases j with
  | zero=>exact (Option.some.inj h).symm.trans (Int.add_zero _).symm
  | succ j=>rw [ih (show (ups (k+1) n)[j]?=some q from h),Int.natCast_succ,Int.add_assoc,Int.add_comm 1]
mutual
theorem Az:∀(r:Rw) (k:Int) (ab:List Tm),(r.num k ab).map (·.1)=ups k r.size
 | .set s t,k,ab=>rfl
 | .tell t,k,ab=>rfl
 | .skip,k,ab=>rfl
 | .ite t a b,k,ab=>by
  show k::(nums (k+1) (ab++[t]) a++nums (k+1+av a) (ab++[t]) b).map (·.1)=k::ups (k+1) (av a+av b)
  rw [List.map_append,f6 a,f6 b,sx]
 | .wh t a,k,ab=>congrArg (k::·) (f6 a (k+1) (ab++[t]))
theorem f6:∀(rs:List Rw) (k:Int) (ab:List Tm),(nums k ab rs).map (·.1)=ups k (av rs)
 | [],k,ab=>rfl
 | r::rs,k,ab=>by
  show (r.num k ab++nums (k+r.size) ab rs).map (·.1)=ups k (r.size+av rs)
  rw [List.map_append,Az r,f6 rs,sx]
end
theorem pN (rs:List Rw){k:Int}{ab:List Tm}{j:Nat}{q:Num}(h:(nums k ab rs)[j]?=some q):q.1=k+j:=
 DM (n:=av rs) (by rw [←f6 rs k ab,List.getElem?_map,h];rfl)
variable {K:KT}(hK:aK PP K)
include hK
theorem ye {h:List MO}{rp ra rb ri s N:Nat}{A B sec:List Txt}{rows:List Rw}{us:List MV}{Q:MV→List MO→Prop}{X:XT}(L:eE h rp ra rb ri A B (nums 1 [] rows) us)(F:LF A B rows)(hs:h[s]?=some (.list (sec.map .str)))(hT:∀x∈sec,x∈aS (aN A B rows))(hN:6<N)
  (q0:∀h',h<+:h'→eD (gL A sec) (nums 1 [] rows)=none→Q .none h')
  (q1:∀h' q w i,h<+:h'→eD (gL A sec) (nums 1 [] rows)=some (q,w)→q∈nums 1 [] rows→h'[i]?=some (.list ((fil sec (fwL q.2.1 q.2.2 w)).map .str))→Q (.tup [.int q.1,.str w,.str (tgt q.2.1 w),.ref i]) h'):K N 117 [.ref rp,.ref ri,.ref s] Q X h:=by
 obtain ⟨M,rfl,hM⟩:=room hN
 refine hK _ _ _ _ _ _ iK rfl rfl ?_
 refine aG (jp L.r) ?_
 refine oi (fun w:Option MV × Option MV × Option MV × List MO=>⟨[some (.ref rp),some (.ref ri),some (.ref s),w.1,w.2.1,w.2.2.1],w.2.2.2⟩) (fun j w=>h<+:w.2.2.2∧eD (gL A sec) (nums 1 [] rows)=eD (gL A sec) ((nums 1 [] rows).drop j))
  (fun v m=>Q v m.heap) (none,none,none,h) rfl ⟨ai _,by rw [List.drop_zero]⟩ (fun _ _ hI=>ag hI.1 L.r) (fun j x w0 P hx hI hn hr=>?_) (fun w0 hI=>?_) (fun v m h=>h)
 ·obtain ⟨w3,w4,w5,hp⟩:=w0
  obtain ⟨p1,hI⟩:=hI
  have p1:h<+:hp:=p1
  obtain ⟨y,hy,rfl⟩:=nY hx
  have L1:=L.up p1
  obtain ⟨⟨k,r,ab⟩,a,hj,rfl,ea⟩:=L1.ls.at_ hy
  have hm:=List.mem_of_getElem? hj
  have o:=F.nums _ hm
  have hk:k=1+j:=pN rows hj
  refine ⟨rfl,?_⟩
  refine yd hK (A:=A) (ra:=ra) (rb:=rb) (h:=hp) (fun hp' p=>⟨(L1.up p).p,(L1.up p).a⟩) ea (ag p1 hs) (fun x hx=>F.ok x (hT x hx)) (fun h2 vs i p2 e2 l2=>?_) o.good o.tg o.len (fun n hn=>(List.mem_append.mp hn).elim (fun h=>F.ok n (o.fn n h)) fun h=>F.ok n (o.am n (fu.mp h))) (fun x hx=>(F.gn x (List.mem_append_left _ hx)).1.ok) (fun x t e=>F.ok x (hX hm x t e)) hM
  have p2:hp<+:h2:=p2
  refine .nil _ _ vs rfl rfl (ah e2) (ac _ _) ?_
  conv=>whnf
  rcases l2.ex with ⟨rfl,h0⟩ | ⟨w,i',rest,rfl,h1,h3⟩
  ·exact hn (_,_,_,_) ⟨aa (p1.trans p2),hI.trans (xV hj ((sw _).trans h0))⟩
  ·refine af (ah e2) ?_
   refine az (k:=0) (j:=0) (aL (Int.le_refl 0) (Int.natCast_pos.mpr (Nat.succ_pos _))) rfl ?_
   refine ⟨aI (Nat.le_of_ble_eq_true rfl),?_⟩
   refine hr _ _ ?_
   have:=q1 _ (k,r,ab) w i' (aa (o:=MO.list []) (p1.trans p2)) (hI.trans (sk hj ((sw _).trans h1))) hm (ah h3)
   rw [hk,Int.add_comm] at this
   exact this
 ·obtain ⟨p1,hI⟩:=hI
  rw [pn,L.ls.len,List.drop_length] at hI
  exact q0 _ p1 hI
end Internal
end
section
namespace Internal
theorem pO {a b:Int}{hp:List MO}(h1:0≤a∧a≤16777216)(h2:0≤b∧b≤16777216):cj .range2 [.int a,.int b] hp=some ((List.range (b-a).toNat).map (fun (i:Nat)=>.int (a+i)),none):=by
 show (match decide ((0≤a∧a≤16777216)∧0≤b∧b≤16777216) with
  | true=>some ((List.range (b-a).toNat).map (fun (i:Nat)=>MV.int (a+i)),none)
  | false=>none)=_
 rw [decide_eq_true ⟨h1,h2⟩]
theorem nn {a:Int}{k i:Nat}{x:MV}(e:((List.range k).map (fun (i:Nat)=>MV.int (a+i)))[i]?=some x):i<k∧x=.int (a+i):=by
 rw [List.getElem?_map] at e
 obtain ⟨j,h1,h2⟩:=Option.map_eq_some_iff.mp e
 obtain ⟨h3,h4⟩:=List.getElem?_eq_some_iff.mp h1
 rw [List.length_range] at h3
 rw [List.getElem_range] at h4
 exact ⟨h3,by rw [←h2,h4]⟩
theorem uh {r:Nat}{es:ES}{hp:List MO}(e:hp[r]?=some (.dict es)):cj .keys [.ref r] hp=some (es.map (fun p=>.str p.1),some (r,.dict es)):=by
 show (match hp[r]? with
  | some (.dict es)=>some (es.map (fun (p:List Nat × MV)=>MV.str p.1),some (r,MO.dict es))
  | _=>none)=_
 rw [e]
section
variable {K:KT}
theorem yf {n:Nat}{t:List Nat}{a b:ME}{body r:List MSt}{k1 k2:Int}{Q:Fl→MS→Prop}{X:XM}{m:MS}(ha:∀P:PQ,P (.int k1) m→wpE K n a P X m)(hb:∀P:PQ,P (.int k2) m→wpE K n b P X m)(h1:0≤k1∧k1≤16777216)(h2:0≤k2∧k2≤16777216)
  (h:dY none (fun v P m=>asg t false v (fun m=>ax K n body P X m) m) (fun f m=>match f with
   | .next=>ax K n r Q X m
   | f=>Q f m) ((List.range (k2-k1).toNat).map fun (i:Nat)=>.int (k1+i)) m):ax K n (.for_ t false .range2 [a,b] body::r) Q X m:=by
 refine ha _ ?_
 refine hb _ ?_
 exact aG (pO h1 h2) h
end
section
variable {A B:List Txt}{fl:List Flw}
theorem Rn.isd {x:Txt}:∀{n:Nat},Rn A B fl n x→∃d,d≤n∧Dst A B fl x d:=by
 intro n
 induction n using Nat.strongRecOn with
 | ind n ih=>
  intro h
  by_cases q:∃m,m<n∧Rn A B fl m x
  ·obtain ⟨m,h1,h2⟩:=q
   obtain ⟨d,h3,h4⟩:=ih m h1 h2
   exact ⟨d,Nat.le_trans h3 (Nat.le_of_lt h1),h4⟩
  ·exact ⟨n,Nat.le_refl _,h,fun m hm=>Nat.le_of_not_lt fun lt=>q ⟨m,lt,hm⟩⟩
theorem Dst.back {x:Txt}{d:Nat}(h:Dst A B fl x (d+1)):∃k s,(k,s,x)∈fl∧Dst A B fl s d∧x∉A∧x∉B:=by
 have key:∀n,Rn A B fl n x→n=d+1→∃k s,(k,s,x)∈fl∧Rn A B fl d s∧x∉A∧x∉B:=by
  intro n r e
  cases r with
  | base h=>exact Nat.noConfusion e
  | step hf hs hA hB=>obtain rfl:=Nat.succ.inj e;exact ⟨_,_,hf,hs,hA,hB⟩
 obtain ⟨k,s,hf,hs,hA,hB⟩:=key _ h.at_ rfl
 exact ⟨k,s,hf,⟨hs,fun n hn=>Nat.le_of_succ_le_succ (h.le _ (.step hf hn hA hB))⟩,hA,hB⟩
theorem Dst.way:∀{d:Nat}{x:Txt},Dst A B fl x d→∃l:List Txt,l.length=d∧l.Nodup∧∀y∈l,(∃e,e≤d∧Dst A B fl y e)∧y∈fl.map (·.2.2)
 | 0,_,_=>⟨[],rfl,List.nodup_nil,fun _ h=>aC h⟩
 | d+1,x,h=>by
  obtain ⟨k,s,hf,hs,_,_⟩:=h.back
  obtain ⟨l,h1,h2,h3⟩:=hs.way
  refine ⟨x::l,by rw [List.length_cons,h1],List.nodup_cons.mpr ⟨fun q=>?_,h2⟩,fun y hy=>?_⟩
  ·obtain ⟨⟨e,he,hd⟩,_⟩:=h3 x q
   have:=h.one hd
   exact nf (n2 (Nat.le_of_eq this) he (by simp +arith only))
  ·rcases List.mem_cons.mp hy with rfl | hy
   ·exact ⟨⟨d+1,Nat.le_refl _,h⟩,List.mem_map.mpr ⟨_,hf,rfl⟩⟩
   ·obtain ⟨⟨e,he,hd⟩,h4⟩:=h3 y hy
    exact ⟨⟨e,Nat.le_succ_of_le he,hd⟩,h4⟩
noncomputable def tg1 (q:Num):Txt:=match q.2.1 with
 | .set x _=>x
 | _=>[]
theorem DN {qs:List Num}:∀f∈bq qs,f.2.2∈qs.map tg1:=fun f hf=>by
 obtain ⟨⟨k,r,ab⟩,hq,hf⟩:=List.mem_flatMap.mp hf
 cases r with
 | set x t=>
  obtain ⟨s,_,rfl⟩:=List.mem_map.mp (show f∈(cX (.set x t) ab).map fun s=>(k,s,x) from hf)
  exact List.mem_map.mpr ⟨_,hq,rfl⟩
 | _=>exact aC hf
theorem Dst.few {qs:List Num}{x:Txt}{d:Nat}(h:Dst A B (bq qs) x d):d≤qs.length:=by
 obtain ⟨l,h1,h2,h3⟩:=h.way
 have:=fg l (qs.map tg1) h2 fun y hy=>by
  obtain ⟨f,hf,e⟩:=List.mem_map.mp (h3 y hy).2
  rw [←e];exact DN f hf
 rw [List.length_map,h1] at this;exact this
structure Far (A B:List Txt)(fl:List Flw)(T:List Txt)(es:ES)(s:Nat):Prop where
 nd:(es.map (·.1)).Nodup
 sub:∀x∈es.map (·.1),x∈T
 snd:∀e∈es,∃d:Nat,e.2=.int d∧Dst A B fl e.1 d∧d<s
 all:∀x d,Dst A B fl x d→d<s→x∈es.map (·.1)
theorem Far.iff {T:List Txt}{es:ES}{s:Nat}(F:Far A B fl T es s)(x:Txt):x∈es.map (·.1)↔∃d,d<s∧Dst A B fl x d:=by
 refine ⟨fun h=>?_,fun ⟨d,h1,h2⟩=>F.all x d h2 h1⟩
 obtain ⟨e,he,rfl⟩:=List.mem_map.mp h
 obtain ⟨d,_,h1,h2⟩:=F.snd e he
 exact ⟨d,h2,h1⟩
theorem Far.at_ {T:List Txt}{es:ES}{s:Nat}(F:Far A B fl T es s){x:Txt}{d:Nat}(h:Dst A B fl x d)(hd:d<s):bf es x=some (.int d):=by
 obtain ⟨v,e1,e2⟩:=og (F.all x d h hd)
 obtain ⟨d',h1,h2,_⟩:=F.snd _ e2
 rw [e1,show v=.int d' from h1,h2.one h]
structure jZ (A B:List Txt)(fl:List Flw)(T ks:List Txt)(s:Nat)(gs:List Flw)(es:ES):Prop where
 nd:(es.map (·.1)).Nodup
 sub:∀x∈es.map (·.1),x∈T
 snd:∀e∈es,∃d:Nat,e.2=.int d∧Dst A B fl e.1 d∧d<s+1
 old:∀x∈ks,x∈es.map (·.1)
 new:∀f∈gs,f.2.1∈ks→f.2.2∉A→f.2.2∈es.map (·.1)
theorem jZ.len {T ks:List Txt}{s:Nat}{gs:List Flw}{es:ES}(F:jZ A B fl T ks s gs es):es.length≤T.length:=by
 have:=fg _ T F.nd F.sub
 rw [List.length_map] at this;exact this
theorem jZ.done {T ks:List Txt}{s:Nat}{es:ES}(F:jZ A B fl T ks s fl es)(hk:∀x,x∈ks↔∃d,d<s∧Dst A B fl x d)(hs:0<s):Far A B fl T es (s+1):=by
 refine ⟨F.nd,F.sub,F.snd,fun x d hx hd=>?_⟩
 rcases Nat.lt_or_ge d s with lt | ge
 ·exact F.old x ((hk x).mpr ⟨d,lt,hx⟩)
 ·obtain rfl:d=s:=Nat.le_antisymm (Nat.le_of_lt_succ hd) ge
  cases d with
  | zero=>exact absurd hs (Nat.lt_irrefl _)
  | succ d=>
   obtain ⟨k,n,hf,hn,hA,_⟩:=hx.back
   exact F.new _ hf ((hk n).mpr ⟨d,Nat.lt_succ_self _,hn⟩) hA
theorem jZ.add {T ks:List Txt}{s:Nat}{gs:List Flw}{es:ES}{k:Int}{n x:Txt}(F:jZ A B fl T ks s gs es)(hk:∀x,x∈ks↔∃d,d<s∧Dst A B fl x d)(hs:0<s)(hf:(k,n,x)∈fl)(hn:n∈ks)(hA:x∉A)(hx:x∉es.map (·.1))(hT:x∈T):jZ A B fl T ks s gs (es++[(x,.int s)]):=by
 have no:∀m,Rn A B fl m x→s≤m:=fun m hm=>Nat.le_of_not_lt fun lt=>by
  obtain ⟨d,h1,h2⟩:=hm.isd
  exact hx (F.old x ((hk x).mpr ⟨d,Nat.lt_of_le_of_lt h1 lt,h2⟩))
 have hB:x∉B:=fun h=>absurd (no 0 (.base h)) (Nat.not_le.mpr hs)
 obtain ⟨d,h1,h2⟩:=(hk n).mp hn
 have hr:Rn A B fl (d+1) x:=.step hf h2.at_ hA hB
 have ed:d+1=s:=Nat.le_antisymm h1 (no _ hr)
 refine ⟨?_,fun y hy=>?_,fun e he=>?_,fun y hy=>?_,fun f hf h3 h4=>?_⟩
 ·rw [List.map_append]
  exact List.nodup_append.mpr ⟨F.nd,List.nodup_cons.mpr ⟨List.not_mem_nil,List.nodup_nil⟩,fun a ha b hb e=>hx (by rw [←show b=x from List.mem_singleton.mp hb,←e];exact ha)⟩
 ·rw [List.map_append] at hy
  exact (List.mem_append.mp hy).elim (F.sub y) fun h=>by rw [show y=x from List.mem_singleton.mp h];exact hT
 ·rcases List.mem_append.mp he with he | he
  ·exact F.snd e he
  ·rw [List.mem_singleton.mp he]
   exact ⟨s,rfl,⟨ed▸hr,no⟩,Nat.lt_succ_self _⟩
 ·rw [List.map_append];exact List.mem_append_left _ (F.old y hy)
 ·rw [List.map_append];exact List.mem_append_left _ (F.new f hf h3 h4)
end
noncomputable abbrev DP:List MSt:=[.ite (.and [.cmp .eq (.idx (.var 5) (.cst (.int 0))) (.cst (.str [115,101,116])),.cmp .nin (.idx (.var 5) (.cst (.int 1))) (.idx (.var 0) (.cst (.int 0))),.cmp .nin (.idx (.var 5) (.cst (.int 1))) (.var 2)]) [.ite (.cmp .ne (.comp (.var 9) [9] false .val [.bin .add (.call 37 [.idx (.var 5) (.cst (.int 2))]) (.var 6)] [.cmp .inn (.var 9) (.var 4)]) (.list [])) [.setIdx (.var 2) (.idx (.var 5) (.cst (.int 1))) (.var 3)] []] []]
variable {K:KT}(hK:aK PP K)
include hK
section
variable {h:List MO}{rp ra rb ri:Nat}{A B:List Txt}{rows:List Rw}{us:List MV}(L:eE h rp ra rb ri A B (nums 1 [] rows) us) (F:LF A B rows)
include F
theorem yg {k:Int}{r:Rw}{ab:List Tm}{a f kn s N:Nat}{es:ES}{ks:List Txt}{gs:List Flw}{w5 w6 w7 w8 w9:Option MV}{hp:List MO}{P:Fl→MS→Prop}{X:XM}(L:eE hp rp ra rb ri A B (nums 1 [] rows) us)(hq:(k,r,ab)∈nums 1 [] rows)(ha:hp[a]?=some (.list ((ans ab).map .str)))(hf:hp[f]?=some (.dict es))(hk:hp[kn]?=some (.list (ks.map .str)))(hks:∀x∈ks,okS x)
  (I:jZ A B (bq (nums 1 [] rows)) (aS (aN A B rows)) ks s gs es) (hki:∀x,x∈ks↔∃d,d<s∧Dst A B (bq (nums 1 [] rows)) x d) (hs:0<s) (hN:4<N)
  (q:∀hp' w9 es',(∀j o,j≠f→hp[j]?=some o→hp'[j]?=some o)→(∀h0,h0<+:hp→h0.length≤f→h0<+:hp')→hp'[f]?=some (.dict es')→jZ A B (bq (nums 1 [] rows)) (aS (aN A B rows)) ks s (gs++qfl (k,r,ab)) es'→P .next ⟨[some (.ref rp),some (.ref ri),some (.ref f),some (.int s),some (.ref kn),some r.mv,some (.ref a),w7,w8,w9],hp'⟩) :
  asg [5,6] true (.tup [r.mv,.ref a]) (fun m=>ax K N DP P X m) ⟨[some (.ref rp),some (.ref ri),some (.ref f),some (.int s),some (.ref kn),w5,w6,w7,w8,w9],hp⟩:=by
 have o:=F.nums _ hq
 have fT:=F.few
 have same_:∀{hp'} w9,hp<+:hp'→(∀f∈qfl (k,r,ab),f.2.1∈ks→f.2.2∉A→f.2.2∈es.map (·.1))→P .next ⟨[some (.ref rp),some (.ref ri),some (.ref f),some (.int s),some (.ref kn),some r.mv,some (.ref a),w7,w8,w9],hp'⟩:=fun w9 p hn=>q _ w9 es (fun _ _ _ e=>ag p e) (fun h0 q _=>q.trans p) (ag p hf) ⟨I.nd,I.sub,I.snd,I.old,fun f hf=>(List.mem_append.mp hf).elim (I.new f) (hn f)⟩
 refine ⟨rfl,?_⟩
 cases r with
 | tell t=>exact same_ w9 (ai _) fun _ h=>aC h
 | skip=>exact same_ w9 (ai _) fun _ h=>aC h
 | ite t a b=>exact same_ w9 (ai _) fun _ h=>aC h
 | wh t a=>exact same_ w9 (ai _) fun _ h=>aC h
 | set x t=>
  have gt:t.good:=o.good.2
  have xT:x∈aS (aN A B rows):=hX hq x t rfl
  have two:∀{f},f∈qfl (k,.set x t,ab)→f.2.2=x∧f.2.1∈an t++ans ab:=fun {f} hf=>by
   obtain ⟨n,hn,rfl⟩:=List.mem_map.mp (show f∈(cX (.set x t) ab).map fun s=>(k,s,x) from hf)
   exact ⟨rfl,kj.mp hn⟩
  refine af L.p ?_
  refine al L.a ?_
  refine bB (F.ok x xT) (fun y hy=>(F.gn y (List.mem_append_left _ hy)).1.ok) ?_
  conv=>whnf
  cases q1:A.contains x with
  | true=>exact same_ w9 (ai _) fun f hf _ hA=>by rw [(two hf).1] at hA;exact absurd (List.contains_iff_mem.mp q1) hA
  | false=>
  refine je hf ?_
  conv=>whnf
  cases q2:(bf es x).isSome with
  | true=>exact same_ w9 (ai _) fun f hf _ _=>by rw [(two hf).1];exact pF.mp q2
  | false=>
   have hnew:x∉es.map (·.1):=fun h=>by rw [pF.mpr h] at q2;exact tf q2
   have on:∀n∈an t++ans ab,okS n:=fun n hn=>(List.mem_append.mp hn).elim (fun h=>F.ok n (o.fn n h)) fun h=>F.ok n (o.am n (fu.mp h))
   show ax K N [.ite (.cmp .ne (.comp (.var 9) [9] false .val [.bin .add (.call 37 [.idx (.var 5) (.cst (.int 2))]) (.var 6)] [.cmp .inn (.var 9) (.var 4)]) (.list [])) [.setIdx (.var 2) (.idx (.var 5) (.cst (.int 1))) (.var 3)] []] _ X ⟨[some (.ref rp),some (.ref ri),some (.ref f),some (.int s),some (.ref kn),some (Rw.mv (.set x t)),some (.ref a),w7,w8,w9],hp⟩
   refine E1 ?_
   refine su (l:=an t++ans ab) (fun P' hP'=>?_) on hk hks (Nat.le_of_ble_eq_true rfl) (fun _=>rfl) (by decide) fun h5 p5=>?_
   ·exact ki hK (t:=t) (ab:=ab) (fun P' h=>h) (fun _=>rfl) ha gt o.tg o.len (Nat.lt_of_succ_lt hN) hP'
   refine qY (ah (ac _ _)) (ac _ _) ?_
   conv=>whnf
   rw [om]
   cases q3:(an t++ans ab).any ks.contains with
   | false=>
    refine same_ _ (aa (aa p5)) fun f hf hn _=>?_
    rw [List.any_eq_true.mpr ⟨_,(two hf).2,List.contains_iff_mem.mpr hn⟩] at q3;exact tf q3
   | true=>
    obtain ⟨n,h1,h2⟩:=List.any_eq_true.mp q3
    have h2:=List.contains_iff_mem.mp h2
    have e6:=ah (o':=MO.list []) (ah (o':=MO.list ((fil ks (an t++ans ab)).map .str)) (ag p5 hf))
    refine dc e6 ?_
    have:=I.len
    refine ⟨Nat.lt_of_le_of_lt this (Nat.lt_of_lt_of_le fT (aI (nb rfl))),?_⟩
    have J:jZ A B (bq (nums 1 [] rows)) (aS (aN A B rows)) ks s gs (es++[(x,.int s)]):=I.add hki hs (List.mem_flatMap.mpr ⟨_,hq,sv.mpr h1⟩) h2 (pK q1) hnew xT
    refine q _ _ (ch es x (.int s)) (fun j o' hj e=>ao (Ne.symm hj) (ah (ah (ag p5 e)))) (fun h0 p0 l0=>aM (aa (aa (p0.trans p5))) l0) (get_set e6) ?_
    rw [l8 hnew]
    refine ⟨J.nd,J.sub,J.snd,J.old,fun f hf=>(List.mem_append.mp hf).elim (J.new f) fun hf _ _=>?_⟩
    rw [(two hf).1,List.map_append]
    exact List.mem_append_right _ (List.mem_singleton.mpr rfl)
include L
theorem E3 {N:Nat}{Q:MV→List MO→Prop}{X:XT}(hN:5<N)(hq:∀h' r es,h<+:h'→h'[r]?=some (.dict es)→(∀x d,Dst A B (bq (nums 1 [] rows)) x d→bf es x=some (.int d))→Q (.ref r) h'):K N 118 [.ref rp,.ref ri] Q X h:=by
 obtain ⟨M,rfl,hM⟩:=room hN
 have fT:=F.few
 have ln:us.length=av rows:=L.ls.len.trans (bw rows 1 [])
 have sz:=F.sz
 have nB:B.Nodup:=(List.nodup_append.mp F.nd).2.1
 have lB:B.length≤100:=Nat.le_trans (Nat.le_add_left _ _) F.len
 have kB:(B.map fun x=>(x,MV.int 0)).map (·.1)=B:=by rw [List.map_map];exact List.map_id _
 have F1:Far A B (bq (nums 1 [] rows)) (aS (aN A B rows)) (B.map fun x=>(x,.int 0)) 1:=by
  refine ⟨by rw [kB];exact nB,fun x hx=>aE.mpr (List.mem_append_left _ (List.mem_append_right _ (kB▸hx))),fun e he=>?_,fun x d hx hd=>?_⟩
  ·obtain ⟨x,hx,rfl⟩:=List.mem_map.mp he
   exact ⟨0,rfl,⟨.base hx,fun _ _=>Nat.zero_le _⟩,Nat.zero_lt_one⟩
  ·obtain rfl:d=0:=Nat.lt_one_iff.mp hd
   rw [kB]
   cases hx.at_ with
   | base h=>exact h
 refine hK _ _ _ _ _ _ fb rfl rfl ?_
 show ax K M (.asg [2] false (.blt .dict [.comp (.tup [.var 7,.cst (.int 0)]) [7] false .val [.idx (.var 0) (.cst (.int 1))] []])::fb.body.drop 1) (fin Q) (fun c m=>X c m.heap) ⟨[some (.ref rp),some (.ref ri),none,none,none,none,none,none,none,none],h⟩
 refine jS ?_
 refine af L.p ?_
 refine aG (aF L.b) ?_
 refine gE (fun w=>⟨[some (.ref rp),some (.ref ri),none,none,none,none,none,w,none,none],h⟩) (fun j=>((B.take j).map fun x=>MV.tup [.str x,.int 0])) _ rfl rfl (fun _=>L.b) (fun j y w P hy n1 _=>?_) (fun w=>?_)
 ·obtain ⟨x,hx,rfl⟩:=Option.map_eq_some_iff.mp (List.getElem?_map ..▸hy)
  exact n1 _ _ (by rw [ap hx,List.map_append];rfl)
 rw [List.length_map,List.take_length]
 refine al (ac _ _) ?_
 refine .mk rfl (B.map fun x=>(x,.int 0)) (by rw [List.map_map];rfl) F1.nd (by rw [List.length_map];exact n1 lB (by simp +arith only)) ?_
 have p0:h<+:h++[MO.list (B.map fun x=>MV.tup [.str x,.int 0])]:=aa (ai _)
 generalize h++[MO.list (B.map fun x=>MV.tup [.str x,.int 0])]=h1 at p0
 have ef:(h1++[MO.dict (B.map fun x=>(x,MV.int 0))])[h1.length]?=some (.dict (B.map fun x=>(x,.int 0))):=ac _ _
 show ax K M (fb.body.drop 1) (fin Q) (fun c m=>X c m.heap) ⟨[some (.ref rp),some (.ref ri),some (.ref h1.length),none,none,none,none,none,none,none],h1++[MO.dict (B.map fun x=>(x,MV.int 0))]⟩
 refine yf (k1:=1) (k2:=(us.length:Int)+2) (fun P h=>h) (fun P h=>?_) ⟨by decide,by decide⟩ ⟨Int.natCast_nonneg _,by lia⟩ ?_
 ·exact al (ag (aa p0) L.r) h
 refine gw (fun j w3 w4 w5 w6 (w9:Option MV × Option MV) (z:ES × List MO)=>⟨[some (.ref rp),some (.ref ri),some (.ref h1.length),w3,w4,w5,w6,none,w9.1,w9.2],z.2⟩)
  (fun j w3 w4 w5 w6 w9 z=>A3 (h1<+:z.2) (z.2[h1.length]?=some (.dict z.1)) (Far A B (bq (nums 1 [] rows)) (aS (aN A B rows)) z.1 (j+1))) none none none none (none,none) (_,_) rfl ⟨aa (ai _),ef,F1⟩ (fun _ _ _ _ _ _ _ _=>trivial) (fun j y w3 w4 w5 w6 w9 z P hy hI hn _=>?_) (fun w3 w4 w5 w6 w9 z hI=>?_)
 ·obtain ⟨es,hp⟩:=z
  obtain ⟨p2,e2,F2⟩:=hI
  have p2:h1<+:hp:=p2
  have e2:hp[h1.length]?=some (.dict es):=e2
  obtain ⟨hj,rfl⟩:=nn hy
  have hki:=F2.iff
  have hs:0<j+1:=Nat.succ_pos _
  have L2:=L.up (p0.trans p2)
  have ej:(1:Int)+(j:Nat)=((j+1:Nat):Int):=by lia
  rw [ej]
  show ax K M (.asg [4] false (.comp (.var 8) [8] false .keys [.var 2] [.cmp .lt (.idx (.var 2) (.var 8)) (.var 3)])::[.for_ [5,6] true .val [.var 1] DP]) P (fun c m=>X c m.heap) ⟨[some (.ref rp),some (.ref ri),some (.ref h1.length),some (.int ((j+1:Nat):Int)),w4,w5,w6,none,w9.1,w9.2],hp⟩
  generalize j+1=s at *
  refine jS ?_
  refine aG (uh e2) ?_
  refine gE (fun w=>⟨[some (.ref rp),some (.ref ri),some (.ref h1.length),some (.int (s:Int)),w4,w5,w6,none,w,w9.2],hp⟩) (fun j=>(es.take j).map fun p=>MV.str p.1) _ rfl rfl (fun _=>e2) (fun i y w P hy n1 _=>?_) (fun w=>?_)
  ·obtain ⟨⟨x,v⟩,hx,rfl⟩:=Option.map_eq_some_iff.mp (List.getElem?_map ..▸hy)
   obtain ⟨d,hv,hd,hlt⟩:=F2.snd _ (List.mem_of_getElem? hx)
   refine dc e2 (cJ (F2.at_ hd hlt) ?_)
   conv=>whnf
   rw [decide_eq_true (show (d:Int)<s from Int.ofNat_lt.mpr hlt)]
   exact n1 _ _ (by rw [ap hx,List.map_append];rfl)
  rw [List.length_map,List.take_length]
  have ek:(hp++[MO.list (es.map fun p=>MV.str p.1)])[hp.length]?=some (.list ((es.map (·.1)).map .str)):=by rw [ac,List.map_map];rfl
  generalize hkn:hp.length=kn at ek
  have lk:h1.length≠kn:=by rw [←hkn];exact Nat.ne_of_lt (List.getElem?_eq_some_iff.mp e2).1
  have p3:h1<+:hp++[MO.list (es.map fun p=>MV.str p.1)]:=aa p2
  have e3:=ah (o':=MO.list (es.map fun p=>MV.str p.1)) e2
  show ax K M [.for_ [5,6] true .val [.var 1] DP] P (fun c m=>X c m.heap) ⟨[some (.ref rp),some (.ref ri),some (.ref h1.length),some (.int (s:Int)),some (.ref kn),w5,w6,none,w9.1,w9.2],hp++[MO.list (es.map fun p=>MV.str p.1)]⟩
  generalize hp++[MO.list (es.map fun p=>MV.str p.1)]=hp2 at *
  have I0:jZ A B (bq (nums 1 [] rows)) (aS (aN A B rows)) (es.map (·.1)) s [] es:=⟨F2.nd,F2.sub,fun e he=>by obtain ⟨d,h1,h2,h3⟩:=F2.snd e he;exact ⟨d,h1,h2,Nat.lt_succ_of_lt h3⟩,fun x hx=>hx,fun _ h=>aC h⟩
  have oks:∀x∈es.map (·.1),okS x:=fun x hx=>F.ok x (F2.sub x hx)
  generalize es.map (·.1)=ks at *
  clear hkn e2 F2 p2 L2
  refine aG (aF (L.up (p0.trans p3)).r) ?_
  refine nX (fun i w5 w6 (w9':Option MV) es hp=>⟨[some (.ref rp),some (.ref ri),some (.ref h1.length),some (.int (s:Int)),some (.ref kn),w5,w6,none,w9.1,w9'],hp⟩)
   (fun i w5 w6 w9' es hp=>A4 (h1<+:hp) (hp[h1.length]?=some (.dict es)) (hp[kn]?=some (.list (ks.map .str))) (jZ A B (bq (nums 1 [] rows)) (aS (aN A B rows)) ks s (bq ((nums 1 [] rows).take i)) es)) w5 w6 w9.2 es hp2 rfl ⟨p3,e3,ek,I0⟩ (fun _ _ _ _ _ _ hI=>(L.up (p0.trans hI.h1)).r) (fun i y w5 w6 w9' es hp P hy hI hn2 _=>?_) (fun w5 w6 w9' es hp hI=>?_)
  ·obtain ⟨p4,e4,k4,I4⟩:=hI
   have L4:=L.up (p0.trans p4)
   obtain ⟨⟨k',r,ab⟩,a,hj',rfl,ea⟩:=L4.ls.at_ hy
   refine yg hK F L4 (List.mem_of_getElem? hj') ea e4 k4 oks I4 hki hs (n1 hM (by simp +arith only)) fun hp' w9' es' k5 p5 e5 I5=>?_
   refine hn2 _ _ w9' es' hp' ⟨p5 _ p4 (Nat.le_refl _),e5,k5 _ _ (Ne.symm lk) k4,?_⟩
   rw [ap hj',i8,show bq [(k',r,ab)]=qfl (k',r,ab) from List.append_nil _];exact I5
  ·obtain ⟨p4,e4,k4,I4⟩:=hI
   rw [(L.up (p0.trans p4)).ls.len,List.take_length] at I4
   exact hn _ _ _ _ (w9.1,w9') (es,hp) ⟨p4,e4,I4.done hki hs⟩
 ·obtain ⟨es,hp⟩:=z
  obtain ⟨p2,e2,F2⟩:=hI
  rw [List.length_map,List.length_range] at F2
  refine hq hp _ es (p0.trans p2) e2 fun x d hx=>F2.at_ hx ?_
  have:=hx.few
  rw [bw,←ln] at this
  rw [show ((us.length:Int)+2-1).toNat=us.length+1 from congrArg Int.toNat (Int.add_sub_assoc _ 2 1)]
  exact Nat.lt_succ_of_lt (Nat.lt_succ_of_le this)
end
end Internal
end
section
namespace Internal
variable {N:Nat}{Q:MV→List MO→Prop}{X:XT}{h:List MO}
theorem mf {α:Type}(xs:List α)(x:α):dG (-1) (xs++[x]).length=some xs.length:=by
 unfold dG
 rw [decide_eq_false (show ¬ (0:Int)≤-1 by decide),decide_eq_true (show -((xs++[x]).length:Int)≤-1 by rw [List.length_append,List.length_singleton];lia)]
 show some _=_
 rw [List.length_append,List.length_singleton];congr 1;lia
theorem q8 {α:Type}(xs:List α)(x y:α):dG (-2) (xs++[x]++[y]).length=some xs.length:=by
 unfold dG
 rw [decide_eq_false (show ¬ (0:Int)≤-2 by decide),decide_eq_true (show -((xs++[x]++[y]).length:Int)≤-2 by rw [List.length_append,List.length_append,List.length_singleton,List.length_singleton];lia)]
 show some _=_
 rw [List.length_append,List.length_append,List.length_singleton,List.length_singleton];congr 1;lia
noncomputable def DQ:Option MV→Int
 | some (.int v)=>v
 | _=>0
theorem km {α:Type}{a:List α}{x y:α}{i:Nat}(e:a[i]?=some x):(a++[y])[i]?=some x:=ah e
section
variable {A B:List Txt}{fl:List Flw}
theorem Pth.head {l:ud}{x:Txt}(h:Pth A B fl l x):∃b l',b∈B∧l=(0,b)::l':=by
 induction h with
 | base h=>exact ⟨_,[],h,rfl⟩
 | step _ _ _ _ ih=>obtain ⟨b,l',hb,rfl⟩:=ih;exact ⟨b,_,hb,rfl⟩
theorem Pth.last {l:ud}{x:Txt}(h:Pth A B fl l x):∃l' k,l=l'++[(k,x)]:=by
 cases h with
 | base h=>exact ⟨[],0,rfl⟩
 | step=>exact ⟨_,_,rfl⟩
theorem Pth.at_ {l:ud}{x:Txt}(h:Pth A B fl l x):∀i,i+1<l.length→∃k0 s k y,l[i]?=some (k0,s)∧l[i+1]?=some (k,y)∧(k,s,y)∈fl∧y∉A∧y∉B:=by
 induction h with
 | base h=>intro i hi;exact absurd hi (Nat.not_lt.mpr (Nat.succ_le_succ (Nat.zero_le _)))
 | @step l s k x hl hf hA hB ih=>
  intro i hi
  rw [List.length_append,List.length_singleton] at hi
  rcases Nat.lt_or_ge (i+1) l.length with lt | ge
  ·obtain ⟨k0,s',k',y,h1,h2,h3⟩:=ih i lt
   exact ⟨k0,s',k',y,km h1,km h2,h3⟩
  ·obtain ⟨l',k',rfl⟩:=hl.last
   rw [List.length_append,List.length_singleton] at hi ge
   obtain rfl:i=l'.length:=by lia
   refine ⟨k',s,k,x,km (ac _ _),?_,hf,hA,hB⟩
   rw [show l'.length+1=(l'++[(k',s)]).length by rw [List.length_append];rfl];exact ac _ _
theorem AA {rows:List Rw}{k:Int}{s x:Txt}(h:(k,s,x)∈bq (nums 1 [] rows)):∃(z:Nat) (t:Tm) (ab:List Tm),(nums 1 [] rows)[z]?=some (k,.set x t,ab)∧k=1+z∧s∈an t++ans ab:=by
 obtain ⟨⟨k',r,ab⟩,hq,hf⟩:=List.mem_flatMap.mp h
 cases r with
 | set y t=>
  obtain ⟨n,hn,e⟩:=List.mem_map.mp (show (k,s,x)∈(cX (.set y t) ab).map fun s=>(k',s,y) from hf)
  cases e
  obtain ⟨z,hz1,hz2⟩:=List.getElem_of_mem hq
  have hz:(nums 1 [] rows)[z]?=some (k,.set x t,ab):=by rw [List.getElem?_eq_getElem hz1,hz2]
  exact ⟨z,t,ab,hz,pN rows hz,kj.mp hn⟩
 | _=>exact aC hf
end
variable {K:KT}(hK:aK PP K)
include hK
theorem yh {k:Int}(hN:0<N)(hq:Q (.bool true) h):K N 19 [.int k] Q X h:=by
 obtain ⟨M,rfl,hM⟩:=room hN
 refine hK _ _ _ _ _ _ iI rfl rfl ?_
 exact hq
section
variable {h:List MO}{rp ra rb ri:Nat}{A B:List Txt}{rows:List Rw}{us:List MV}(L:eE h rp ra rb ri A B (nums 1 [] rows) us) (F:LF A B rows)
include L F
theorem AB {k0 k:Int}{s x:Txt}(hf:(k,s,x)∈bq (nums 1 [] rows))(hA:x∉A)(hB:x∉B)(hN:5<N)(hq:∀h',h<+:h'→Q (.bool true) h'):K N 119 [.ref rp,.ref ri,pM (k0,s),pM (k,x)] Q X h:=by
 obtain ⟨M,rfl,hM⟩:=room hN
 obtain ⟨z,t,ab,hz,hk,hs⟩:=AA hf
 have hm:=List.mem_of_getElem? hz
 have o:=F.nums _ hm
 obtain ⟨a,e1,e2⟩:=L.ls.get hz
 have lz:z<us.length:=(List.getElem?_eq_some_iff.mp e1).1
 have xT:okS x:=F.ok x (hX hm x t rfl)
 have on:∀n∈an t++ans ab,okS n:=fun n hn=>(List.mem_append.mp hn).elim (fun h=>F.ok n (o.fn n h)) fun h=>F.ok n (o.am n (fu.mp h))
 refine hK _ _ _ _ _ _ jM rfl rfl ?_
 refine x2 (fun P hP=>?_) ?_
 ·refine yh hK (n1 hN (by simp +arith only)) ?_
  conv=>whnf
  rw [decide_eq_true (show (1:Int)≤k by rw [hk];exact Int.le_add_of_nonneg_right (Int.natCast_nonneg z))]
  refine al L.r ?_
  conv=>whnf
  rw [decide_eq_true (show k≤(us.length:Int) by rw [hk,Int.add_comm];exact Int.ofNat_le.mpr lz)]
  exact hP
 refine af L.r ?_
 refine az (k:=k-1) (j:=z) (n4 (hk▸oz z) lz) e1 ?_
 refine ⟨rfl,?_⟩
 conv=>whnf
 rw [show (x==x)=true from beq_self_eq_true _]
 refine af L.p (af L.p ?_)
 refine af L.a (af L.b ?_)
 refine ⟨bU (Nat.le_trans F.len (nb rfl)),?_⟩
 refine al (xs:=(A++B).map .str) (by rw [List.map_append];exact ac _ _) ?_
 refine Fx xT (fun y hy=>(F.gn y hy).1.ok) (fun q=>(List.mem_append.mp q).elim hA hB) ?_
 have p1:h<+:h++[MO.list (A.map .str++B.map .str)]:=aa (ai _)
 show wpE K M (.bin .add (.call 37 [.idx (.var 4) (.cst (.int 2))]) (.var 5)) _ _ ⟨[some (.ref rp),some (.ref ri),some (pM (k0,s)),some (pM (k,x)),some (Rw.mv (.set x t)),some (.ref a)],h++[MO.list (A.map .str++B.map .str)]⟩
 refine ki hK (t:=t) (ab:=ab) (fun P' h=>h) (fun _=>rfl) (ag p1 e2) o.good.2 o.tg o.len (Nat.lt_of_succ_lt hM) fun h5 i p5 e5=>?_
 refine al e5 ?_
 refine Dq (on s hs) on hs ?_
 exact hq _ (p1.trans p5)
theorem ui {q:Num}{w:Txt}{sec:List Txt}{i j N:Nat}(hqm:q∈nums 1 [] rows)(hsec:∀x,x∈sec↔Rch A B (bq (nums 1 [] rows)) x)(hsT:∀x∈sec,x∈aS (aN A B rows))(C:Chn A B (bq (nums 1 [] rows)) h q w j)(hr:q.2.1≠.skip)(hi:h[i]?=some (.list ((fil sec (fwL q.2.1 q.2.2 w)).map .str)))(hl:(fil sec (fwL q.2.1 q.2.2 w)).length<1000)(ht:okS (tgt q.2.1 w))(hN:6<N)(hq:∀h',h<+:h'→Q (.bool true) h'):K N 120 [.ref rp,.ref ri,.ref j,.tup [.int q.1,.str w,.str (tgt q.2.1 w),.ref i]] Q X h:=by
 obtain ⟨M,rfl,hM⟩:=room hN
 obtain ⟨n,l,d,hn,hp,ld,hd,fd,low,ej⟩:=C.ex
 have lc:((l++[(q.1,tgt q.2.1 w)]).map pM).length=d+2:=by rw [List.length_map,List.length_append,ld];rfl
 have at_:∀{k:Nat} {p:Int × Txt},l[k]?=some p→((l++[(q.1,tgt q.2.1 w)]).map pM)[k]?=some (pM p):=fun e=>by rw [List.getElem?_map,km e];rfl
 obtain ⟨b,l',hb,hl0⟩:=hp.head
 obtain ⟨l2,kl,hl2⟩:=hp.last
 have e0:=at_ (k:=0) (p:=(0,b)) (by rw [hl0];rfl)
 have nf:n∈fil sec (fwL q.2.1 q.2.2 w):=fq.mpr ⟨(qZ hr w n).mp hn,(hsec n).mpr hd.rch⟩
 have of:∀x∈fil sec (fwL q.2.1 q.2.2 w),okS x:=fun x hx=>F.ok x (hsT x (fq.mp hx).2)
 have i0:dG 0 ((l++[(q.1,tgt q.2.1 w)]).map pM).length=some 0:=by rw [lc];exact aL (Int.le_refl 0) (jT (by lia))
 have i1:dG (-1) ((l++[(q.1,tgt q.2.1 w)]).map pM).length=some l.length:=by rw [List.length_map];exact mf _ _
 have i2:dG (-2) ((l++[(q.1,tgt q.2.1 w)]).map pM).length=some l2.length:=by rw [List.length_map,hl2];exact q8 _ _ _
 have e1:((l++[(q.1,tgt q.2.1 w)]).map pM)[l.length]?=some (pM (q.1,tgt q.2.1 w)):=by rw [List.getElem?_map,ac];rfl
 have e2:((l++[(q.1,tgt q.2.1 w)]).map pM)[l2.length]?=some (pM (kl,n)):=at_ (by rw [hl2];exact ac _ _)
 have hpath:=hp.at_
 rw [ld] at hpath
 generalize (l++[(q.1,tgt q.2.1 w)]).map pM=cs at *
 refine hK _ _ _ _ _ _ dB rfl rfl ?_
 refine x2 (fun P hP=>?_) (x2 (fun P hP=>?_) ?_)
 ·show onO (jU h (.ref j) .list) _
  refine cJ (a:=true) (by show kdT (kdO h[j]?) .list=_;rw [ej];rfl) ?_
  refine al ej ?_
  conv=>whnf
  rw [decide_eq_false (show ¬ (cs.length:Int)<2 by lia)]
  refine af ej (az i0 e0 ?_)
  exact af ej (az i0 e0 hP)
 ·refine af ej (az i0 e0 ?_)
  refine af ej (az i0 e0 ?_)
  refine af L.p ?_
  refine al L.b ?_
  refine Dq (F.gn b (List.mem_append_right _ hb)).1.ok (fun s hs=>(F.gn s (List.mem_append_right _ hs)).1.ok) hb ?_
  refine af ej (az i1 e1 ?_)
  exact Al (.tup [.int q.1,.str (tgt q.2.1 w)]) (.tup (.cons (.int _) (.cons (.str _) .nil))) (.tup (.cons (.int _) (.cons (.str _) .nil))) (nb rfl) (by show (true&&((D.str (tgt q.2.1 w)).ok&&true))=true;rw [ht.d];rfl) hP
 show ax K M (dB.body.drop 2) (fin Q) (fun c m=>X c m.heap) ⟨[some (.ref rp),some (.ref ri),some (.ref j),some (.tup [.int q.1,.str w,.str (tgt q.2.1 w),.ref i]),none,none,none],h⟩
 refine yf (k1:=1) (k2:=(cs.length:Int)-1) (fun P h=>h) (fun P h=>al ej h) ⟨by decide,by decide⟩ ⟨by lia,by lia⟩ ?_
 refine iM (fun _ w4 hp=>⟨[some (.ref rp),some (.ref ri),some (.ref j),some (.tup [.int q.1,.str w,.str (tgt q.2.1 w),.ref i]),w4,none,none],hp⟩) (fun _ w4 hp=>h<+:hp) none h rfl (ai _) (fun _ _ _ _=>trivial) (fun z x w4 hp P hx hI hn' _=>?_) (fun w4 hp hI=>?_)
 ·obtain ⟨hz,rfl⟩:=nn hx
  have hz:z<d:=by lia
  obtain ⟨k0,s,k,y,h1,h2,h3,h4,h5⟩:=hpath z (Nat.succ_lt_succ hz)
  refine af (ag hI ej) (az (k:=1+(z:Int)-1) (j:=z) (n4 (oz z) (lc▸Nat.lt_of_lt_of_le hz (Nat.le_add_right d 2))) (at_ h1) ?_)
  refine af (ag hI ej) (az (k:=1+(z:Int)) (j:=z+1) (n4 (Int.add_comm 1 z) (lc▸Nat.succ_lt_succ (Nat.lt_succ_of_lt hz))) (at_ h2) ?_)
  refine AB hK (L.up hI) F h3 h4 h5 hM fun h' p'=>?_
  exact hn' _ _ (List.IsPrefix.trans hI p')
 ·refine E3 hK (L.up hI) F hM fun h6 r6 es p6 d6 far=>?_
  have p6:h<+:h6:=List.IsPrefix.trans hI p6
  refine af (ag p6 ej) (az i2 e2 ?_)
  refine al (ag p6 hi) ?_
  refine Dq (of n nf) of nf ?_
  refine al (ag p6 ej) ?_
  refine aG (aF (ag p6 hi)) ?_
  refine gE (fun w6=>⟨[some (.ref rp),some (.ref ri),some (.ref j),some (.tup [.int q.1,.str w,.str (tgt q.2.1 w),.ref i]),w4,some (.ref r6),w6],h6⟩) (fun z=>(((fil sec (fwL q.2.1 q.2.2 w)).take z).map fun m=>MV.int (DQ (bf es m)))) _ rfl rfl (fun _=>ag p6 hi) (fun z x w6 P hx n1 _=>?_) (fun w6=>?_)
  ·obtain ⟨m,hm,rfl⟩:=Option.map_eq_some_iff.mp (List.getElem?_map ..▸hx)
   obtain ⟨c,hc⟩:=((hsec m).mp (fq.mp (List.mem_of_getElem? hm)).2).rn
   obtain ⟨dm,_,hdm⟩:=hc.isd
   refine dc d6 (cJ (far m dm hdm) ?_)
   refine n1 _ _ ?_
   rw [ap hm,List.map_append]
   show _++[MV.int (DQ (bf es m))]=_
   rw [far m dm hdm];rfl
  ·rw [List.length_map,List.take_length]
   refine af (ac _ _) ?_
   refine .mk rfl ((fil sec (fwL q.2.1 q.2.2 w)).map fun m=>DQ (bf es m)) (by rw [List.map_map];rfl) (fun e=>?_) (by rw [List.length_map];exact Nat.lt_trans hl (by decide)) (d:Int) ?_ (fun z hz=>?_) ?_
   ·rw [List.map_eq_nil_iff] at e;rw [e] at nf;exact aC nf
   ·exact List.mem_map.mpr ⟨n,nf,by rw [far n d hd];rfl⟩
   ·obtain ⟨m,hm,rfl⟩:=List.mem_map.mp hz
    obtain ⟨c,hc⟩:=((hsec m).mp (fq.mp hm).2).rn
    obtain ⟨dm,_,hdm⟩:=hc.isd
    rw [far m dm hdm]
    exact Int.ofNat_le.mpr (low m ((qZ hr w m).mpr (fq.mp hm).1) dm hdm)
   ·conv=>whnf
    rw [show ((cs.length:Int)==2+(d:Int))=true from by rw [lc];exact beq_iff_eq.mpr (by lia)]
    exact hq _ (aa p6)
end
theorem yi {rp ri N:Nat}(hN:0<N)(hq:Q (.bool true) h):K N 121 [.ref rp,.ref ri,.none,.none] Q X h:=by
 obtain ⟨M,rfl,hM⟩:=room hN
 refine hK _ _ _ _ _ _ fc rfl rfl ?_
 exact hq
theorem yj {rp ri j N:Nat}{k:MV}{w:Txt}{x y:MV}(hN:0<N)(hq:K (N-1) 120 [.ref rp,.ref ri,.ref j,.tup [k,.str w,x,y]] Q X h):K N 121 [.ref rp,.ref ri,.tup [.str w,.ref j],.tup [k,.str w,x,y]] Q X h:=by
 obtain ⟨M,rfl,hM⟩:=room hN
 refine hK _ _ _ _ _ _ fc rfl rfl ?_
 conv=>whnf
 rw [show (w==w)=true from beq_self_eq_true _]
 exact hq
end Internal
end
section
namespace Internal
noncomputable def zN (k:Int):Txt:=122::122::dec k
noncomputable def zNs:List Txt:=(List.range 60).map fun (k:Nat)=>zN k
theorem E4:∀s∈zNs,Gn s:=by unfold Gn Nm;decide +kernel
theorem DR {k:Int}(h0:0≤k)(h1:k<60):zN k∈zNs:=List.mem_map.mpr ⟨k.toNat,List.mem_range.mpr ((Int.toNat_lt h0).mpr h1),by rw [Int.toNat_of_nonneg h0]⟩
theorem pP {k:Int}(h:-1≤k∧k<60):2+(dec k).length≤line:=by
 have:(dec k).length≤6:=by
  rcases Int.lt_or_le k 0 with q | q
  ·obtain rfl:k=-1:=by lia
   decide
  ·exact (nD ⟨q,z1 h.2 (by simp +arith only)⟩).2
 unfold line;lia
noncomputable def Flt (p:Txt→Prop)(r:Rw):Prop:=r.gp p∧r.subs=[]
variable {K:KT}(hK:aK PP K)
theorem AC {n:Nat}{elt:ME}{t:List Nat}{src:ME}{ifs:List ME}{k:Int}{P:PQ}{X:XM}{m:MS}(hs:∀P:PQ,P (.int k) m→wpE K n src P X m)(h1:-16777216≤k)(h2:k≤16777216)(h:co none (fun v P m=>asg t false v (fun m=>kr K n ifs (fun b m=>match b with
  | true=>wpE K n elt (fun x m=>P (some x) m) noX m
  | false=>P none m) noX m) m) (fun acc m'=>P (.ref m'.heap.length) ⟨m.vars,m'.heap++[.list acc]⟩) ((List.range k.toNat).map fun (i:Nat)=>.int i) [] m):wpE K n (.comp elt t false .range1 [src] ifs) P X m:=by
 show wpE K n src _ X m
 refine hs _ ?_
 exact aG (dS h1 h2) h
include hK
theorem AD {r:Nat}{ss:List Txt}{many step:Int}{N:Nat}{Q:MV→List MO→Prop}{X:XT}{h:List MO}(hr:h[r]?=some (.list (ss.map .str)))(ten:ss.length=10)(hm:0≤many∧many<61)(hs:0≤step∧step≤1000)(hN:0<N)
  (hq:∀h' i rows,h<+:h'→h.length≤i→h'[i]?=some (.list (mvs rows))→rows.length≤61→(∀q∈rows,∃k s,0≤k∧k<many∧(s∈ss∨∃k',(0≤k'∧k'<many)∧s=zN k')∧q=.set (zN k) (.op 43 (.nm s) (.num 1)))→Q (.ref i) h'):K N 109 [.ref r,.int many,.int step] Q X h:=by
 obtain ⟨M,rfl,hM⟩:=room hN
 refine hK _ _ _ _ _ _ bA rfl rfl ?_
 show ax K M (.asg [3] false (.comp (.bin .mod (.bin .mul (.var 7) (.var 2)) (.cst (.int 61))) [7] false .range1 [.cst (.int 61)] [.cmp .lt (.bin .mod (.bin .mul (.var 7) (.var 2)) (.cst (.int 61))) (.var 1)])::bA.body.drop 1) (fin Q) (fun c m=>X c m.heap) ⟨[some (.ref r),some (.int many),some (.int step),none,none,none,none,none],h⟩
 refine jS ?_
 refine AC (k:=61) (fun P h=>h) (by decide) (by decide) ?_
 refine dg (fun j acc m=>∃z os,m=⟨[some (.ref r),some (.int many),some (.int step),none,none,none,none,z],h⟩∧acc=os.map .int∧os.length≤j∧∀o∈os,0≤o∧o<many) ⟨none,[],rfl,rfl,Nat.le_refl _,fun _ h=>aC h⟩ (fun _ _ _ _=>trivial) (fun j x acc m P hx hI n1 n2=>?_) (fun acc m hI=>?_)
 ·obtain ⟨z,os,rfl,rfl,h1,h2⟩:=hI
  obtain ⟨hj,rfl⟩:=fS hx
  have hj:j<61:=hj
  have sm:dt (j:Int)∨dt step:=.inl (Nat.lt_of_lt_of_le hj (nb rfl))
  refine ⟨sm,?_⟩
  conv=>whnf
  cases q:decide ((j:Int) * step % 61<many) with
  | false=>exact n2 _ ⟨_,os,rfl,rfl,Nat.le_succ_of_le h1,h2⟩
  | true=>
   refine ⟨sm,?_⟩
   refine n1 _ _ ⟨_,os++[(j:Int) * step % 61],rfl,by rw [List.map_append];rfl,by rw [List.length_append];exact Nat.succ_le_succ h1,fun o ho=>?_⟩
   rcases List.mem_append.mp ho with ho | ho
   ·exact h2 o ho
   ·rw [List.mem_singleton.mp ho];exact ⟨em0 rfl,of_decide_eq_true q⟩
 ·obtain ⟨z,os,rfl,rfl,h1,h2⟩:=hI
  have h1:os.length≤61:=h1
  have p2:h<+:h++[MO.list (os.map .int)]:=aa (ai _)
  have p3:h<+:h++[MO.list (os.map .int)]++[MO.list []]:=aa p2
  have lr:h.length<(h++[MO.list (os.map MV.int)]).length:=by rw [List.length_append];exact Nat.lt_succ_self _
  have eo:=ah (o':=MO.list []) (ac h (MO.list (os.map .int)))
  show ax K M (bA.body.drop 2) (fin Q) (fun c m=>X c m.heap) ⟨[some (.ref r),some (.int many),some (.int step),some (.ref h.length),some (.ref (h++[MO.list (os.map MV.int)]).length),none,none,none],h++[MO.list (os.map .int)]++[MO.list []]⟩
  have el:=ac (h++[MO.list (os.map MV.int)]) (MO.list [])
  generalize (h++[MO.list (os.map MV.int)]).length=g at *
  generalize h++[MO.list (os.map .int)]++[MO.list []]=h2' at *
  refine aG (aF eo) ?_
  refine iO (fun j w5 w6 hp rows=>⟨[some (.ref r),some (.int many),some (.int step),some (.ref h.length),some (.ref g),w5,w6,none],hp⟩) (fun j w5 w6 hp (rows:List Rw)=>A5 (h<+:hp) (hp[h.length]?=some (.list (os.map .int))) (hp[g]?=some (.list (mvs rows))) (rows.length≤j) (∀q∈rows,∃k s,0≤k∧k<many∧(s∈ss∨∃k',(0≤k'∧k'<many)∧s=zN k')∧q=.set (zN k) (.op 43 (.nm s) (.num 1)))) none none h2' [] rfl ⟨p3,eo,el,Nat.le_refl _,fun _ h=>aC h⟩ (fun _ _ _ _ _ hI=>hI.h2) (fun j x w5 w6 hp rows P hx hI hn _=>?_) (fun w5 w6 hp rows hI=>?_)
  ·obtain ⟨q1,q2,q3,q4,q5⟩:=hI
   obtain ⟨o,ho,rfl⟩:=Option.map_eq_some_iff.mp (List.getElem?_map ..▸hx)
   obtain ⟨o1,o2⟩:=h2 o (List.mem_of_getElem? ho)
   have lj:=(List.getElem?_eq_some_iff.mp ho).1
   refine ⟨⟨z1 o1 (by simp +arith only),z2 o2 hm.2 (by simp +arith only)⟩,?_⟩
   refine ⟨pP ⟨z1 o1 (by simp +arith only),z2 o2 hm.2 (by simp +arith only)⟩,?_⟩
   have e9:ss[9]?=some (ss[9]'(n1 (Nat.le_of_eq ten.symm) (by simp +arith only))):=bg (n1 (Nat.le_of_eq ten.symm) (by simp +arith only))
   refine af (ag q1 hr) (az (k:=9) (j:=9) (aL (by decide) (by rw [List.length_map,ten];decide)) (by rw [List.getElem?_map,e9];rfl) ?_)
   refine af (ac _ _) (az lI nZ ?_)
   have hsel:∃s,sel (o==0) (MV.str ([122,122]++dec (o-1))) (.str (ss[9]'(by lia)))=.str s∧(s∈ss∨∃k',(0≤k'∧k'<many)∧s=zN k'):=by
    cases q:o==0 with
    | true=>exact ⟨_,rfl,.inl (List.mem_of_getElem? e9)⟩
    | false=>
     have:o≠0:=fun e=>by rw [e] at q;exact tf q
     exact ⟨_,rfl,.inr ⟨o-1,⟨by lia,z1 o2 (by simp +arith only)⟩,rfl⟩⟩
   obtain ⟨s,es,hs'⟩:=hsel
   rw [es]
   have q3':=ah (o':=MO.list [.str ([122,122]++dec (o-1)),.str (ss[9]'(by lia))]) q3
   refine ay (aA q3') ?_
   refine ⟨⟨z1 o1 (by simp +arith only),z2 o2 hm.2 (by simp +arith only)⟩,?_⟩
   refine ⟨pP ⟨z1 o1 (by simp +arith only),z2 o2 hm.2 (by simp +arith only)⟩,?_⟩
   refine aY (aW q3') ?_
   refine ⟨by rw [bt];exact Nat.lt_of_le_of_lt q4 (Nat.lt_of_lt_of_le lj (Nat.le_trans h1 (aI (nb rfl)))),?_⟩
   refine hn _ _ _ (rows++[.set (zN o) (.op 43 (.nm s) (.num 1))]) ⟨aM (aa q1) (Nat.le_of_lt lr),ao (Nat.ne_of_gt lr) (ah q2),?_,by rw [List.length_append];exact Nat.succ_le_succ q4,fun q hq'=>?_⟩
   ·rw [cz];exact get_set q3'
   ·rcases List.mem_append.mp hq' with hq' | hq'
    ·exact q5 q hq'
    ·rw [List.mem_singleton.mp hq'];exact ⟨o,s,o1,o2,hs',rfl⟩
  ·obtain ⟨q1,q2,q3,q4,q5⟩:=hI
   rw [List.length_map] at q4
   exact hq _ _ _ q1 (Nat.le_of_lt lr) q3 (Nat.le_trans q4 h1) q5
end Internal
end
section
namespace Internal
mutual
theorem q9:∀r:Rw,r.size≤r.lines.length
 | .set s t=>Nat.le_refl _
 | .tell t=>Nat.le_refl _
 | .skip=>Nat.le_refl _
 | .ite t a b=>by
  have h1:=dp a
  have h2:=dp b
  show av a+av b+1≤(lns a++m7::(lns b++[mz])).length+1
  rw [List.length_append,List.length_cons,List.length_append];exact n2 h2 h1 (by simp +arith only)
 | .wh t a=>by
  have h1:=dp a
  show av a+1≤(lns a++[mz]).length+1
  rw [List.length_append];exact n1 h1 (by simp +arith only)
theorem dp:∀rs:List Rw,av rs≤(lns rs).length
 | []=>Nat.le_refl _
 | r::rs=>by
  have h1:=q9 r
  have h2:=dp rs
  show r.size+av rs≤(r.lines++lns rs).length
  rw [List.length_append];exact n2 h2 h1 (by simp +arith only)
end
theorem uj {p:List Nat→Prop}:∀{t:Tm},t.ok p→∀x∈an t,p x
 | .num _,_,x,h=>aC h
 | .nm s,q,x,h=>by rw [List.mem_singleton.mp h];exact q
 | .op c a b,q,x,h=>(List.mem_append.mp h).elim (uj q.2.1 x) (uj q.2.2 x)
mutual
theorem DS {p:List Nat→Prop}:∀(r:Rw) (k:Int) (ab:List Tm),r.gp p→∀x∈fj (r.num k ab),p x
 | .set s t,k,ab,g,x,h=>by
  have h:x∈(s::aS (an t))++[]:=h
  rw [List.append_nil] at h
  rcases List.mem_cons.mp h with e | h
  ·rw [e];exact g.1
  ·exact uj g.2.1 x (aE.mp h)
 | .tell t,k,ab,g,x,h=>by
  have h:x∈aS (an t)++[]:=h
  rw [List.append_nil] at h
  exact uj g.1 x (aE.mp h)
 | .skip,k,ab,_,x,h=>aC h
 | .ite t a b,k,ab,g,x,h=>by
  have h:x∈aS (an t)++fj (nums (k+1) (ab++[t]) a++nums (k+1+av a) (ab++[t]) b):=h
  rw [lY] at h
  rcases List.mem_append.mp h with h | h
  ·exact uj g.1.1 x (aE.mp h)
  ·exact (List.mem_append.mp h).elim (gI a _ _ g.2.1 x) (gI b _ _ g.2.2 x)
 | .wh t a,k,ab,g,x,h=>by
  have h:x∈aS (an t)++fj (nums (k+1) (ab++[t]) a):=h
  rcases List.mem_append.mp h with h | h
  ·exact uj g.1.1 x (aE.mp h)
  ·exact gI a _ _ g.2 x h
theorem gI {p:List Nat→Prop}:∀(rs:List Rw) (k:Int) (ab:List Tm),gps p rs→∀x∈fj (nums k ab rs),p x
 | [],_,_,_,x,h=>aC h
 | r::rs,k,ab,g,x,h=>by
  have h:x∈fj (r.num k ab++nums (k+r.size) ab rs):=h
  rw [lY] at h
  exact (List.mem_append.mp h).elim (DS r k ab g.1 x) (gI rs _ ab g.2 x)
end
structure Bks (ss us:List Txt)(bs zs:List Rw):Prop where
 gp:gps (·∈ss) bs
 nest:aB bs≤7
 len:av bs+zs.length≤400
 fl:∀q∈zs,q.gp (·∈ss++us)∧q.subs=[]
theorem yk {r:Rw}(h:r.subs=[])(k:Int):r.num k []=[(k,r,[])]:=by
 cases r with
 | ite t a b=>cases h
 | wh t a=>cases h
 | _=>rfl
theorem uk {r:Rw}(h:r.subs=[]):r.nest=0∧r.size=1:=by
 cases r with
 | ite t a b=>cases h
 | wh t a=>cases h
 | _=>exact ⟨rfl,rfl⟩
theorem np:∀{zs:List Rw}{k:Int},(∀q∈zs,q.subs=[])→∀q∈nums k [] zs,∃k' r,r∈zs∧q=(k',r,[])
 | [],k,_,q,hq=>aC hq
 | r::zs,k,h,q,hq=>by
  rcases List.mem_append.mp (show q∈r.num k []++nums (k+r.size) [] zs from hq) with hq | hq
  ·rw [yk (h r (.head _))] at hq
   exact ⟨k,r,.head _,List.mem_singleton.mp hq⟩
  ·obtain ⟨k',r',h1,h2⟩:=np (fun q hq=>h q (.tail _ hq)) q hq
   exact ⟨k',r',.tail _ h1,h2⟩
theorem nq:∀{zs:List Rw},(∀q∈zs,q.subs=[])→aB zs=0∧av zs=zs.length
 | [],_=>⟨rfl,rfl⟩
 | r::zs,h=>by
  obtain ⟨h1,h2⟩:=uk (h r (.head _))
  obtain ⟨h3,h4⟩:=nq (zs:=zs) fun q hq=>h q (.tail _ hq)
  show max r.nest (aB zs)=0∧r.size+av zs=zs.length+1
  rw [h1,h2,h3,h4];exact ⟨rfl,Nat.add_comm _ _⟩
theorem yl:∀{p:Txt→Prop}{zs:List Rw},(∀q∈zs,q.gp p)→gps p zs
 | _,[],_=>trivial
 | _,r::zs,h=>⟨h r (.head _),yl fun q hq=>h q (.tail _ hq)⟩
theorem Bks.nf {ss us:List Txt}{bs zs:List Rw}(ten:ss.length=10)(b:Bks ss us bs zs)(hg:dT (bs++zs)):∀q∈nums 1 [] (bs++zs),(cX q.2.1 q.2.2).length<64:=fun q hq=>by
 rw [iZ] at hq
 rcases List.mem_append.mp hq with hq | hq
 ·have key:∀q∈nums 1 [] bs,∀n∈an q.2.1.ft,n∈ss:=fun q hq n hn=>gI bs 1 [] b.gp n (List.mem_flatMap.mpr ⟨q,hq,xL hn⟩)
  obtain ⟨h1,_⟩:=gG bs (P:=fun t=>∀n∈an t,n∈ss) key (fun _ h=>aC h) q hq
  refine Nat.lt_of_le_of_lt (iW (t:=ss) fun n hn=>?_) (n1 (Nat.le_of_eq ten) (by simp +arith only))
  rcases List.mem_append.mp hn with hn | hn
  ·obtain ⟨t,ht,hn⟩:=oh.mp hn
   exact h1 t ht n hn
  ·by_cases hs:q.2.1=.skip
   ·rw [hs] at hn;exact aC hn
   ·exact key q hq n ((xK hs).mp hn)
 ·obtain ⟨k',r,hr,rfl⟩:=np (fun q hq=>(b.fl q hq).2) q hq
  have gr:r.good:=gD hg r (List.mem_append_right _ hr)
  exact Nat.lt_of_le_of_lt (fV _) (Nat.lt_of_le_of_lt (show (ats []++r.fs).length≤8 from xN gr) (by decide))
theorem ul {ss U V W A B A' B':List (List Nat)}{bs zs:List Rw}(ten:ss.length=10)(gn:∀s∈ss,Gn s)(hnd:ss.Nodup)(hU:U.Sublist (yN 111 20))(hV:V.Sublist (yN 115 20))(hno:∀s∈U++V,s∉ss)(pA:A.Perm (U++A'))(pB:B.Perm (V++B'))(sA:A'.Sublist (ss.take 5))(sB:B'.Sublist (ss.drop 5))(hz:∀s∈W,Gn s)(lz:W.length≤60)(b:Bks ss W bs zs):LF A B (bs++zs):=by
 have hg:gps (·∈ss++W) (bs++zs):=fk (ey (fun s h=>List.mem_append_left _ h) b.gp) (yl fun q hq=>(b.fl q hq).1)
 obtain ⟨z1,z2⟩:=nq fun q hq=>(b.fl q hq).2
 have sy:(U++V).Sublist (yN 111 20++yN 115 20):=hU.append hV
 have ss':(A'++B').Sublist ss:=by have:=sA.append sB;rw [List.take_append_drop] at this;exact this
 have pp:(A++B).Perm ((U++V)++(A'++B')):=by
  refine (pA.append pB).trans ?_
  rw [List.append_assoc,List.append_assoc]
  refine List.Perm.append_left U ?_
  rw [←List.append_assoc,←List.append_assoc]
  exact List.Perm.append_right B' List.perm_append_comm
 have lU:=hU.length_le
 have lV:=hV.length_le
 rw [x5] at lU lV
 have l':=ss'.length_le
 have gU:∀s∈U++V,Gn s:=fun s h=>x3 s (sy.subset h)
 have lp:=pp.length_eq
 simp only [List.length_append] at lp l'
 have mem:∀s∈A++B,s∈(U++V)++(ss++W):=fun s h=>by
  rcases List.mem_append.mp (pp.subset h) with h | h
  ·exact List.mem_append_left _ h
  ·exact List.mem_append_right _ (List.mem_append_left _ (ss'.subset h))
 have gall:∀s∈(U++V)++(ss++W),Gn s:=fun s h=>(List.mem_append.mp h).elim (gU s) fun h=>(List.mem_append.mp h).elim (gn s) (hz s)
 have memp:∀s∈aN A B (bs++zs),s∈(U++V)++(ss++W):=fun s h=>by
  rcases List.mem_append.mp h with h | h
  ·exact mem s h
  ·exact List.mem_append_right _ (gI _ 1 [] hg s h)
 have gg:dT (bs++zs):=fW (ey (fun s h=>gall s (List.mem_append_right _ h)) hg)
 refine ⟨fun s h=>gall s (mem s h),pp.nodup_iff.mpr (List.nodup_append.mpr ⟨FB.sublist sy,hnd.sublist ss',fun a ha b hb e=>hno a ha (e▸ss'.subset hb)⟩),by rw [lp];exact n3 lU lV (ten▸l') (by simp +arith only),gg,by rw [dh,z2];exact b.len,cP b.nest (by rw [z1];exact Nat.zero_le _),?_,fun s h=>(gall s (memp s (aE.mp h))).1.ok,b.nf ten gg⟩
 have:=iW memp
 rw [List.length_append,List.length_append,List.length_append,ten] at this
 exact n2 this (Nat.add_le_add (Nat.add_le_add lU lV) lz) (by simp +arith only)
end Internal
end
section
namespace Internal
theorem cT {ss:List Txt}(ten:ss.length=10){k:Int}{f:MV→Prop}(h0:0≤k)(h1:k<10)(hf:∀s∈ss,f (.str s)):ci (ss.map MV.str) k f:=by
 have hl:k.toNat<ss.length:=by rw [ten];exact tn h0 h1
 exact az (aL h0 (by rw [List.length_map,ten];exact h1)) (by rw [List.getElem?_map,bg hl];rfl) (hf _ (List.getElem_mem hl))
theorem FD {a b c:MV}{x:Int}{f:MV→Prop}(ha:f a)(hb:f b)(hc:f c):ci [a,b,c] (x % 3) f:=by
 obtain ⟨v,h1,h2⟩:=jN.get (P:=fun _ v=>f v) (n:=0) (.cons ha (.cons hb (.cons hc .nil))) (x % 3).toNat (emN rfl)
 exact az (aL (em0 rfl) (by show _<(3:Int);exact em2 rfl)) h1 h2
theorem FE {a b:MV}{k:Int}{f:MV→Prop}(h0:0≤k)(h1:k<2)(ha:f a)(hb:f b):ci [a,b] k f:=by
 obtain ⟨v,h2,h3⟩:=jN.get (P:=fun _ v=>f v) (n:=0) (.cons ha (.cons hb .nil)) k.toNat (tn h0 h1)
 exact az (aL h0 h1) h2 h3
structure Own (p:Txt→Prop)(r:Rw):Prop where
 gp:r.gp p
 nest:r.nest≤2
 len:r.lines.length≤7
theorem jw {ss:List Txt}{k:Int}(h0:0≤k)(h1:k<1000000):Tm.ok (·∈ss) (.num k):=⟨h0,h1⟩
theorem ko {ss:List Txt}{s:Txt}(hs:s∈ss):(Tm.op 43 (.nm s) (.num 1)).gp (·∈ss):=⟨⟨.inl rfl,hs,jw (by decide) (by decide)⟩,Nat.succ_le_succ (Nat.zero_le _)⟩
theorem sC {ss:List Txt}{s:Txt}{k:Int}(h0:0≤k)(h1:k<1000000)(hs:s∈ss):(Tm.op 60 (.nm s) (.num k)).gp (·∈ss):=⟨⟨.inr (.inr (.inr (.inl rfl))),hs,jw h0 h1⟩,Nat.succ_le_succ (Nat.zero_le _)⟩
structure Sm (p:Txt→Prop)(q:Rw):Prop where
 gp:q.gp p
 nest:q.nest≤1
 len:q.lines.length≤3
theorem ym {p:Txt→Prop}{q:Rw}{a:List Rw}(h:Sm p q)(ha:a=[q]∨a=[]):gps p a∧aB a≤1∧(lns a).length≤3:=by
 rcases ha with rfl | rfl
 ·exact ⟨⟨h.gp,trivial⟩,mx0 h.nest,by rw [iV];exact h.len⟩
 ·exact ⟨trivial,Nat.zero_le _,Nat.zero_le _⟩
theorem DT {p:Txt→Prop}{t:Tm}{q:Rw}{a b:List Rw}(ht:t.gp p)(h:Sm p q)(ha:a=[q]∨a=[])(hb:b=[q]∨b=[])(ho:a=[]∨b=[]):Own p (.ite t a b):=by
 obtain ⟨a1,a2,a3⟩:=ym h ha
 obtain ⟨b1,b2,b3⟩:=ym h hb
 refine ⟨⟨ht,a1,b1⟩,Nat.succ_le_succ (mx a2 b2),?_⟩
 show ((_:Txt)::(lns a++m7::(lns b++[mz]))).length≤7
 rw [List.length_cons,List.length_append,List.length_cons,List.length_append,List.length_singleton]
 rcases ho with rfl | rfl
 ·show 0+_+1≤7;exact n1 b3 (by simp +arith only)
 ·show _+(0+_+1)+1≤7;exact n1 a3 (by simp +arith only)
variable {K:KT}(hK:aK PP K)
include hK
section
variable {r:Nat}{ss:List Txt}{way c:Int}{dark low:Txt}{N:Nat}{Q:MV→List MO→Prop}{X:XT}{h:List MO}{t:Tm}{hp:List MO}
noncomputable abbrev E5:List MSt:=[.ret (.tup [.cst (.str [105,102]),.var 5,.idx (.list [.tup [.var 7],.tup []]) (.bin .mod (.bin .fdiv (.var 3) (.cst (.int 150))) (.cst (.int 2))),.idx (.list [.tup [.var 7],.tup []]) (.bin .sub (.cst (.int 1)) (.bin .mod (.bin .fdiv (.var 3) (.cst (.int 150))) (.cst (.int 2))))])]
omit hK in
theorem sD {q:Rw}{v6:MV}(hq:∀h' q,h<+:h'→Own (·∈ss) q→Q q.mv h')(hpre:h<+:hp)(ht:t.gp (·∈ss))(hs:Sm (·∈ss) q):ax K N E5 (fin Q) (fun c m=>X c m.heap) ⟨[some (.ref r),some (.int way),some (.str dark),some (.int c),some (.str low),some t.mv,some v6,some q.mv],hp⟩:=by
 have h2:0≤c / 150 % 2∧c / 150 % 2<2:=em rfl
 have one:∀(a b:List Rw) (hp':List MO),hp<+:hp'→(a=[q]∨a=[])→(b=[q]∨b=[])→(a=[]∨b=[])→Q (.tup [.str wIf,t.mv,.tup (mvs a),.tup (mvs b)]) hp':=fun a b hp' p' ha hb ho=>hq hp' (.ite t a b) (hpre.trans p') (DT ht hs ha hb ho)
 have hd:c / 150 % 2=0∨c / 150 % 2=1:=Int.emod_two_eq _
 refine af (ac _ _) ?_
 rcases hd with hd | hd
 ·refine az (k:=c / 150 % 2) (j:=0) (by rw [hd];rfl) rfl ?_
  refine af (ac _ _) ?_
  refine az (k:=1-c / 150 % 2) (j:=1) (by rw [hd];rfl) rfl ?_
  exact one [q] [] _ (aa (aa (ai _))) (.inl rfl) (.inr rfl) (.inr rfl)
 ·refine az (k:=c / 150 % 2) (j:=1) (by rw [hd];rfl) rfl ?_
  refine af (ac _ _) ?_
  refine az (k:=1-c / 150 % 2) (j:=0) (by rw [hd];rfl) rfl ?_
  exact one [] [q] _ (aa (aa (ai _))) (.inr rfl) (.inl rfl) (.inl rfl)
omit hK in
theorem Bl {n i:Nat}{e:ME}{Q:Fl→MS→Prop}{X:XM}{m:MS}(h:wpE K n e (fun v m=>Q .next (m.set i v)) X m):ax K n [.asg [i] false e] Q X m:=h
omit hK in
theorem AE {v1 v2:Option MV}{v5 v6 v7:Option MV}{P:PQ}{X:XM}(hr:hp[r]?=some (.list (ss.map .str)))(ten:ss.length=10)(hq:∀s∈ss,P (Rw.set s (.op 47 (.nm low) (.num (c / 75 % 2)))).mv ⟨[some (.ref r),v1,v2,some (.int c),some (.str low),v5,v6,v7],hp⟩) :
  wpE K N (.tup [.cst (.str [115,101,116]),.idx (.var 0) (.bin .add (.cst (.int 5)) (.bin .mod (.bin .fdiv (.var 3) (.cst (.int 15))) (.cst (.int 5)))),.tup [.cst (.str [47]),.tup [.cst (.str [110,97,109,101]),.var 4],.tup [.cst (.str [110,117,109,98,101,114]),.bin .mod (.bin .fdiv (.var 3) (.cst (.int 75))) (.cst (.int 2))]]]) P X ⟨[some (.ref r),v1,v2,some (.int c),some (.str low),v5,v6,v7],hp⟩:=by
 have h2:0≤c / 15 % 5∧c / 15 % 5<5:=em rfl
 refine af hr ?_
 exact cT (k:=5+c / 15 % 5) ten (z1 h2.1 (by simp +arith only)) (z1 h2.2 (by simp +arith only)) hq
theorem re {q:Rw}(hr:h[r]?=some (.list (ss.map .str)))(ten:ss.length=10)(hlow:low∈ss)(hq:∀h' q,h<+:h'→Own (·∈ss) q→Q q.mv h')(hpre:h<+:hp)(ht:t.gp (·∈ss))(hs:Sm (·∈ss) q):ax K N (bQ.body.drop 8) (fin Q) (fun c m=>X c m.heap) ⟨[some (.ref r),some (.int way),some (.str dark),some (.int c),some (.str low),some t.mv,some (Rw.set low (.op 43 (.nm low) (.num 1))).mv,some q.mv],hp⟩:=by
 have seven:∀(q:Rw),Sm (·∈ss) q→ax K N (bQ.body.drop 9) (fin Q) (fun c m=>X c m.heap) ⟨[some (.ref r),some (.int way),some (.str dark),some (.int c),some (.str low),some t.mv,some (Rw.set low (.op 43 (.nm low) (.num 1))).mv,some q.mv],hp⟩:=fun q hs=>by
  conv=>whnf
  cases way==7 with
  | false=>exact sD hq hpre ht hs
  | true=>
   refine Bl (AE (ag hpre hr) ten fun s hs=>?_)
   exact sD (q:=.set s (.op 47 (.nm low) (.num (c / 75 % 2)))) hq hpre ht ⟨⟨hs,⟨.inr (.inr (.inr (.inr (.inr rfl)))),hlow,em rfl⟩,Nat.succ_le_succ (Nat.zero_le _)⟩,Nat.zero_le _,Nat.succ_le_succ (Nat.zero_le _)⟩
 conv=>whnf
 cases way==6 with
 | false=>exact seven q hs
 | true=>exact seven (.wh (.op 60 (.nm low) (.num 3)) [.set low (.op 43 (.nm low) (.num 1))]) ⟨⟨sC (by decide) (by decide) hlow,⟨hlow,ko hlow⟩,trivial⟩,Nat.le_refl _,Nat.le_refl _⟩
omit hK in
theorem DU {v1 v2 v4 v6 v7:Option MV}{v5:MV}{P:PQ}{X:XM}(hr:hp[r]?=some (.list (ss.map .str)))(ten:ss.length=10)(hq:∀s∈ss,P (.tup [.str cW,.str s,v5]) ⟨[some (.ref r),v1,v2,some (.int c),v4,some v5,v6,v7],hp⟩) :
  wpE K N (.tup [.cst (.str [115,101,116]),.idx (.var 0) (.bin .mod (.bin .fdiv (.var 3) (.cst (.int 15))) (.cst (.int 5))),.var 5]) P X ⟨[some (.ref r),v1,v2,some (.int c),v4,some v5,v6,v7],hp⟩:=by
 refine af hr ?_
 exact cT (k:=c / 15 % 5) ten (em0 rfl) (em2 rfl) hq
omit hK in
theorem AF {v1 v2 v4 v6 v7:Option MV}{v5:MV}{P:PQ}{X:XM}(hr:hp[r]?=some (.list (ss.map .str)))(ten:ss.length=10)(hq:∀s∈ss,P (.tup [.str cW,.str s,.tup [.str [47],.tup [.str tY,.int 7],v5]]) ⟨[some (.ref r),v1,v2,some (.int c),v4,some v5,v6,v7],hp⟩) :
  wpE K N (.tup [.cst (.str [115,101,116]),.idx (.var 0) (.bin .add (.cst (.int 5)) (.bin .mod (.bin .fdiv (.var 3) (.cst (.int 15))) (.cst (.int 5)))),.tup [.cst (.str [47]),.tup [.cst (.str [110,117,109,98,101,114]),.cst (.int 7)],.var 5]]) P X ⟨[some (.ref r),v1,v2,some (.int c),v4,some v5,v6,v7],hp⟩:=by
 have h2:0≤c / 15 % 5∧c / 15 % 5<5:=em rfl
 refine af hr ?_
 exact cT (k:=5+c / 15 % 5) ten (z1 h2.1 (by simp +arith only)) (z1 h2.2 (by simp +arith only)) hq
omit hK in
theorem AG {v2 v5 v6 v7:Option MV}{P:PQ}{X:XM}(hr:hp[r]?=some (.list (ss.map .str)))(ten:ss.length=10)(hq:∀q hp',hp<+:hp'→((∃s∈ss,q=Rw.set s (.op 43 (.nm low) (.num 1)))∨q=.tell (.nm low))→P q.mv ⟨[some (.ref r),some (.int way),v2,some (.int c),some (.str low),v5,v6,v7],hp'⟩) :
  wpE K N (.idx (.list [.tup [.cst (.str [115,101,116]),.idx (.var 0) (.bin .mod (.bin .fdiv (.var 3) (.cst (.int 15))) (.cst (.int 5))),.tup [.cst (.str [43]),.tup [.cst (.str [110,97,109,101]),.var 4],.tup [.cst (.str [110,117,109,98,101,114]),.cst (.int 1)]]],.tup [.cst (.str [116,101,108,108]),.tup [.cst (.str [110,97,109,101]),.var 4]]]) (.bin .mod (.var 1) (.cst (.int 2)))) P X ⟨[some (.ref r),some (.int way),v2,some (.int c),some (.str low),v5,v6,v7],hp⟩:=by
 refine af hr ?_
 refine cT (k:=c / 15 % 5) ten (em0 rfl) (em2 rfl) fun s hs=>?_
 refine af (ac _ _) ?_
 refine FE (k:=way % 2) (em0 rfl) (em2 rfl) ?_ ?_
 ·exact hq (.set s (.op 43 (.nm low) (.num 1))) _ (aa (ai _)) (.inl ⟨s,hs,rfl⟩)
 ·exact hq (.tell (.nm low)) _ (aa (ai _)) (.inr rfl)
omit hK in
theorem Bm {n:Nat}{e:ME}{Q:Fl→MS→Prop}{X:XM}{m:MS}(h:wpE K n e (fun v m=>Q (.ret v) m) X m):ax K n [.ret e] Q X m:=h
theorem jx (hr:h[r]?=some (.list (ss.map .str)))(ten:ss.length=10)(hd:dark∈ss)(hlow:low∈ss)(hq:∀h' q,h<+:h'→Own (·∈ss) q→Q q.mv h')(hpre:h<+:hp)(ht:t.ok (·∈ss))(hdp:t.deep≤1) :
  ax K N (bQ.body.drop 2) (fin Q) (fun c m=>X c m.heap) ⟨[some (.ref r),some (.int way),some (.str dark),some (.int c),some (.str low),some t.mv,none,none],hp⟩:=by
 have hr':=ag hpre hr
 have tg:t.gp (·∈ss):=⟨ht,Nat.le_trans hdp (by decide)⟩
 conv=>whnf
 cases way==0 with
 | true=>exact Bm (DU hr' ten fun s hs=>hq hp (.set s t) hpre ⟨⟨hs,tg⟩,Nat.zero_le _,Nat.succ_le_succ (Nat.zero_le _)⟩)
 | false=>
 conv=>whnf
 cases way==1 with
 | true=>exact hq hp (.tell t) hpre ⟨tg,Nat.zero_le _,Nat.succ_le_succ (Nat.zero_le _)⟩
 | false=>
 conv=>whnf
 cases way==2 with
 | true=>exact hq hp (.wh (.op 60 (.nm dark) (.num 3)) [.set dark (.op 43 (.nm dark) (.num 1))]) hpre ⟨⟨sC (by decide) (by decide) hd,⟨hd,ko hd⟩,trivial⟩,Nat.le_succ 1,Nat.succ_le_succ (Nat.succ_le_succ (Nat.succ_le_succ (Nat.zero_le _)))⟩
 | false=>
 conv=>whnf
 cases way==3 with
 | true=>exact Bm (AF hr' ten fun s hs=>hq hp (.set s (.op 47 (.num 7) t)) hpre ⟨⟨hs,⟨.inr (.inr (.inr (.inr (.inr rfl)))),jw (by decide) (by decide),ht⟩,Nat.succ_le_succ (Nat.le_trans (m0x hdp) (by decide))⟩,Nat.zero_le _,Nat.succ_le_succ (Nat.zero_le _)⟩)
 | false=>
  refine jS (AG hr' ten fun q hp' p' hs=>?_)
  refine re hK hr ten hlow hq (hpre.trans p') tg ?_
  rcases hs with ⟨s,hs,rfl⟩ | rfl
  ·exact ⟨⟨hs,ko hlow⟩,Nat.zero_le _,Nat.succ_le_succ (Nat.zero_le _)⟩
  ·exact ⟨⟨hlow,Nat.zero_le _⟩,Nat.zero_le _,Nat.succ_le_succ (Nat.zero_le _)⟩
theorem um (hr:h[r]?=some (.list (ss.map .str)))(ten:ss.length=10)(hd:dark∈ss)(hN:0<N)(hq:∀h' q,h<+:h'→Own (·∈ss) q→Q q.mv h'):K N 123 [.ref r,.int way,.str dark,.int c] Q X h:=by
 obtain ⟨M,rfl,hM⟩:=room hN
 refine hK _ _ _ _ _ _ bQ rfl rfl ?_
 refine af hr ?_
 refine cT (k:=c % 5) ten (em0 rfl) (em2 rfl) fun low hlow=>?_
 refine af (ac _ _) ?_
 have p1:∀o,h<+:h++[o]:=fun o=>aa (ai _)
 refine FD (x:=c / 5) ?_ ?_ ?_
 ·exact jx hK (t:=.nm dark) hr ten hd hlow hq (p1 _) hd (Nat.zero_le _)
 ·exact jx hK (t:=.op 43 (.nm low) (.nm dark)) hr ten hd hlow hq (p1 _) ⟨.inl rfl,hlow,hd⟩ (Nat.le_refl _)
 ·exact jx hK (t:=.op 60 (.nm dark) (.num 2)) hr ten hd hlow hq (p1 _) ⟨.inr (.inr (.inr (.inl rfl))),hd,jw (by decide) (by decide)⟩ (Nat.le_refl _)
end
end Internal
end
section
namespace Internal
theorem jb {p:Txt→Prop}:∀{a b:List Rw},gps p (a++b)→gps p a∧gps p b
 | [],_,h=>⟨trivial,h⟩
 | _::_,_,h=>⟨⟨h.1,(jb h.2).1⟩,(jb h.2).2⟩
theorem eH:∀{a b:List Rw}{k:Nat},aB (a++b)≤k→aB a≤k∧aB b≤k
 | [],_,_,h=>⟨Nat.zero_le _,h⟩
 | r::a,b,k,h=>by
  obtain ⟨h1,h2⟩:=Nat.max_le.mp (show max r.nest (aB (a++b))≤k from h)
  exact ⟨mx h1 (eH h2).1,(eH h2).2⟩
theorem mh:∀(rs:List Rw) (k:Nat),(mvs rs).take k=mvs (rs.take k)
 | _,0=>rfl
 | [],_+1=>rfl
 | r::rs,k+1=>congrArg (List.cons r.mv) (mh rs k)
theorem mi:∀(rs:List Rw) (k:Nat),(mvs rs).drop k=mvs (rs.drop k)
 | _,0=>rfl
 | [],_+1=>rfl
 | r::rs,k+1=>mi rs k
structure Blk (p:Txt→Prop)(L:Nat)(rows:List Rw):Prop where
 gp:gps p rows
 nest:aB rows≤7
 len:(lns rows).length≤L
theorem Blk.put {p:Txt→Prop}{L:Nat}{bs rs:List Rw}(h:Blk p L bs)(k:Blk p 13 rs)(a:Nat):Blk p (L+13) (bs.take a++rs++bs.drop a):=by
 have g:=h.gp
 have n:=h.nest
 have l:=h.len
 rw [←List.take_append_drop a bs] at g n l
 rw [df,List.length_append] at l
 refine ⟨fk (fk (jb g).1 k.gp) (jb g).2,cP (cP (eH n).1 k.nest) (eH n).2,?_⟩
 have:=k.len
 rw [df,df,List.length_append,List.length_append];exact n2 this l (by simp +arith only)
variable {K:KT}(hK:aK PP K)
include hK
section
variable {r b:Nat}{ss:List Txt}{c:Int}{N L:Nat}{bs:List Rw}{Q:MV→List MO→Prop}{X:XT}{h:List MO}
omit hK in
theorem yn {i4:Nat}{rs:List Rw}{q:Rw}{a:Int}{v0 v2 v3:Option MV}{hp:List MO}(hb:hp[b]?=some (.list (mvs bs)))(h4:hp[i4]?=some (.list (mvs rs)))(ha:0≤a)(hz:bs.length+rs.length≤10000)(hpre:h<+:hp)(hB:Blk (·∈ss) L bs)(hR:Blk (·∈ss) 13 (rs++[q]))
  (hq:∀h' i rows,h<+:h'→h'[i]?=some (.list (mvs rows))→Blk (·∈ss) (L+13) rows→Q (.ref i) h') :
  ax K N [.ret (.bin .add (.bin .add (.bin .add (.sl (.var 1) none (some (.var 6))) (.var 4)) (.list [.var 5])) (.sl (.var 1) (some (.var 6)) none))] (fin Q) (fun c m=>X c m.heap) ⟨[v0,some (.ref b),v2,v3,some (.ref i4),some q.mv,some (.int a)],hp⟩:=by
 have l1:(bs.take a.toNat).length≤bs.length:=by rw [List.length_take];exact Nat.min_le_right ..
 have l2:(bs.drop a.toNat).length≤bs.length:=by rw [List.length_drop];exact Nat.sub_le ..
 refine af hb ?_
 refine af (ac _ _) (af (ah h4) ?_)
 rw [bT ha,mh]
 refine ⟨aI (by rw [bt,bt];exact n2 l1 hz (by simp +arith only)),?_⟩
 refine af (ah (ac _ _)) (af (ac _ _) ?_)
 refine ⟨aI (by rw [List.length_append,bt,bt,List.length_singleton];exact n2 l1 hz (by simp +arith only)),?_⟩
 refine af (ag (aa (aa (aa (aa (ai _))))) hb) ?_
 refine af (ah (ac _ _)) (af (ac _ _) ?_)
 rw [bv ha,mi]
 refine ⟨aI (by rw [List.length_append,List.length_append,bt,bt,bt,List.length_singleton];exact n3 l1 (Nat.le_trans l2 (Nat.le_trans (Nat.le_add_right _ _) hz)) hz (by simp +arith only)),?_⟩
 refine hq _ _ (bs.take a.toNat++(rs++[q])++bs.drop a.toNat) (aa (aa (aa (aa (aa (aa hpre)))))) ?_ (hB.put hR _)
 rw [cz,cz,cz,←List.append_assoc]
 exact ac _ _
omit hK in
theorem E6 {i4:Nat}{rs:List Rw}{q:Rw}{v0 v3:Option MV}{hp:List MO}(hb:hp[b]?=some (.list (mvs bs)))(h4:hp[i4]?=some (.list (mvs rs)))(hz:bs.length+rs.length≤10000)(hpre:h<+:hp)(hB:Blk (·∈ss) L bs)(hR:Blk (·∈ss) 13 (rs++[q]))
  (hq:∀h' i rows,h<+:h'→h'[i]?=some (.list (mvs rows))→Blk (·∈ss) (L+13) rows→Q (.ref i) h') :
  ax K N (be.body.drop 5) (fin Q) (fun c m=>X c m.heap) ⟨[v0,some (.ref b),some (.int c),v3,some (.ref i4),some q.mv,none],hp⟩:=by
 refine al hb ?_
 have hp1:(0:Int)<((mvs bs).length:Nat)+1:=by lia
 refine ay (decide_eq_true hp1) ?_
 have h0:0≤c / 1500 % (((mvs bs).length:Nat)+1:Int):=Int.emod_nonneg _ (Int.ne_of_gt hp1)
 conv=>whnf
 cases decide (0<c / 500 % 3) with
 | true=>exact yn (a:=0) hb h4 (by decide) hz hpre hB hR hq
 | false=>exact yn hb h4 h0 hz hpre hB hR hq
theorem sF {i4:Nat}{rs:List Rw}{dark:Txt}{hp:List MO}(hr:hp[r]?=some (.list (ss.map .str)))(ten:ss.length=10)(hd:dark∈ss)(hb:hp[b]?=some (.list (mvs bs)))(h4:hp[i4]?=some (.list (mvs rs)))(hz:bs.length+rs.length≤10000)(hN:1<N)(hpre:h<+:hp)(hB:Blk (·∈ss) L bs)(hR:Blk (·∈ss) 1 rs)
  (hq:∀h' i rows,h<+:h'→h'[i]?=some (.list (mvs rows))→Blk (·∈ss) (L+13) rows→Q (.ref i) h') :
  ax K N (be.body.drop 3) (fin Q) (fun c m=>X c m.heap) ⟨[some (.ref r),some (.ref b),some (.int c),some (.str dark),some (.ref i4),none,none],hp⟩:=by
 obtain ⟨M,rfl,hM⟩:=room hN
 refine bL hK ?_
 refine um hK hr ten hd (Nat.succ_pos _) fun h1 q p1 o=>?_
 have p1:hp<+:h1:=p1
 have key:∀q:Rw,q.gp (·∈ss)→q.nest≤3→q.lines.length≤12→ax K (M+1) (be.body.drop 5) (fin Q) (fun c m=>X c m.heap) ⟨[some (.ref r),some (.ref b),some (.int c),some (.str dark),some (.ref i4),some q.mv,none],h1⟩:=fun q h5 h6 h7=>
  E6 (ag p1 hb) (ag p1 h4) hz (hpre.trans p1) hB ⟨fk hR.gp ⟨h5,trivial⟩,cP hR.nest (mx0 (Nat.le_trans h6 (by decide))),by rw [df,iV,List.length_append];have:=hR.len;exact n2 this h7 (by simp +arith only)⟩ hq
 have plain:=key q o.gp (Nat.le_trans o.nest (by decide)) (Nat.le_trans o.len (by decide))
 have wrap:∀n0∈ss,ax K (M+1) (be.body.drop 5) (fin Q) (fun c m=>X c m.heap) ⟨[some (.ref r),some (.ref b),some (.int c),some (.str dark),some (.ref i4),some (Rw.ite (.op 61 (.nm n0) (.nm n0)) [q] [.skip]).mv,none],h1⟩:=fun n0 h0=>by
  refine key _ ⟨⟨⟨.inr (.inr (.inr (.inr (.inl rfl)))),h0,h0⟩,Nat.succ_le_succ (Nat.zero_le _)⟩,⟨o.gp,trivial⟩,trivial,trivial⟩ (Nat.succ_le_succ (mx (mx0 o.nest) (Nat.zero_le _))) ?_
  have:=o.len
  show ((_:Txt)::(lns [q]++m7::(lns [.skip]++[mz]))).length≤12
  rw [List.length_cons,List.length_append,iV]
  show _+3+1≤12;exact n1 this (by simp +arith only)
 have wrapS:ax K (M+1) [.asg [5] false (.tup [.cst (.str [105,102]),.tup [.cst (.str [61]),.tup [.cst (.str [110,97,109,101]),.idx (.var 0) (.cst (.int 0))],.tup [.cst (.str [110,97,109,101]),.idx (.var 0) (.cst (.int 0))]],.tup [.var 5],.tup [.tup [.cst (.str [115,107,105,112])]]])] (fun f m=>match f with
   | .next=>ax K (M+1) (be.body.drop 5) (fin Q) (fun c m=>X c m.heap) m
   | f=>fin Q f m) (fun c m=>X c m.heap) ⟨[some (.ref r),some (.ref b),some (.int c),some (.str dark),some (.ref i4),some q.mv,none],h1⟩:=by
  have hr1:=ag p1 hr
  have h0:0<ss.length:=n1 (Nat.le_of_eq ten.symm) (by simp +arith only)
  have e0:(ss.map MV.str)[0]?=some (.str ss[0]):=by rw [List.getElem?_map,bg h0];rfl
  have px:dG 0 (ss.map MV.str).length=some 0:=aL (by decide) (by rw [List.length_map];exact jT h0)
  refine Bl ?_
  refine af hr1 (az px e0 ?_)
  refine af hr1 (az px e0 ?_)
  exact wrap ss[0] (List.getElem_mem h0)
 conv=>whnf
 cases (c / 500 % 3==1) with
 | true=>exact wrapS
 | false=>
  conv=>whnf
  cases (c / 500 % 6==2) with
  | true=>exact wrapS
  | false=>exact plain
theorem DV (hr:h[r]?=some (.list (ss.map .str)))(ten:ss.length=10)(hb:h[b]?=some (.list (mvs bs)))(hz:bs.length≤9000)(hN:2<N)(hB:Blk (·∈ss) L bs)
  (hq:∀h' i rows,h<+:h'→h'[i]?=some (.list (mvs rows))→Blk (·∈ss) (L+13) rows→Q (.ref i) h'):K N 124 [.ref r,.ref b,.int c] Q X h:=by
 obtain ⟨M,rfl,hM⟩:=room hN
 have p1:h<+:h++[MO.list []]:=aa (ai _)
 have e1:(h++[MO.list []])[h.length]?=some (.list []):=ac _ _
 have h24:0≤c / 24 % 5∧c / 24 % 5<5:=em rfl
 have h120:0≤c / 120 % 5∧c / 120 % 5<5:=em rfl
 refine hK _ _ _ _ _ _ be rfl rfl ?_
 refine af hr ?_
 refine cT (k:=5+c / 24 % 5) ten (z1 h24.1 (by simp +arith only)) (z1 h24.2 (by simp +arith only)) fun dark hd=>?_
 conv=>whnf
 cases (c % 3==1) with
 | false=>exact sF hK (rs:=[]) (ag p1 hr) ten hd (ag p1 hb) e1 (by show _+0≤_;exact Nat.le_trans hz (nb rfl)) hM p1 hB ⟨trivial,Nat.zero_le _,Nat.zero_le _⟩ hq
 | true=>
  refine ay (aA e1) ?_
  refine af (ag p1 hr) ?_
  refine cT (k:=5+c / 120 % 5) ten (z1 h120.1 (by simp +arith only)) (z1 h120.2 (by simp +arith only)) fun s hs=>?_
  refine aY (aW e1) ?_
  refine ⟨Nat.lt_of_lt_of_le (Nat.zero_lt_succ 0) (aI (by decide)),?_⟩
  have p2:h<+:(h++[MO.list []]).set h.length (.list (mvs [.set s (.op 43 (.nm dark) (.num 1))])):=aM p1 (Nat.le_refl _)
  refine af (ag p2 hr) ?_
  refine cT (k:=5+c / 120 % 5) ten (z1 h120.1 (by simp +arith only)) (z1 h120.2 (by simp +arith only)) fun s2 hs2=>?_
  exact sF hK (rs:=[.set s (.op 43 (.nm dark) (.num 1))]) (ag p2 hr) ten hs2 (ag p2 hb) (get_set e1) (by show _+1≤_;exact n1 hz (by simp +arith only)) hM p2 hB ⟨⟨⟨hs,ko hd⟩,trivial⟩,Nat.zero_le _,Nat.le_refl _⟩ hq
end
theorem AH {is:List Int}{r:Nat}{ss:List Txt}{N:Nat}{Q:MV→List MO→Prop}{X:XT}{h:List MO}(hr:h[r]?=some (.list (ss.map .str)))(ten:ss.length=10)(gn:∀s∈ss,Gn s)(hN:11<N)
  (hq:∀h' i rows,h<+:h'→h'[i]?=some (.list (mvs rows))→Blk (·∈ss) 267 rows→Q (.ref i) h'):K N 125 [.scr is,.int 3,.int 53,.ref r] Q X h:=by
 obtain ⟨M,rfl,hM⟩:=room hN
 obtain ⟨M,rfl,hM⟩:=room hM
 refine hK _ _ _ _ _ _ iL rfl rfl ?_
 refine fh hK (by decide) ?_
 have ei:aJ (is.map MV.int) (some 3) (some 53)=(aJ is (some 3) (some 53)).map MV.int∧(aJ is (some 3) (some 53)).length≤50:=by
  unfold aJ
  dsimp only
  rw [List.length_map,iR (by decide),iR (by decide)]
  refine ⟨by rw [List.map_drop,List.map_take],?_⟩
  rw [List.length_drop,List.length_take]
  have e1:(3:Int).toNat=3:=rfl
  have e2:(53:Int).toNat=53:=rfl
  rw [e1,e2]
  rcases Nat.le_total 3 is.length with h | h
  ·rw [Nat.min_eq_left h];exact Nat.sub_le_sub_right (Nat.le_trans (Nat.min_le_left _ _) (Nat.min_le_left _ _)) 3
  ·exact Nat.le_trans (Nat.sub_le _ _) (Nat.le_trans (Nat.min_le_right _ _) (Nat.le_trans h (nb rfl)))
 obtain ⟨ei,el⟩:=ei
 conv=>whnf
 rw [ei]
 refine Ak hK (cells:=aJ is (some 3) (some 53)) (ac _ _) (ah hr) ten gn (Nat.le_trans el (nb rfl)) (Nat.le_trans (nb rfl) hM) fun h2 i rows p2 e2 g2 n2 l2=>?_
 have p2:h<+:h2:=(aa (ai _)).trans p2
 have B:Blk (·∈ss) 254 rows:=⟨g2,n2,Nat.le_trans l2 (Nat.add_le_add_left (Nat.mul_le_mul_left 5 el) 4)⟩
 have B':Blk (·∈ss) 267 rows:=⟨g2,n2,Nat.le_trans B.len (by decide)⟩
 have lr:=kf rows
 have more:∀{Q':Fl→MS→Prop},(∀h' i,h<+:h'→(∃rows,h'[i]?=some (.list (mvs rows))∧Blk (·∈ss) 267 rows)→∀vars,Q' (.ret (.ref i)) ⟨vars,h'⟩)→ax K (M+1) [.asg [6] false (.bin .add (.bin .add (.bin .fdiv (.var 4) (.cst (.int 4))) (.bin .mul (.cst (.int 1009)) (.bin .mod (.call 5 [.var 0,.cst (.int 0)]) (.bin .pow (.cst (.int 10)) (.cst (.int 6)))))) (.bin .mul (.cst (.int 31)) (.bin .mod (.call 5 [.var 0,.cst (.int 1)]) (.bin .pow (.cst (.int 10)) (.cst (.int 6)))))),.ret (.call 124 [.var 3,.var 5,.call 6 [.call 6 [.var 6]]])] Q' (fun c m=>X c m.heap) ⟨[some (.scr is),some (.int 3),some (.int 53),some (.ref r),some (.int (cell is 2)),some (.ref i),none],h2⟩:=fun {Q'} hq'=>by
  refine fh hK (by decide) ?_
  refine ⟨.inl (by unfold dt;decide),?_⟩
  refine fh hK (by decide) ?_
  refine ⟨.inl (by unfold dt;decide),?_⟩
  refine bL hK ?_
  refine bL hK ?_
  refine DV hK (ag p2 hr) ten e2 (Nat.le_trans (Nat.le_trans lr B.len) (nb rfl)) (Nat.le_trans (nb rfl) hM) B fun h3 i3 rows3 p3 e3 B3=>?_
  exact hq' h3 i3 (List.IsPrefix.trans p2 p3) ⟨rows3,e3,B3⟩ _
 have last:∀h' i,h<+:h'→(∃rows,h'[i]?=some (.list (mvs rows))∧Blk (·∈ss) 267 rows)→Q (.ref i) h':=fun h' i p ⟨rows,e,b⟩=>hq h' i rows p e b
 conv=>whnf
 cases (cell is 2 % 4==1) with
 | true=>exact more fun h' i p e _=>last h' i p e
 | false=>
  conv=>whnf
  cases (cell is 2 % 4==2) with
  | true=>exact more fun h' i p e _=>last h' i p e
  | false=>exact last h2 i p2 ⟨rows,e2,B'⟩
end Internal
end
section
namespace Internal
theorem Bn {p:Txt→Prop}{s:Txt}(h:p s):(Tm.nm s).gp p:=⟨h,Nat.zero_le _⟩
structure Zs (ss:List Txt)(n:Nat)(zs:List Rw):Prop where
 len:zs.length≤n
 fl:∀q∈zs,q.gp (·∈ss++zNs)∧q.subs=[]
theorem Zs.add {ss:List Txt}{n:Nat}{zs:List Rw}(h:Zs ss n zs){q:Rw}(hq:q.gp (·∈ss++zNs))(hs:q.subs=[]):Zs ss (n+1) (zs++[q]):=
 ⟨by rw [List.length_append];exact Nat.succ_le_succ h.len,fun r hr=>(List.mem_append.mp hr).elim (h.fl r) fun e=>by rw [List.mem_singleton.mp e];exact ⟨hq,hs⟩⟩
variable {K:KT}(hK:aK PP K)
include hK
theorem yo {r b:Nat}{ss:List Txt}{c:Int}{N:Nat}{bs:List Rw}{Q:MV→List MO→Prop}{X:XT}{h:List MO}(hr:h[r]?=some (.list (ss.map .str)))(ten:ss.length=10)(hb:h[b]?=some (.list (mvs bs)))(hN:1<N)
  (hq:∀h' i zs,h<+:h'→h'[i]?=some (.list (mvs (bs.take 6++zs)))→Zs ss 70 zs→Q (.ref i) h'):K N 122 [.ref r,.ref b,.int c] Q X h:=by
 obtain ⟨M,rfl,hM⟩:=room hN
 obtain ⟨M,rfl,hM⟩:=room hM
 have m0:0≤c % 20∧c % 20<20:=em rfl
 have s0:0≤c / 20 % 60∧c / 20 % 60<60:=em rfl
 have zz:∀{x:Int},zN (x % (1+c % 20))∈ss++zNs:=fun {x}=>List.mem_append_right _ (DR (Int.emod_nonneg _ (by lia)) (Int.lt_trans (Int.emod_lt_of_pos _ (z1 m0.1 (by simp +arith only))) (z1 m0.2 (by simp +arith only))))
 have zm:∀{x:Int},-1≤x % (1+c % 20)∧x % (1+c % 20)<60:=fun {x}=>⟨Int.le_trans (by decide) (Int.emod_nonneg _ (by lia)),Int.lt_trans (Int.emod_lt_of_pos _ (z1 m0.1 (by simp +arith only))) (z1 m0.2 (by simp +arith only))⟩
 have dm:decide (0<1+c % 20)=true:=decide_eq_true (z1 m0.1 (by simp +arith only))
 refine hK _ _ _ _ _ _ cQ rfl rfl ?_
 show ax K (M+1) (.asg [4] false (.call 109 [.var 0,.var 3,.bin .add (.cst (.int 1)) (.bin .mod (.bin .fdiv (.var 2) (.cst (.int 20))) (.cst (.int 60)))])::cQ.body.drop 2) (fin Q) (fun c m=>X c m.heap) ⟨[some (.ref r),some (.ref b),some (.int c),some (.int (1+c % 20)),none,none,none,none],h⟩
 refine jS ?_
 refine AD hK (many:=1+c % 20) (step:=1+c / 20 % 60) hr ten ⟨z1 m0.1 (by simp +arith only),z1 m0.2 (by simp +arith only)⟩ ⟨z1 s0.1 (by simp +arith only),z1 s0.2 (by simp +arith only)⟩ (Nat.succ_pos _) fun h1 i zs p1 l1 e1 ln1 z1=>?_
 have p1:h<+:h1:=p1
 have Z1:Zs ss 61 zs:=⟨ln1,fun q hq=>by
  obtain ⟨k,s,k0,k1,hs,rfl⟩:=z1 q hq
  refine ⟨⟨List.mem_append_right _ (DR k0 (z2 k1 m0.2 (by simp +arith only))),⟨.inl rfl,?_,jw (ss:=ss) (by decide) (by decide)⟩,Nat.succ_le_succ (Nat.zero_le _)⟩,rfl⟩
  rcases hs with hs | ⟨k',hk',rfl⟩
  ·exact List.mem_append_left _ hs
  ·exact List.mem_append_right _ (DR hk'.1 (z2 hk'.2 m0.2 (by simp +arith only)))⟩
 generalize 1+c % 20=many at *
 have b7:0≤c / 1200 % 7∧c / 1200 % 7<7:=em rfl
 show ax K (M+1) (cQ.body.drop 2) (fin Q) (fun c m=>X c m.heap) ⟨[some (.ref r),some (.ref b),some (.int c),some (.int many),some (.ref i),none,none,none],h1⟩
 refine aG (dS (k:=c / 1200 % 7) (by lia) (by lia)) ?_
 refine iO (fun j (c:Int) w5 hp zs=>⟨[some (.ref r),some (.ref b),some (.int c),some (.int many),some (.ref i),w5,none,none],hp⟩) (fun j c w5 hp (zs:List Rw)=>A3 (h<+:hp) (hp[i]?=some (.list (mvs zs))) (Zs ss (61+j) zs)) c none h1 zs rfl ⟨p1,e1,Z1⟩ (fun _ _ _ _ _ _=>trivial) (fun j x c w5 hp zs P hx hI hn _=>?_) (fun c w5 hp zs hI=>?_)
 ·obtain ⟨q1,q2,q3⟩:=hI
  obtain ⟨hj,rfl⟩:=fS hx
  have hj:j<7:=Nat.lt_trans hj (emN rfl)
  refine bL hK ?_
  refine ay (aA q2) ?_
  refine ay dm ?_
  refine ⟨⟨zm.1,Int.lt_trans zm.2 (by decide)⟩,?_⟩
  refine ⟨pP zm,?_⟩
  refine ay dm ?_
  refine ⟨⟨zm.1,Int.lt_trans zm.2 (by decide)⟩,?_⟩
  refine ⟨pP zm,?_⟩
  refine aY (aW q2) ?_
  refine ⟨by rw [bt];exact Nat.lt_of_le_of_lt q3.len (Nat.lt_of_lt_of_le (Nat.add_lt_add_left hj 61) (aI (nb rfl))),?_⟩
  refine hn (mix c) _ _ (zs++[.set (zN (mix c % many)) (.nm (zN (mix c / 20 % many)))]) ⟨aM q1 l1,?_,q3.add (q:=.set (zN (mix c % many)) (.nm (zN (mix c / 20 % many)))) ⟨zz,Bn zz⟩ rfl⟩
  rw [cz];exact get_set q2
 ·obtain ⟨q1,q2,q3⟩:=hI
  rw [jq] at q3
  have q3:Zs ss 68 zs:=⟨Nat.le_trans q3.len (Nat.add_le_add_left (Nat.le_of_lt (emN (n:=7) rfl)) 61),q3.fl⟩
  refine ay dm ?_
  refine ⟨⟨zm.1,Int.lt_trans zm.2 (by decide)⟩,?_⟩
  refine ⟨pP zm,?_⟩
  have e0:ss[0]?=some (ss[0]'(n1 (Nat.le_of_eq ten.symm) (by simp +arith only))):=bg (n1 (Nat.le_of_eq ten.symm) (by simp +arith only))
  refine af (ag q1 hr) (az (k:=0) (j:=0) (aL (by decide) (by rw [List.length_map,ten];decide)) (by rw [List.getElem?_map,e0];rfl) ?_)
  have m6:=List.mem_append_left zNs (List.mem_of_getElem? e0)
  generalize ss[0]'(by lia)=n0 at *
  have lz:=zz (x:=c / 400)
  generalize hla:c / 400 % many=la at *
  refine af (ah (ag q1 hb)) ?_
  refine af (ac _ _) (af (ah (ah q2)) ?_)
  have:=q3.len
  rw [bT (by decide),show (6:Int).toNat=6 from rfl,mh]
  have l6:=List.length_take_le 6 bs
  refine ⟨aI (by rw [bt,bt];exact n2 l6 this (by simp +arith only)),?_⟩
  rw [←cz]
  refine af (ah (ah (ac _ _))) ?_
  have c2:0≤c % 2∧c % 2<2:=em rfl
  have ps:aJ [(Rw.tell (.op 47 (.num 7) (.nm (zN la)))).mv,(Rw.set n0 (.nm (zN la))).mv] (some (c % 2)) none=mvs ([Rw.tell (.op 47 (.num 7) (.nm (zN la))),.set n0 (.nm (zN la))].drop (c % 2).toNat):=by
   rw [bv c2.1,←mi];rfl
  have Z2:Zs ss 70 (zs++[Rw.tell (.op 47 (.num 7) (.nm (zN la))),.set n0 (.nm (zN la))].drop (c % 2).toNat):=by
   refine ⟨by rw [List.length_append,List.length_drop];exact Nat.add_le_add this (Nat.sub_le 2 _),fun q hq=>(List.mem_append.mp hq).elim (q3.fl q) fun hq=>?_⟩
   rcases List.mem_cons.mp (List.mem_of_mem_drop hq) with rfl | hq
   ·exact ⟨⟨⟨.inr (.inr (.inr (.inr (.inr rfl)))),jw (ss:=ss) (by decide) (by decide),lz⟩,Nat.succ_le_succ (Nat.zero_le _)⟩,rfl⟩
   ·rw [List.mem_singleton.mp hq];exact ⟨⟨m6,Bn lz⟩,rfl⟩
  refine af (ah (ac _ _)) (af (ac _ _) ?_)
  have ld:(aJ [(Rw.tell (.op 47 (.num 7) (.nm (zN la)))).mv,(Rw.set n0 (.nm (zN la))).mv] (some (c % 2)) none).length≤2:=by rw [ps,bt,List.length_drop];exact Nat.sub_le _ _
  refine ⟨aI (Nat.le_trans (Nat.add_le_add (by rw [bt,List.length_append];exact Nat.add_le_add l6 this) ld) (nb rfl)),?_⟩
  refine hq _ _ (zs++[Rw.tell (.op 47 (.num 7) (.nm (zN la))),.set n0 (.nm (zN la))].drop (c % 2).toNat) (aa (aa (aa (aa (aa q1))))) ?_ Z2
  rw [←List.append_assoc,cz _ (List.drop _ _),←ps];exact ac _ _
end Internal
end
section
namespace Internal
variable {N:Nat}{Q:MV→List MO→Prop}{X:XT}{h:List MO}
theorem sG {f:Num→Option Txt}:∀{qs:List Num}{q:Num}{w:Txt},eD f qs=some (q,w)→q∈qs∧f q=some w
 | [],q,w,h=>aw h
 | q'::qs,q,w,h=>by
  have h:(match f q' with | some w=>some (q',w) | none=>eD f qs)=some (q,w):=h
  cases e:f q' with
  | some w'=>
   rw [e] at h
   cases Option.some.inj h
   exact ⟨.head _,e⟩
  | none=>
   rw [e] at h
   obtain ⟨h1,h2⟩:=sG h
   exact ⟨.tail _ h1,h2⟩
inductive LkV (A sec:List Txt)(qs:List Num)(h:List MO):MV→Prop
 | none (e:eD (gL A sec) qs=.none):LkV A sec qs h .none
 | some {q w i} (e:eD (gL A sec) qs=.some (q,w)) (hi:h[i]?=.some (.list ((fil sec (fwL q.2.1 q.2.2 w)).map .str))):LkV A sec qs h (.tup [.int q.1,.str w,.str (tgt q.2.1 w),.ref i])
theorem LkV.up {A sec:List Txt}{qs:List Num}{h h':List MO}{v:MV}(x:LkV A sec qs h v)(p:h<+:h'):LkV A sec qs h' v:=by
 cases x with
 | none e=>exact .none e
 | some e hi=>exact .some e (ag p hi)
inductive TdV (A B sec:List Txt)(fl:List Flw)(qs:List Num)(h:List MO):MV→Prop
 | none (e:eD (gL A sec) qs=.none):TdV A B sec fl qs h .none
 | some {q w j} (e:eD (gL A sec) qs=.some (q,w)) (C:Chn A B fl h q w j):TdV A B sec fl qs h (.tup [.str w,.ref j])
theorem pQ:∀{zs:List Rw},(∀q∈zs,q.subs=[])→(lns zs).length=zs.length
 | [],_=>rfl
 | r::zs,h=>by
  have h1:=pQ (zs:=zs) fun q hq=>h q (.tail _ hq)
  have h2:r.lines.length=1:=by
   have:=h r (.head _)
   cases r with
   | ite t a b=>cases this
   | wh t a=>cases this
   | _=>rfl
  show (r.lines++lns zs).length=zs.length+1
  rw [List.length_append,h1,h2,Nat.add_comm]
variable {K:KT}(hK:aK PP K)
include hK
theorem oo {rp ra rb ri:Nat}{A B sec:List Txt}{rows:List Rw}{us:List MV}{v t:MV}(L:eE h rp ra rb ri A B (nums 1 [] rows) us)(F:LF A B rows)(hsec:∀x,x∈sec↔Rch A B (bq (nums 1 [] rows)) x)(hsT:∀x∈sec,x∈aS (aN A B rows))
  (V:LkV A sec (nums 1 [] rows) h v) (T:TdV A B sec (bq (nums 1 [] rows)) (nums 1 [] rows) h t) (hN:8<N) (hq:∀h',h<+:h'→Q (.bool true) h'):K N 121 [.ref rp,.ref ri,t,v] Q X h:=by
 cases V with
 | none e=>
  cases T with
  | none _=>exact yi hK (n1 hN (by simp +arith only)) (hq h (ai _))
  | some e' C=>rw [e] at e';exact aw e'
 | @some q w i e hi=>
  cases T with
  | none e'=>rw [e] at e';exact pT e'
  | @some q' w' j e' C=>
   rw [e] at e'
   cases Option.some.inj e'
   obtain ⟨hm,hot⟩:=sG e
   have o:=F.nums _ hm
   have gt:=i7 o.good
   have hr:q.2.1≠.skip:=fun q'=>by
    obtain ⟨k,r,ab⟩:=q
    have q':r=.skip:=q'
    subst q'
    exact aw (show none=some w from hot)
   refine yj hK (n1 hN (by simp +arith only)) ?_
   refine ui hK L F hm hsec hsT C hr hi ?_ ?_ (Nat.lt_of_lt_of_le (nb rfl) (Nat.le_sub_one_of_lt hN)) hq
   ·refine Nat.lt_of_le_of_lt (List.length_filter_le ..) ?_
    have la:(ans q.2.2).length≤8 * 7:=Nat.le_trans (ja o.tg) (Nat.mul_le_mul_left 8 o.len)
    have l1:=Nat.le_trans (gH q.2.1.ft false) gt.lv
    have l2:=Nat.le_trans (cC q.2.1.ft) gt.lv
    unfold fwL
    cases w==bC with
    | true=>show (dvr q.2.1.ft false++ans q.2.2).length<_;rw [List.length_append];exact Nat.lt_of_le_of_lt (Nat.add_le_add l1 la) (nb rfl)
    | false=>show (an q.2.1.ft++ans q.2.2).length<_;rw [List.length_append];exact Nat.lt_of_le_of_lt (Nat.add_le_add l2 la) (nb rfl)
   ·have nil:okS ([]:Txt):=fun _ h=>aC h
    unfold tgt
    cases w==cW with
    | false=>exact nil
    | true=>
     obtain ⟨k,r,ab⟩:=q
     cases r with
     | set x t=>exact F.ok x (hX hm x t rfl)
     | _=>exact nil
section
variable {is:List Int}{h:List MO}{r rp ra rb ri ip:Nat}{ss A B sec:List Txt}{rows:List Rw}{us:List MV}{v2 v4:Option MV}(hr:h[r]?=some (.list (ss.map .str))) (ten:ss.length=10) (gn:∀s∈ss,Gn s) (L:eE h rp ra rb ri A B (nums 1 [] rows) us) (F:LF A B rows) (pr:bW h ip A B rows)
 (hsec:∀x,x∈sec↔Rch A B (bq (nums 1 [] rows)) x) (hsT:∀x∈sec,x∈aS (aN A B rows))
include hr ten gn L F pr hsec hsT
theorem Bo {v t:MV}(V:LkV A sec (nums 1 [] rows) h v)(ht:t=.none∨∃w j cs,t=.tup [.str w,.ref j]∧h[j]?=some (.list (cs++[.str [122,122]]))) :
  ax K 600 (cy.body.drop 11) (fin fun v _=>v=.bool true) (fun _ _=>False) ⟨[some (.scr is),some (.ref r),v2,some (.ref rp),v4,some (.ref ri),some (.inst 0 ip),some v,some t],h⟩:=by
 have e0:ss[0]?=some (ss[0]'(n1 (Nat.le_of_eq ten.symm) (by simp +arith only))):=bg (n1 (Nat.le_of_eq ten.symm) (by simp +arith only))
 have m0:=List.mem_of_getElem? e0
 have nd0:∀{P:MV→Prop},P (.str (ss[0]'(by lia)))→ci (ss.map MV.str) 0 P:=fun hP=>az (k:=0) (j:=0) (aL (by decide) (by rw [List.length_map,ten];decide)) (by rw [List.getElem?_map,e0];rfl) hP
 generalize ss[0]'(by lia)=n0 at *
 have g0:=gn n0 m0
 have F2:LF [n0] [] [.tell (.nm n0)]:=by
  have hall:∀s∈aS (aN [n0] [] [.tell (.nm n0)]),s=n0:=fun s hs=>by
   rcases List.mem_append.mp (aE.mp hs) with h | h
   ·exact List.mem_singleton.mp (show s∈[n0] from h)
   ·have h:s∈aS [n0]++[]:=h
    rw [List.append_nil] at h
    exact List.mem_singleton.mp (aE.mp h)
  refine ⟨fun s hs=>by rw [List.mem_singleton.mp (show s∈[n0] from hs)];exact g0,List.nodup_cons.mpr ⟨List.not_mem_nil,List.nodup_nil⟩,nb rfl,⟨⟨g0,Nat.zero_le _⟩,trivial⟩,nb rfl,nb rfl,Nat.lt_of_le_of_lt (iW (t:=[n0]) fun s hs=>List.mem_singleton.mpr (hall s (aE.mpr hs))) (nb rfl),fun s hs=>by rw [hall s hs];exact g0.1.ok,fun q hq=>?_⟩
  rw [List.mem_singleton.mp (show q∈[((1:Int),Rw.tell (.nm n0),([]:List Tm))] from hq)]
  exact Nat.lt_of_le_of_lt (fV _) (nb rfl)
 have no:∀x:Txt,x∈([]:List Txt)↔Rch [n0] [] (bq (nums 1 [] [.tell (.nm n0)])) x:=fun x=>⟨fun h=>aC h,fun r=>by
  induction r with
  | base h=>exact h
  | step _ _ _ _ ih=>exact aC ih⟩
 refine af hr (nd0 ?_)
 refine af (ah (ah hr)) (nd0 ?_)
 have hh:h<+:h++[MO.list [.str n0]]++[MO.list []]:=aa (aa (ai _))
 refine xC hK (h0:=h++[MO.list [.str n0]]++[MO.list []]) (l:=true) (l':=true) (l'':=false) (A:=[n0]) (B:=[]) (rows:=[.tell (.nm n0)]) ⟨_,Nat.zero_le _,rfl,ah (ac _ _)⟩ ⟨_,Nat.zero_le _,rfl,ac _ _⟩ ⟨_,rfl,gF _⟩ (fun s hs=>F2.gn s (List.mem_append_left _ hs)) (fun _ h=>aC h) F2.nd (nb rfl) F2.g F2.ne (nb rfl) (by decide) fun h1 p1 pr1=>?_
 have p1:h<+:h1:=hh.trans p1
 refine md hK F2 no pr1 (by decide) (fun h2 p2 _=>?_) fun h2 q w j p2 _ e _=>?_
 ·have pz:h<+:h2:=p1.trans p2
  have L2:=L.up pz
  have fin_:∀{h3 t3},h2<+:h3→TdV A B sec (bq (nums 1 [] rows)) (nums 1 [] rows) h3 t3→K 600 121 [.ref rp,.ref ri,t3,v] (fun v' h'=>cp (fun b m=>match b with
    | true=>oG K 600 [.or [.isN true (.var 8),.cmp .eq (.idx (.idx (.var 8) (.cst (.int 1))) (.neg (.cst (.int 1)))) (.cst (.str [122,122]))]] (fun v m=>v=.bool true) (fun _ _=>False) m
    | false=>MV.bool false=.bool true) v' ⟨[some (.scr is),some (.ref r),v2,some (.ref rp),v4,some (.ref ri),some (.inst 0 ip),some v,some t],h'⟩) (fun _ _=>False) h3:=fun {h3 t3} p3 T=>by
   refine oo hK (L2.up p3) F hsec hsT (V.up (pz.trans p3)) T (by decide) fun h4 p4=>?_
   rcases ht with rfl | ⟨w,j,cs,rfl,ej⟩
   ·rfl
   ·refine af (ag (pz.trans (p3.trans p4)) ej) ?_
    exact az (mf _ _) (ac _ _) rfl
  refine md hK F hsec (pr.up pz) (by decide) (fun h3 p3 e=>?_) fun h3 q w j p3 _ e C=>?_
  ·exact fin_ p3 (.none e)
  ·exact fin_ p3 (.some e C)
 ·have e:none=some (q,w):=e
  exact aw e
theorem Bp {v:MV}(V:LkV A sec (nums 1 [] rows) h v) :
  ax K 600 (cy.body.drop 8) (fin fun v _=>v=.bool true) (fun _ _=>False) ⟨[some (.scr is),some (.ref r),v2,some (.ref rp),v4,some (.ref ri),some (.inst 0 ip),some v,none],h⟩:=by
 refine md hK F hsec pr (by decide) (fun h1 p1 e=>?_) fun h1 q w j p1 l1 e C=>?_
 ·have p1:h<+:h1:=p1
  refine oo hK (L.up p1) F hsec hsT (V.up p1) (.none e) (by decide) fun h2 p2=>?_
  have p2:h<+:h2:=p1.trans p2
  exact Bo hK (ag p2 hr) ten gn (L.up p2) F (pr.up p2) hsec hsT (V.up p2) (.inl rfl)
 ·have p1:h<+:h1:=p1
  refine oo hK (L.up p1) F hsec hsT (V.up p1) (.some e C) (by decide) fun h2 p2=>?_
  obtain ⟨n,l,d,_,_,ld,_,fd,_,ej⟩:=C.ex
  have ej:=ag p2 ej
  refine ay (aA ej) (aY (aW ej) ?_)
  refine ⟨by rw [List.length_map,List.length_append,List.length_singleton,ld];exact Nat.lt_of_lt_of_le (Nat.succ_lt_succ (Nat.succ_lt_succ fd)) (aI (nb rfl)),?_⟩
  have p3:h<+:h2.set j (.list ((l++[(q.1,tgt q.2.1 w)]).map pM++[.str [122,122]])):=aM (p1.trans p2) l1
  exact Bo hK (ag p3 hr) ten gn (L.up p3) F (pr.up p3) hsec hsT (V.up p3) (.inr ⟨w,j,_,rfl,get_set ej⟩)
end
theorem E7 {is:List Int}{r rp ra rb ri ip:Nat}{ss A B:List Txt}{rows:List Rw}{us:List MV}{v2 v4:Option MV}(hr:h[r]?=some (.list (ss.map .str)))(ten:ss.length=10)(gn:∀s∈ss,Gn s)(L:eE h rp ra rb ri A B (nums 1 [] rows) us)(F:LF A B rows)(pr:bW h ip A B rows) :
  ax K 600 (cy.body.drop 7) (fin fun v _=>v=.bool true) (fun _ _=>False) ⟨[some (.scr is),some (.ref r),v2,some (.ref rp),v4,some (.ref ri),some (.inst 0 ip),none,none],h⟩:=by
 refine yb hK L F (by decide) fun h1 s sec p1 e1 hsec hsT hl=>?_
 have p1:h<+:h1:=p1
 refine ye hK (L.up p1) F e1 hsT (by decide) (fun h2 p2 e=>?_) fun h2 q w i p2 e hm ei=>?_
 ·have p2:h<+:h2:=p1.trans p2
  exact Bp hK (ag p2 hr) ten gn (L.up p2) F (pr.up p2) hsec hsT (.none e)
 ·have p2:h<+:h2:=p1.trans p2
  exact Bp hK (ag p2 hr) ten gn (L.up p2) F (pr.up p2) hsec hsT (.some e ei)
theorem E8 {is:List Int}{r rp ra rb b:Nat}{ss A B:List Txt}{rows:List Rw}{v2:Option MV}(hr:h[r]?=some (.list (ss.map .str)))(ten:ss.length=10)(gn:∀s∈ss,Gn s)(hp:h[rp]?=some (.list [.ref ra,.ref rb]))(hA:h[ra]?=some (.list (A.map .str)))(hB:h[rb]?=some (.list (B.map .str)))(hb:h[b]?=some (.list (mvs rows)))(F:LF A B rows)(hz:(lns rows).length≤1000) :
  ax K 600 (cy.body.drop 5) (fin fun v _=>v=.bool true) (fun _ _=>False) ⟨[some (.scr is),some (.ref r),v2,some (.ref rp),some (.ref b),none,none,none,none],h⟩:=by
 have p0:h<+:h++[MO.list []]++[MO.list []]:=aa (aa (ai _))
 have lb:b<h.length:=(List.getElem?_eq_some_iff.mp hb).1
 have l1:(h++[MO.list []]).length=h.length+1:=by rw [List.length_append];rfl
 refine xY hK rows (k:=1) (ab:=[]) (ar:=h.length) (i:=(h++[MO.list []]).length) (vs:=[]) (u:=.ref b) (g:=some (b,.list (mvs rows))) (aF (ag p0 hb)) (fun hp' k'=>k' _ _ (Nat.ne_of_lt (n2 (Nat.le_of_eq l1.symm) lb (by simp +arith only))) (ag p0 hb)) F.g (fun _ q=>aC q) (by show 0+_≤_;rw [Nat.zero_add];exact F.ne) (by show 0+_≤_;exact n1 F.sz (by simp +arith only)) (by have:=F.ne;exact n1 this (by simp +arith only)) (ah (ac _ _)) (by rw [l1];exact Nat.ne_of_lt (Nat.lt_succ_self _)) (ac _ _) fun h1 us k1 e2 a1=>?_
 have p1:h<+:h1:=by
  refine List.prefix_iff_eq_take.mpr (List.ext_getElem? fun j=>?_)
  rw [List.getElem?_take]
  rcases Nat.lt_or_ge j h.length with lt | ge
  ·rw [if_pos lt,bg lt]
   exact (k1 j _ (Nat.ne_of_lt (n2 lt (Nat.le_of_eq l1.symm) (by simp +arith only))) (ag p0 (bg lt))).symm
  ·rw [if_neg (Nat.not_lt.mpr ge),List.getElem?_eq_none ge]
 have L1:eE h1 rp ra rb (h++[MO.list []]).length A B (nums 1 [] rows) us:=⟨ag p1 hp,ag p1 hA,ag p1 hB,e2,a1⟩
 refine af L1.p ?_
 refine af L1.p ?_
 refine af (ag p1 hb) ?_
 refine xC hK (h0:=h1) (l:=true) (l':=true) (l'':=false) (A:=A) (B:=B) (rows:=rows) ⟨_,Nat.zero_le _,rfl,L1.a⟩ ⟨_,Nat.zero_le _,rfl,L1.b⟩ ⟨_,rfl,gF rows⟩ (fun s hs=>F.gn s (List.mem_append_left _ hs)) (fun s hs=>F.gn s (List.mem_append_right _ hs)) F.nd (Nat.le_trans F.len (nb rfl)) F.g F.ne (Nat.le_trans hz (nb rfl)) (by decide) fun h2 p2 pr=>?_
 have p2:h1<+:h2:=p2
 exact E7 hK (ag (p1.trans p2) hr) ten gn (L1.up p2) F pr
theorem DW (is:List Int):ax K 600 cy.body (fin fun v _=>v=.bool true) (fun _ _=>False) (cZ cy [.scr is] []):=by
 refine fh hK (by decide) ?_
 refine fh hK (by decide) ?_
 refine z7 hK fun h1 r ss hpre hlen hr ten hs hnd hkw=>?_
 have gn:∀s∈ss,Gn s:=fun s h=>⟨hs s h,hkw s h⟩
 refine fh hK (by decide) ?_
 refine bL hK ?_
 refine DK hK (h:=h1) (N:=600) hr (fun s h=>(hs s h).ok) (by decide) fun h2 i a b U V p2 e1 e2 e3 sU sV hno=>?_
 have p2:h1<+:h2:=p2
 refine fh hK (by decide) ?_
 refine bL hK ?_
 have lU:=sU.length_le
 have lV:=sV.length_le
 rw [x5] at lU lV
 refine Ax hK (h:=h2) (N:=600) (ag p2 hr) ten e1 e2 e3 lU lV (by decide) fun h3 rp ra rb A B A' B' p3 f1 f2 f3 pA pB sA sB=>?_
 have p3:h2<+:h3:=p3
 have r3:=ag (p2.trans p3) hr
 refine AH hK (h:=h3) (N:=600) r3 ten gn (by decide) fun h4 i4 rows p4 e4 Bk=>?_
 have p4:h3<+:h4:=p4
 have bl:=Bk.len
 have go:∀{bs zs:List Rw} {h5 b},h4<+:h5→h5[b]?=some (.list (mvs (bs++zs)))→Bks ss zNs bs zs→(lns (bs++zs)).length≤1000→ax K 600 (cy.body.drop 5) (fin fun v _=>v=.bool true) (fun _ _=>False) ⟨[some (.scr is),some (.ref r),some (.ref i),some (.ref rp),some (.ref b),none,none,none,none],h5⟩:=fun {bs zs h5 b} p5 e5 B5 l5=>E8 hK (ag (p4.trans p5) r3) ten gn (ag (p4.trans p5) f1) (ag (p4.trans p5) f2) (ag (p4.trans p5) f3) e5 (ul ten gn hnd sU sV hno pA pB sA sB E4 (by decide) B5) l5
 refine fh hK (by decide) ?_
 conv=>whnf
 cases (cell is 2 / 4 % 4==1) with
 | false=>
  have:=dp rows
  exact go (zs:=[]) (ai _) (by rw [List.append_nil];exact e4) ⟨Bk.gp,Bk.nest,by show av rows+0≤_;exact n2 this bl (by simp +arith only),fun _ h=>aC h⟩ (by rw [List.append_nil];exact Nat.le_trans bl (nb rfl))
 | true=>
  refine fh hK (by decide) ?_
  refine bL hK ?_
  refine yo hK (h:=h4) (ag p4 r3) ten e4 (by decide) fun h5 b zs p5 e5 Z=>?_
  have g:=Bk.gp
  have n:=Bk.nest
  rw [←List.take_append_drop 6 rows] at g n bl
  rw [df,List.length_append] at bl
  have s6:=dp (rows.take 6)
  have lz:=Z.len
  have fz:=pQ fun q hq=>(Z.fl q hq).2
  exact go p5 e5 ⟨(jb g).1,(eH n).1,n3 lz s6 bl (by simp +arith only),Z.fl⟩ (by rw [df,List.length_append];exact n3 (Nat.le_of_eq fz) lz bl (by simp +arith only))
end Internal
end
set_option tactic.hygienic true
set_option Elab.async false
set_option maxRecDepth 100000
set_option maxHeartbeats 8000000
open PySem PySem.W PyProof.Rows Internal
noncomputable def Internal.T10:gK:=⟨Internal.tab,Internal.mtab,[(0,"Program",["opens","secrets","rows"])],[],fun _=>false,Internal.gl⟩
theorem PySem.Challenge.cw_uf010009_10_holds : PySem.Challenge.rw_uf010009_10.Holds := by
 w_on
 refine holds_law E9 fun said=>?_
 refine holds_open (q:=Q10) (loose:=["MODULUS","THINGS"]) (Xt:=X10) (XP:=fun mg h=>XL Q10 D2 mg h∧eX [] mg h) (Yf:=mC "THINGS") (Ya:=oq uq) (YP:=jn "THINGS" uq Challenge.pw_uf010009_10) (N:=10000) BC (fun w s e=>EN (by unfold line;decide) (by decide +kernel) e) (fun w h h' y k=>y.keeps k)
  (fun s e=>⟨xl_of s (Bool.and_eq_true_iff.mp e).1,rfl⟩) (fun mg h h' y k=>⟨XL.keeps mg h h' y.1 k,y.2.keeps k⟩) (by rfl) (by rfl) (by rfl) (fun s e=>recFacts_of (Bool.and_eq_true_iff.mp e).2) (by rfl) said (by decide +kernel) ⟨rfl,rfl,rfl,rfl,rfl,by decide +kernel⟩ ?hw ?hc
 case hw=>w_witness2
 intro w s₀ s₁ mg mb G Y fa o pm cd doc dV kV ho hd hcd hD hmg hg args vals as hpre hlay hrd hwl hlo
 have V:=(Ground.X G).1
 have XF:=(Ground.X G).2
 have T:=G.T
 have B:=G.B
 have TE:=G.TE
 clear hd hcd hD
 wrow_args hpre hlay hrd hwl hlo
 rename Well _ _ _ _=>hW
 rename IntsAre _ _=>hI
 rename Heap.IsList _ _ _=>hL
 rename (¬ _<_)=>hc
 have hct:ph (plainsOf Q10 (looseW Q10 ["MODULUS","THINGS"])) T10=true:=by decide +kernel
 obtain ⟨cm,hcm⟩:=EP (t:=T10) TE hct
 refine xm (t:=T10) (prog:=PySem.Challenge.pw_uf010009_10) T TE XF hcm (f:=126) (x:="law") (d:=cy) ?zzimp ?zzchk ?zzmt hct ?zzblt ?zzhgl rfl hg rfl hmg rfl (Dm hW hL hI ?zzhz) (fun K hK=>DW hK _) ?zzhQ
 case zzimp=>decide +kernel
 case zzchk=>decide +kernel
 case zzmt=>decide +kernel
 case zzblt=>decide +kernel
 case zzhz=>unfold line;lia
 case zzhgl=>
  intro g x v e
  replace e:Internal.gl g=some (x,v):=e
  unfold Internal.gl at e
  split at e
  ·cases e
   obtain ⟨u,h1,h2⟩:=V.2.val _ (List.mem_cons_self ..)
   refine ⟨u,h1,fun ρ h' _=>?_⟩
   cases h2
   exact .int _ _
  ·cases e;exact xq B (by decide +kernel) (by unfold line;decide)
  ·cases e;exact xq B (by decide +kernel) (by unfold line;decide)
  ·cases e;exact xp T (by decide +kernel) (by unfold line;decide)
  ·cases e;exact xp T (by decide +kernel) (by unfold line;decide)
  ·cases e;exact qM T (by decide +kernel)
  ·cases e;exact qM T (by decide +kernel)
  ·cases e;exact qM T (by decide +kernel)
  ·cases e;exact zZ T Y
  ·cases e
 case zzhQ=>
  intro s' h1 h2 h3
  refine GoodW.toG ⟨.inl ⟨_,.bool true,[],rfl,?_,?_,?_,?_⟩,h1,h2,h3⟩
  ·exact fun _=>rfl
  ·exact .bool _
  ·exact tV _ _ _
  ·exact fun _=>⟨List.nodup_nil,fun _ h=>by cases h⟩
