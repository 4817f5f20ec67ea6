import PyProof.Rows.All
import PyProof.Rules
import PyProof.Raises
import PyProof.Rules2
import PyProof.AssignAttr
import PyProof.FactsSeq
import PyProof.FactsAll.list_3
import PyProof.FactsAll.dict_3
import PyProof.AttrMissHeap
import PyProof.TupleIter
import PyProof.AutoSeq1
import PyProof.Rules3
import PyProof.SliceSyntax
import PyProof.ForAny
import PyProof.CallRoads
import PyProof.CallType
import PyProof.CallStr
import PyProof.Cells
import PyProof.ConsumeWalk
import PyProof.StrLoop
import PyProof.StrWalks
import PyProof.CollectIter
import PyProof.CompFree
import PyProof.Conv_int
import PyProof.Conv_int_bool
import PyProof.MeetsSeq
import PyProof.DictKinds
import PyProof.MeetsDict
import PyProof.MeetsDictList
import PyProof.DictRoads
import PyProof.DictTruth
import PyProof.DictStraight
import PyProof.DictCopy
import PyProof.DictIter
import PyProof.EnumStmt
import PyProof.EqAt
import PyProof.P3Eq
import PyProof.NeData
import PyProof.ExcClass3
import PyProof.RaisesMany
import PyProof.FactsAll.set_1
import PyProof.StrLawsIn
import PyProof.SliceStr2
import PyProof.StrOps
import PyProof.StrBlock
import PyProof.StrLawsChain
import PyProof.WalksMore
import PyProof.RangeFor
import PyProof.InstStore
import PyProof.InstLoad
import PyProof.InstStoreFacts
import PyProof.IsiHeapPairs
import PyProof.IsiNone
import PyProof.IsiPairs
import PyProof.IsiSeqPairs
import PyProof.IsiTupleAll
import PyProof.ListCopy
import PyProof.ListIndexNeg
import PyProof.WalkInts
import PyProof.RulesAs
import PyProof.NsDelKeeps
import PyProof.ObjNew
import PyProof.Rows.TupAssign
import PyProof.Rows.TupSub
import PyProof.Rows.TupIn
import PyProof.Rows.StrMeet
import PyProof.WalksPairs
import PyProof.StrCalls2
import PyProof.Rows.StrSplitAre
import PyProof.Rows.Many
import PyProof.Rows.Exc
import PyProof.Rows.StrBin
import PyProof.Rows.AttrNode
import PyProof.Rows.RuleU_int
import PyProof.Rows.RuleB_mul
import PyProof.Rows.RuleB_sub
import PyProof.Rows.RuleB_pow
import PyProof.Rows.FactsT1
import PyProof.WalksEnum
import PyProof.Rows.RuleB_floordiv
import PyProof.Rows.RuleB_mod
import PyProof.StrCalls3
import PyProof.Rows.Method
import PyProof.Rows.StrTemp
import PyProof.Rows.RuleB_small
import PyProof.Rows.RuleC_int
import PyProof.TupleOps
import PyProof.Rows.TupMore
import PyProof.SliceMore
import PyProof.StrLawsTight
import PyProof.RulesDelMore
import PyProof.Rows.SeqMore
import PyProof.Rows.TupAdd
import PyProof.TupleOfSeq
import PyProof.Rows.ReprOcc
import PyProof.Rows.SortWalk
import PyProof.Rows.TmSorted
import PyProof.Rows.PlainObj
import PyProof.Rows.SortStr
import PyProof.SetRoads
import PyProof.Rows.SetFrom
import Wide.Well
import Wide.Loose
import Open.Row
import Open.Line
import Open.Boot
import Open.Tree
import KE.IntTextText
import KE.KDictOf
import PySem.Challenge.RW_uf010009_11
set_option Elab.async false
set_option genSizeOf false
set_option genInjectivity false
set_option bootstrap.genMatcherCode false
set_option autoImplicit false
set_option linter.unusedVariables false
set_option tactic.hygienic false
set_option backward.match.sparseCases false
section
namespace Internal
noncomputable def Ed:Bool:=false
noncomputable def qj:Bool:=false
noncomputable def AR:Bool:=true
noncomputable def AS:Bool:=false
noncomputable def AU:Bool:=false
noncomputable def Ee:Bool:=true
noncomputable def BA:Bool:=true
noncomputable def AV:Bool:=true
noncomputable def BB:Bool:=false
noncomputable def BC:Bool:=false
noncomputable def BD:Bool:=false
noncomputable def BE:Bool:=true
noncomputable def iI:Bool:=false
noncomputable def Ef:Bool:=false
noncomputable def yo:Bool:=false
noncomputable def ju:Bool:=false
noncomputable def AW:Bool:=false
end Internal
end
section
namespace Internal
open PySem
noncomputable abbrev str (s:List Nat):Str:=⟨s.toArray⟩
noncomputable def jv (e:DictEntry):Option (Int × Str × Int):=match e.key with
 | .str k _=>match e.val with
  | .int i _=>some (e.hash,k,i)
  | _=>none
 | _=>none
noncomputable def dz:List DictEntry→Option (List (Int × Str × Int))
 | []=>some []
 | e::es=>match jv e with
  | some x=>match dz es with
   | some xs=>some (x::xs)
   | none=>none
  | none=>none
noncomputable def mS (x:Str) (s:Shared):Option (List (Int × Str × Int)):=match s.heap.nsMap mainGlobals x with
 | some (.ref a)=>match s.heap.get? a with
  | some o=>match o.data with
   | .dict es _=>match (a != sysModules&&o.cls==.type "dict"&&o.dict.isNone&&o.slots.size==0&&s.heap.isNs mainGlobals) with
    | true=>dz es.toList
    | false=>none
   | _=>none
  | none=>none
 | _=>none
noncomputable def oS (es:List (List Nat × Int)) (w:World):Option (List (Int × Str × Int)):=some (es.map fun p=>(hashStr w (str p.1),str p.1,p.2))
end Internal
end
section
set_option maxRecDepth 100000
namespace Internal
open PySem PySem.W
noncomputable def km (tb:String→Option Builtin) (p:Program) (w:World) (n₀:Nat) (ann:Option Value):Nat→SharedT→Thread→Option SharedT
 | 0,_,_=>none
 | n+1,s,t=>match through t with
  | true=>some s
  | false=>match stepOk n₀ ann t with
   | false=>none
   | true=>match stepT (denote tb) p w s t with
    | some (s',t')=>km tb p w n₀ ann n s' t'
    | none=>none
theorem th {tb:String→Option Builtin}{p:Program}{w:World}{n₀:Nat}{ann:Option Value}{n:Nat}{s s':SharedT}{t:Thread}(h:km tb p w n₀ ann n s t=some s'):topRun tb p w n₀ ann n s.abs t=some s'.abs:=by
 induction n generalizing s t with
 | zero=>cases h
 | succ n ih=>
  unfold km at h
  unfold topRun
  cases he:through t with
  | true=>rw [he] at h;cases h;rfl
  | false=>
   rw [he] at h
   cases hk:stepOk n₀ ann t with
   | false=>rw [hk] at h;cases h
   | true=>
    rw [hk] at h
    cases hs:stepT (denote tb) p w s t with
    | none=>rw [hs] at h;cases h
    | some r=>obtain ⟨s₂,t₂⟩:=r;rw [hs] at h;rw [stepT_spec hs];exact ih h
noncomputable def uS:List Obj→Nat→BT→BT
 | [],_,t=>t
 | o::l,n,t=>uS l (n+1) (t.ins n o)
noncomputable def Eg (P:Params):BT:=uS (boot_heap P).objs.toList 0 .nil
noncomputable def sT (P:Params) (os:OsState):SharedT:=⟨Eg P,(boot_heap P).objs.size,(boot_heap P).life,Array.mk [],boot_drawn,boot_toks,os⟩
theorem BF (P:Params) (os:OsState):(sT P os).abs=⟨boot_heap P,Array.mk [],boot_drawn,boot_toks,os⟩:=by kernel_rfl
theorem yp (P:Params):(boot_heap P).isNs mainGlobals=true:=by kernel_rfl
noncomputable def qk (p:Program) (N:Nat) (w:World) (os:OsState):Option SharedT:=
 (km treeTable p w (boot_heap w.params).objs.size ((boot_heap w.params).nsMap mainGlobals "__annotations__") N (sT w.params os) (topStub p)).bind fun s₁=>
  match staticsOk (importedModules p.main.body) (boot_heap w.params) s₁.abs.heap&&namesBound p s₁.abs.heap&&gensDone s₁.abs&&laidKept (boot_heap w.params) s₁.abs.heap with
   | true=>some s₁
   | false=>none
theorem yq {p:Program}{N:Nat}{w:World}{os:OsState}{s₁:SharedT}(h:qk p N w os=some s₁):topFrom treeTable p w N ⟨boot_heap w.params,Array.mk [],boot_drawn,boot_toks,os⟩=some s₁.abs:=by
 obtain ⟨s,h1,h2⟩:=Option.bind_eq_some_iff.mp h
 have h1:=th h1
 rw [BF] at h1
 unfold topFrom
 show (match (boot_heap w.params).isNs mainGlobals&&true with
  | true=>(topRun treeTable p w (boot_heap w.params).objs.size ((boot_heap w.params).nsMap mainGlobals "__annotations__") N ⟨boot_heap w.params,Array.mk [],boot_drawn,boot_toks,os⟩ (topStub p)).bind _
  | false=>none)=_
 rw [yp,h1]
 show (match staticsOk (importedModules p.main.body) (boot_heap w.params) s.abs.heap&&namesBound p s.abs.heap&&gensDone s.abs&&laidKept (boot_heap w.params) s.abs.heap with
   | true=>some s.abs
   | false=>none)=_
 cases hb:(staticsOk (importedModules p.main.body) (boot_heap w.params) s.abs.heap&&namesBound p s.abs.heap&&gensDone s.abs&&laidKept (boot_heap w.params) s.abs.heap) with
 | true=>rw [hb] at h2;cases h2;rfl
 | false=>rw [hb] at h2;cases h2
theorem ti {p q:Program}{loose:List Str}{Xt:Shared→Bool}{N:Nat}{α:Type}{Yf:Shared→α}{Ya:World→α}(e:opening p=plainProg p.main.scope.names) (hN:Nat.ble 600 N=true) (f:∀s,fenceModules? p s=some s)
  (h:∀(w:World) (os:OsState),(qk p N w os).map (fun s=>(openSeen q loose (importedModules p.main.body) Xt true s.abs,Yf s.abs))=some (openGood q loose,Ya w)):LeftO p q loose Xt Yf Ya N:=fun w=>by
 obtain ⟨s₀,h0,hv⟩:=Option.map_eq_some_iff.mp (boot_open e hN f w)
 obtain ⟨hp,gens,drawn,toks,os⟩:=s₀
 obtain ⟨e1,hv⟩:=Prod.mk.inj hv
 obtain ⟨e2,hv⟩:=Prod.mk.inj hv
 obtain ⟨e3,e4⟩:=Prod.mk.inj hv
 dsimp only at e1 e2 e3 e4
 subst e1 e2 e3 e4
 obtain ⟨s₁,h1,h2⟩:=Option.map_eq_some_iff.mp (h w os)
 unfold openEnds
 rw [h0]
 show (topFrom treeTable p w N _).map _=_
 rw [yq h1]
 show some (openSeen q loose (importedModules p.main.body) Xt true s₁.abs,Yf s₁.abs)=some _
 rw [h2]
end Internal
end
section
set_option maxHeartbeats 0
set_option maxRecDepth 100000
set_option Elab.async false
namespace Internal
open PySem PySem.W PyProof.Rows
noncomputable def Q11:Program:=PySem.W.view Challenge.pw_uf010009_11 [1,2,3,4,5,6,7,9,10,11,12,13,14,15,16,17,18,19,20,21,22,23,24,25,26,28,29,30,31,32,33,34,35,36,37,38,39,41,42,43,44,46,47,48,49,50,51,52,53,55,56,57,58,59,60,61,62,63,64,65,66,67,68,69,70,71,72,73,74,75,76,77,78,79]
noncomputable def Eh:List (Str × WData):=[("MODULUS",WData.int 1000000)]
noncomputable def uT:List (List Nat × Int):=[([115,101,116],3),([116,101,108,108],2),([115,107,105,112],1),([105,102],4),([119,104,105,108,101],3)]
noncomputable def X11:Shared→Bool:=fun s=>xlAt Q11 Eh s&&recOk (RowW.records Challenge.rw_uf010009_11.row.toRowW) s
noncomputable abbrev hsa (s:SharedT):=(seen ((recsOf Q11).map (·.name)) (ownsOf Q11) [] { s.abs with gens:=#[] },s.abs.heap.bltView,(s.abs.heap.keysOk (looseW Q11 ["MODULUS","THINGS"]) ((recsOf Q11).map (·.name)) ((litsOf Q11).map (·.1)) ((clssOf Q11 (looseW Q11 ["MODULUS","THINGS"])).map (·.name))&&s.abs.heap.accountedOkI (importedModules Challenge.pw_uf010009_11.main.body)&&s.abs.heap.isNs mainGlobals&&s.abs.heap.isNs builtinsNs&&tablesOk Q11 s.abs.heap&&X11 s.abs&&(if true then s.abs.gens.size==0 else !leftWithCleanup s.abs.gens)),mS "THINGS" s.abs)
noncomputable abbrev hsb (s:SharedT):=(tabsOk Q11 s.abs,pinSeenD Q11 (drecsOf Q11) s.abs,plainSeenE Q11 (looseW Q11 ["MODULUS","THINGS"]) s.abs,plainSeenD Q11 ["MODULUS","THINGS"] s.abs,wideSeen Q11 s.abs,clsSeenW Q11 ["MODULUS","THINGS"] s.abs)
noncomputable abbrev hga (w:World):=(expectedOf Q11,bltViewBooted,true,oS uT w)
noncomputable abbrev hgb:=(true,pinGoodD (drecsOf Q11),plainGoodE Q11 (looseW Q11 ["MODULUS","THINGS"]),plainGoodD Q11 ["MODULUS","THINGS"],wideGood Q11,clsGoodW Q11 ["MODULUS","THINGS"])
theorem BG:∀(w:World) (os:OsState),(qk Challenge.pw_uf010009_11 10000 (w.withFollow "special-get-raises" false) os).map hsa=some (hga (w.withFollow "special-get-raises" false)):=by
 intro w os;kernel_rfl
theorem BH:∀(w:World) (os:OsState),(qk Challenge.pw_uf010009_11 10000 (w.withFollow "special-get-raises" false) os).map hsb=some hgb:=by
 intro w os;kernel_rfl
theorem BI:∀(w:World) (os:OsState),(qk Challenge.pw_uf010009_11 10000 (w.withFollow "special-get-raises" true) os).map hsa=some (hga (w.withFollow "special-get-raises" true)):=by
 intro w os;kernel_rfl
theorem BJ:∀(w:World) (os:OsState),(qk Challenge.pw_uf010009_11 10000 (w.withFollow "special-get-raises" true) os).map hsb=some hgb:=by
 intro w os;kernel_rfl
theorem AX {α β γ δ:Type _}{o:Option α}{f:α→β}{g:α→γ}{b:β}{c:γ}(h:o.map f=some b) (k:o.map g=some c) (F:β→γ→δ):o.map (fun s=>F (f s) (g s))=some (F b c):=by
 obtain ⟨s,rfl,rfl⟩:=Option.map_eq_some_iff.mp h
 cases k;rfl
theorem BK:opening Challenge.pw_uf010009_11=plainProg Challenge.pw_uf010009_11.main.scope.names:=by kernel_rfl
theorem yr (s:Shared):fenceModules? Challenge.pw_uf010009_11 s=some s:=by kernel_rfl
theorem BL:LeftO Challenge.pw_uf010009_11 Q11 ["MODULUS","THINGS"] X11 (mS "THINGS") (oS uT) 10000:=
 ti BK rfl yr (byRow2 "special-get-raises" (P:=fun w=>∀os:OsState,(qk Challenge.pw_uf010009_11 10000 w os).map (fun s=>(openSeen Q11 ["MODULUS","THINGS"] (importedModules Challenge.pw_uf010009_11.main.body) X11 true s.abs,mS "THINGS" s.abs))=some (openGood Q11 ["MODULUS","THINGS"],oS uT w))
  (fun w os=>AX (BG w os) (BH w os) fun x y=>((x.1,x.2.1,x.2.2.1,y),x.2.2.2)) fun w os=>AX (BI w os) (BJ w os) fun x y=>((x.1,x.2.1,x.2.2.1,y),x.2.2.2))
end Internal
end
section
namespace Internal
theorem same {α:Type _}{x:Option α}{a b:α}(h:x=some a) (k:x=some b):a=b:=Option.some.inj (h.symm.trans k)
theorem aO {α:Type _}{x:Option α}{a:α}{P:Prop}(h:x=none) (k:x=some a):P:=by cases h.symm.trans k
theorem aB {α:Type _}{a:α}{P:Prop}(h:none=some a):P:=by cases h
theorem im {α:Type _}{a:α}{P:Prop}(h:some a=none):P:=by cases h
theorem ff {P:Prop}(h:false=true):P:=Bool.noConfusion h
theorem tf {P:Prop}(h:true=false):P:=Bool.noConfusion h
theorem aX {α:Type _}{a:α}{P:Prop}(h:a∈([]:List α)):P:=(List.not_mem_nil h).elim
theorem n1 {a b c d:Nat}(h:a≤b) (e:c+b≤d+a):c≤d:=Nat.le_of_add_le_add_right (Nat.le_trans e (Nat.add_le_add_left h d))
theorem n2 {a b a' b' c d:Nat}(h:a≤b) (h':a'≤b') (e:c+(b+b')≤d+(a+a')):c≤d:=n1 (Nat.add_le_add h h') e
theorem n3 {a b a' b' a2 b2 c d:Nat}(h:a≤b) (h':a'≤b') (h2:a2≤b2) (e:c+(b+(b'+b2))≤d+(a+(a'+a2))):c≤d:=n2 h (Nat.add_le_add h' h2) e
theorem z1 {a b c d:Int}(h:a≤b) (e:c+b≤d+a):c≤d:=Int.le_of_add_le_add_right (Int.le_trans e (Int.add_le_add_left h d))
theorem z2 {a b a' b' c d:Int}(h:a≤b) (h':a'≤b') (e:c+(b+b')≤d+(a+a')):c≤d:=z1 (Int.add_le_add h h') e
theorem mx {a b c:Nat}(h:a≤c) (k:b≤c):max a b≤c:=Nat.max_le.mpr ⟨h,k⟩
theorem mx0 {a c:Nat}(h:a≤c):max a 0≤c:=mx h (Nat.zero_le _)
theorem m0x {a c:Nat}(h:a≤c):max 0 a≤c:=mx (Nat.zero_le _) h
theorem lk {a b c:Nat}(h:a≤b) (k:Nat.ble b c=true):a≤c:=Nat.le_trans h (Nat.le_of_ble_eq_true k)
theorem m3l {a b c N:Nat}(h:3 * max a b+c<N):3 * a+c<N:=Nat.lt_of_le_of_lt (Nat.add_le_add_right (Nat.mul_le_mul_left 3 (Nat.le_max_left a b)) c) h
theorem m3r {a b c N:Nat}(h:3 * max a b+c<N):3 * b+c<N:=Nat.lt_of_le_of_lt (Nat.add_le_add_right (Nat.mul_le_mul_left 3 (Nat.le_max_right a b)) c) h
theorem dn {d k:Int}{n:Nat}(h:d+n≤k):¬ k<d:=Int.not_lt.mpr (Int.le_trans (Int.le_add_of_nonneg_right (Int.natCast_nonneg _)) h)
theorem dl {d k:Int}{a b:Nat}(h:d+((max a b+1:Nat):Int)≤k):d+1+a≤k∧d+1+b≤k:=by lia
theorem nb {a b:Nat}(h:Nat.ble a b=true):a≤b:=Nat.le_of_ble_eq_true h
theorem nf {P:Prop}(h:1≤0):P:=absurd h (Nat.not_succ_le_self 0)
theorem em0 {x k:Int}(h:decide (0<k)=true):0≤x % k:=Int.emod_nonneg _ (Int.ne_of_gt (of_decide_eq_true h))
theorem em2 {x k K:Int}(h:(decide (0<k)&&decide (k≤K))=true):x % k<K:=by
 obtain ⟨h1,h2⟩:=Bool.and_eq_true_iff.mp h
 exact Int.lt_of_lt_of_le (Int.emod_lt_of_pos _ (of_decide_eq_true h1)) (of_decide_eq_true h2)
theorem em {x k K:Int}(h:(decide (0<k)&&decide (k≤K))=true):0≤x % k∧x % k<K:=⟨em0 (Bool.and_eq_true_iff.mp h).1,em2 h⟩
theorem emN {x k:Int}{n:Nat}(h:(decide (0<k)&&decide (k≤(n:Int)))=true):(x % k).toNat<n:=(Int.toNat_lt (em0 (Bool.and_eq_true_iff.mp h).1)).mpr (em2 h)
theorem sb {n k:Nat}(h:k≤n):n=n-k+k:=(Nat.sub_add_cancel h).symm
theorem kN {n:Nat}(h:0<n):(0:Int)<n:=Int.natCast_pos.mpr h
theorem cne {n:Nat}(h:0<n):(n:Int)≠0:=Int.ne_of_gt (kN h)
theorem tn {k:Int}{n:Nat}(h0:0≤k) (h:k<n):k.toNat<n:=(Int.toNat_lt h0).mpr h
set_option genCtorIdx false in
inductive MV where
 | none | bool (b:Bool) | int (i:Int) | str (s:List Nat) | tup (xs:List MV) | ref (i:Nat) | inst (c i:Nat) | scr (is:List Int) | gt (ss:List (List Nat)) | cdict (es:List (List Nat × Int))
gen_injective_theorems% MV
set_option genCtorIdx false in
inductive MO where
 | list (xs:List MV) | dict (es:List (List Nat × MV)) | attrs (es:List (List Nat × MV)) | exc (c:Nat)
gen_injective_theorems% MO
set_option genCtorIdx false in
structure MS where
 vars:List (Option MV)
 heap:List MO
set_option genCtorIdx false in
inductive Fl where
 | next | brk | cont | ret (v:MV)
gen_injective_theorems% Fl
noncomputable abbrev XT:=Nat→List MO→Prop
noncomputable abbrev XM:=Nat→MS→Prop
noncomputable abbrev KT:=Nat→Nat→List MV→(MV→List MO→Prop)→XT→List MO→Prop
set_option genCtorIdx false in
inductive Op where
 | add | sub | mul | fdiv | mod | pow (u:Unit:=())
gen_injective_theorems% Op
set_option genCtorIdx false in
inductive Cmp where
 | eq | ne | lt | le | gt | ge | inn | nin (u:Unit:=())
gen_injective_theorems% Cmp
set_option genCtorIdx false in
inductive Bi where
 | len | int | str | list | tuple | dict | sortedSet | sorted | sum | min | max | all | listRev (u:Unit:=())
gen_injective_theorems% Bi
set_option genCtorIdx false in
inductive Me where
 | append | extend | insert | pop | popAt | dpop | clear | dclear | count | index | find | split | join | get (u:Unit:=())
gen_injective_theorems% Me
set_option genCtorIdx false in
inductive TS where
 | int | bool | str | list | tuple | dict | cls (c:Nat) | valueError
gen_injective_theorems% TS
set_option genCtorIdx false in
inductive IK where
 | val | range1 | range2 | enum (u:Unit:=())
gen_injective_theorems% IK
set_option genCtorIdx false in
inductive ME where
 | cst (v:MV)
 | var (i:Nat)
 | glob (g:Nat) (v:MV)
 | bin (op:Op) (a b:ME)
 | neg (a:ME)
 | not (a:ME)
 | and (es:List ME)
 | or (es:List ME)
 | cmp (op:Cmp) (a b:ME)
 | cmp2 (op op':Cmp) (a b c:ME)
 | isN (pos:Bool) (a:ME)
 | call (f:Nat) (args:List ME)
 | blt (b:Bi) (args:List ME)
 | mth (k:Me) (o:ME) (args:List ME)
 | umth (c f:Nat) (x:List Nat) (o:ME) (args:List ME)
 | new (c f:Nat) (args:List ME)
 | attr (c:Nat) (o:ME) (x:List Nat)
 | idx (o i:ME)
 | sl (o:ME) (lo hi:Option ME)
 | list (es:List ME)
 | tup (es:List ME)
 | dict0
 | comp (elt:ME) (t:List Nat) (many:Bool) (k:IK) (src:List ME) (ifs:List ME)
 | isi (a:ME) (ts:List TS)
gen_injective_theorems% ME
set_option genCtorIdx false in
inductive MSt where
 | asg (t:List Nat) (many:Bool) (e:ME)
 | setAttr (c:Nat) (o:ME) (x:List Nat) (e:ME)
 | setIdx (o i e:ME)
 | expr (e:ME)
 | ite (c:ME) (a b:List MSt)
 | for_ (t:List Nat) (many:Bool) (k:IK) (src:List ME) (body:List MSt)
 | while_ (c:ME) (body:List MSt)
 | ret (e:ME)
 | cont
 | raise (c:Nat)
 | try_ (body:List MSt) (c:Nat) (v:Nat) (h:List MSt)
gen_injective_theorems% MSt
noncomputable def MS.set (m:MS) (i:Nat) (v:MV):MS:=⟨m.vars.set i (some v),m.heap⟩
noncomputable def MS.get (m:MS) (i:Nat):Option MV:=match m.vars[i]? with
 | some (some v)=>some v
 | _=>none
noncomputable def MS.unset (m:MS) (i:Nat):MS:=⟨m.vars.set i none,m.heap⟩
noncomputable def MS.push (m:MS) (o:MO):MS:=⟨m.vars,m.heap++[o]⟩
noncomputable def MS.put (m:MS) (i:Nat) (o:MO):MS:=⟨m.vars,m.heap.set i o⟩
noncomputable def dT (x:Int):Prop:=x.natAbs<2 ^ 63
noncomputable def line:Nat:=2 ^ 24
noncomputable abbrev PQ:=MV→MS→Prop
set_option genCtorIdx false in
inductive D where
 | none | bool (b:Bool) | int (i:Int) | str (s:List Nat) | list (xs:List D) | tup (xs:List D)
gen_injective_theorems% D
mutual
noncomputable def D.deq:D→D→Bool
 | .none,.none=>true
 | .bool a,.bool b=>a==b
 | .bool a,.int j=>(if a then 1 else 0)==j
 | .int i,.bool b=>i==(if b then 1 else 0)
 | .int i,.int j=>i==j
 | .str x,.str y=>x==y
 | .list xs,.list ys=>D.deqs xs ys
 | .tup xs,.tup ys=>D.deqs xs ys
 | _,_=>false
noncomputable def D.deqs:List D→List D→Bool
 | [],[]=>true
 | x::xs,y::ys=>D.deq x y&&D.deqs xs ys
 | _,_=>false
end
mutual
noncomputable def D.deep:D→Nat
 | .list xs | .tup xs=>D.deeps xs+1
 | _=>0
noncomputable def D.deeps:List D→Nat
 | []=>0
 | x::xs=>max (D.deep x) (D.deeps xs)
end
mutual
noncomputable def D.ok:D→Bool
 | .list xs | .tup xs=>D.oks xs
 | .str s=>s.all (fun c=>decide (c<55296))
 | _=>true
noncomputable def D.oks:List D→Bool
 | []=>true
 | x::xs=>D.ok x&&D.oks xs
end
mutual
inductive Rd (hp:List MO):MV→D→Prop
 | none:Rd hp .none .none
 | bool (b):Rd hp (.bool b) (.bool b)
 | int (i):Rd hp (.int i) (.int i)
 | str (s):Rd hp (.str s) (.str s)
 | tup {xs ds}:Rds hp xs ds→Rd hp (.tup xs) (.tup ds)
 | list {i xs ds}:hp[i]?=some (.list xs)→Rds hp xs ds→Rd hp (.ref i) (.list ds)
inductive Rds (hp:List MO):List MV→List D→Prop
 | nil:Rds hp [] []
 | cons {x xs d ds}:Rd hp x d→Rds hp xs ds→Rds hp (x::xs) (d::ds)
end
noncomputable def aeq:MV→MV→Option Bool
 | .none,.none=>some true
 | .bool a,.bool b=>some (a==b)
 | .int i,.int j=>some (i==j)
 | .str x,.str y=>some (x==y)
 | .none,.int _ | .none,.str _ | .none,.bool _ | .int _,.none | .int _,.str _ | .str _,.none | .str _,.int _ | .bool _,.none | .str _,.bool _ | .bool _,.str _=>some false
 | _,_=>none
inductive EqP (hp:List MO) (x y:MV) (Q:Bool→Prop):Prop
 | mk (d e:D) (hd:Rd hp x d) (he:Rd hp y e) (hk:d.deep≤1000) (h1:d.ok=true) (h2:e.ok=true) (hq:Q (d.deq e))
 | dicts (hu:Ed=true) (i j:Nat) (es:List (List Nat × MV)) (hx:x=.ref i) (hy:y=.ref j) (hi:hp[i]?=some (.dict es)) (hj:hp[j]?=some (.dict es)) (hl:∀e∈es,∃k,e.2=.int k) (hn:(es.map (·.1)).Nodup) (hq:Q true)
 | nil (i j:Nat) (xs:List MV) (hx:x=.ref i) (hy:y=.ref j) (hi:hp[i]?=some (.list xs)) (hj:hp[j]?=some (.list [])) (hq:Q xs.isEmpty)
inductive InP (hp:List MO) (x:MV) (ys:List MV) (Q:Bool→Prop):Prop
 | mk (d:D) (es:List D) (hd:Rd hp x d) (he:Rds hp ys es) (hk:d.deep≤1000) (h1:d.ok=true) (h2:D.oks es=true) (hq:Q (es.any (fun e=>e.deq d)))
noncomputable def aE:List (List Nat × MV)→List Nat→Option MV
 | [],_=>none
 | (k,v)::r,x=>match k==x with
  | true=>some v
  | false=>aE r x
noncomputable def bA:List (List Nat × MV)→List Nat→MV→List (List Nat × MV)
 | [],x,v=>[(x,v)]
 | (k,w)::r,x,v=>match k==x with
  | true=>(k,v)::r
  | false=>(k,w)::bA r x v
noncomputable def Ei:List (List Nat × MV)→List Nat→List (List Nat × MV)
 | [],_=>[]
 | (k,w)::r,x=>match k==x with
  | true=>r
  | false=>(k,w)::Ei r x
noncomputable def onS (x:MV) (f:List Nat→Prop):Prop:=match x with
 | .str s=>f s
 | _=>False
theorem kn {x:MV}{f:List Nat→Prop}(h:onS x f):∃s,x=.str s∧f s:=by
 cases x with
 | str s=>exact ⟨s,rfl,h⟩
 | _=>exact h.elim
noncomputable def onL (o:Option (Nat × List MV)) (f:Nat→List MV→Prop):Prop:=match o with
 | some (a,b)=>f a b
 | none=>False
noncomputable def on1 (vs:List MV) (f:MV→Prop):Prop:=match vs with
 | [v]=>f v
 | _=>False
noncomputable def onO {α:Type}(o:Option α) (f:α→Prop):Prop:=match o with
 | some a=>f a
 | none=>False
theorem ko {o:Option (Nat × List MV)}{f:Nat→List MV→Prop}(h:onL o f):∃r xs,o=some (r,xs)∧f r xs:=by
 cases o with
 | none=>exact h.elim
 | some q=>cases q;exact ⟨_,_,rfl,h⟩
theorem kp {vs:List MV}{f:MV→Prop}(h:on1 vs f):∃v,vs=[v]∧f v:=by
 cases vs with
 | nil=>exact h.elim
 | cons v r=>
  cases r with
  | nil=>exact ⟨v,rfl,h⟩
  | cons=>exact h.elim
theorem cj {α:Type}{o:Option α}{f:α→Prop}(h:onO o f):∃a,o=some a∧f a:=by
 cases o with
 | none=>exact h.elim
 | some a=>exact ⟨a,rfl,h⟩
noncomputable def onI (x:MV) (f:Int→Prop):Prop:=match x with
 | .int s=>f s
 | _=>False
noncomputable def on2 (vs:List MV) (f:MV→MV→Prop):Prop:=match vs with
 | [v,w]=>f v w
 | _=>False
noncomputable def onD (o:Option (Nat × List (List Nat × MV))) (f:Nat→List (List Nat × MV)→Prop):Prop:=match o with
 | some (a,b)=>f a b
 | none=>False
theorem yt {o:Option (Nat × List (List Nat × MV))}{f:Nat→List (List Nat × MV)→Prop}(h:onD o f):∃r xs,o=some (r,xs)∧f r xs:=by
 cases o with
 | none=>exact h.elim
 | some q=>cases q;exact ⟨_,_,rfl,h⟩
theorem nL {x:MV}{f:Int→Prop}(h:onI x f):∃s,x=.int s∧f s:=by
 cases x with
 | int s=>exact ⟨s,rfl,h⟩
 | _=>exact h.elim
theorem yu {vs:List MV}{f:MV→MV→Prop}(h:on2 vs f):∃v w,vs=[v,w]∧f v w:=by
 rcases vs with _ | ⟨v,_ | ⟨w,_ | ⟨u,r⟩⟩⟩
 ·exact h.elim
 ·exact h.elim
 ·exact ⟨v,w,rfl,h⟩
 ·exact h.elim
noncomputable def onN (y:List Nat) (f:Nat→Prop):Prop:=match y with
 | [a]=>f a
 | _=>False
theorem yw {y:List Nat}{f:Nat→Prop}(h:onN y f):∃a,y=[a]∧f a:=by
 cases y with
 | nil=>exact h.elim
 | cons a r=>
  cases r with
  | nil=>exact ⟨a,rfl,h⟩
  | cons=>exact h.elim
noncomputable def onT (b:Bool) (P:Prop):Prop:=match b with
 | true=>P
 | false=>False
theorem iJ {b:Bool}{P:Prop}(h:onT b P):b=true∧P:=by
 cases b with
 | true=>exact ⟨rfl,h⟩
 | false=>exact h.elim
noncomputable def onR (x:MV) (f:Nat→Prop):Prop:=match x with
 | .ref r=>f r
 | _=>False
theorem fb {x:MV}{f:Nat→Prop}(h:onR x f):∃r,x=.ref r∧f r:=by
 cases x with
 | ref r=>exact ⟨r,rfl,h⟩
 | _=>exact h.elim
noncomputable def jw (o:Option MO) (f:List MV→Prop):Prop:=match o with
 | some (.list xs)=>f xs
 | _=>False
theorem cD {o:Option MO}{f:List MV→Prop}(h:jw o f):∃xs,o=some (.list xs)∧f xs:=by
 cases o with
 | none=>exact h.elim
 | some o=>
  cases o with
  | list xs=>exact ⟨xs,rfl,h⟩
  | _=>exact h.elim
noncomputable def uU (o:Option MO) (f:List (List Nat × MV)→Prop):Prop:=match o with
 | some (.dict xs)=>f xs
 | _=>False
theorem oU {o:Option MO}{f:List (List Nat × MV)→Prop}(h:uU o f):∃xs,o=some (.dict xs)∧f xs:=by
 cases o with
 | none=>exact h.elim
 | some o=>
  cases o with
  | dict xs=>exact ⟨xs,rfl,h⟩
  | _=>exact h.elim
noncomputable def ql (o:Option MO) (f:List MV→Prop) (g:List (List Nat × MV)→Prop):Prop:=match o with
 | some (.list xs)=>f xs
 | some (.dict xs)=>g xs
 | _=>False
theorem iK {o:Option MO}{f:List MV→Prop}{g:List (List Nat × MV)→Prop}(h:ql o f g):(∃xs,o=some (.list xs)∧f xs)∨∃xs,o=some (.dict xs)∧g xs:=by
 cases o with
 | none=>exact h.elim
 | some o=>
  cases o with
  | list xs=>exact .inl ⟨xs,rfl,h⟩
  | dict xs=>exact .inr ⟨xs,rfl,h⟩
  | _=>exact h.elim
theorem az {o:Option MO}{f:List MV→Prop}{g:List (List Nat × MV)→Prop}{xs:List MV}(e:o=some (.list xs)) (h:f xs):ql o f g:=by rw [e];exact h
theorem eD {o:Option MO}{f:List MV→Prop}{g:List (List Nat × MV)→Prop}{xs:List (List Nat × MV)}(e:o=some (.dict xs)) (h:g xs):ql o f g:=by rw [e];exact h
noncomputable def Ej (vs:List MV) (f:MV→Prop) (g:MV→MV→Prop):Prop:=match vs with
 | [x]=>f x
 | [x,y]=>g x y
 | _=>False
theorem uV {vs:List MV}{f:MV→Prop}{g:MV→MV→Prop}(h:Ej vs f g):(∃x,vs=[x]∧f x)∨∃x y,vs=[x,y]∧g x y:=by
 rcases vs with _ | ⟨v,_ | ⟨w,_ | ⟨u,r⟩⟩⟩
 ·exact h.elim
 ·exact .inl ⟨v,rfl,h⟩
 ·exact .inr ⟨v,w,rfl,h⟩
 ·exact h.elim
noncomputable def AY (o:Option MO) (x:MV) (Q:Bool→Prop) (hp:List MO):Prop:=ql o (fun ys=>InP hp x ys Q) fun es=>onS x fun s=>Q (aE es s).isSome
noncomputable def cds (es:List (List Nat × Int)):List (List Nat × MV):=es.map fun p=>(p.1,.int p.2)
noncomputable def BM (x c:MV) (Q:Bool→Prop) (hp:List MO):Prop:=
 match c with
 | .tup ys=>InP hp x ys Q
 | .gt ss=>InP hp x (ss.map .str) Q
 | .ref i=>AY hp[i]? x Q hp
 | .cdict es=>onS x fun s=>Q (aE (cds es) s).isSome
 | .str s=>onS x fun y=>onN y fun a=>Q (s.contains a)
 | _=>False
noncomputable def eqB (o:Option Bool) (hp:List MO) (x y:MV) (Q:Bool→Prop):Prop:=match o with
 | some b=>Q b
 | none=>EqP hp x y Q
theorem rN {o:Option Bool}{hp:List MO}{x y:MV}{Q:Bool→Prop}(h:eqB o hp x y Q):(∃b,o=some b∧Q b)∨EqP hp x y Q:=by
 cases o with
 | some b=>exact .inl ⟨b,rfl,h⟩
 | none=>exact .inr h
noncomputable def jS (op:Cmp) (x y:MV) (Q:Bool→MS→Prop) (m:MS):Prop:=
 match op with
 | .eq=>eqB (aeq x y) m.heap x y (fun b=>Q b m)
 | .ne=>eqB (aeq x y) m.heap x y (fun b=>Q (!b) m)
 | .lt=>onI x fun i=>onI y fun j=>Q (decide (i<j)) m
 | .le=>onI x fun i=>onI y fun j=>Q (decide (i≤j)) m
 | .gt=>onI x fun i=>onI y fun j=>Q (decide (j<i)) m
 | .ge=>onI x fun i=>onI y fun j=>Q (decide (j≤i)) m
 | .inn=>BM x y (fun b=>Q b m) m.heap
 | .nin=>BM x y (fun b=>Q (!b) m) m.heap
noncomputable def uW (a b:MV) (Q:PQ) (m:MS):Prop:=match a with
 | .int x=>match b with
  | .int y=>Q (.int (x+y)) m
  | _=>False
 | .str x=>match b with
  | .str y=>x.length+y.length≤line∧Q (.str (x++y)) m
  | _=>False
 | .tup x=>match b with
  | .tup y=>x.length+y.length≤line∧Q (.tup (x++y)) m
  | _=>False
 | .ref i=>match b with
  | .ref j=>jw m.heap[i]? fun x=>jw m.heap[j]? fun y=>x.length+y.length≤line∧Q (.ref m.heap.length) (m.push (.list (x++y)))
  | _=>False
 | _=>False
noncomputable def nM (op:Op) (x y:Int) (Q:PQ) (m:MS):Prop:=match op with
 | .add=>Q (.int (x+y)) m
 | .sub=>Q (.int (x-y)) m
 | .mul=>(dT x∨dT y)∧Q (.int (x * y)) m
 | .fdiv=>onT (decide (0<y∧y<2 ^ 30)) (Q (.int (x / y)) m)
 | .mod=>onT (decide (0<y)) (Q (.int (x % y)) m)
 | .pow=>onT (decide (x=10∧(y=6∨y=9))) (Q (.int (x ^ y.toNat)) m)
noncomputable def kO (op:Op) (a b:MV) (Q:PQ) (m:MS):Prop:=onI a fun x=>onI b fun y=>nM op x y Q m
noncomputable def Ek (a:MV) (k:Int) (Q:PQ) (m:MS):Prop:=match a with
 | .str s=>qj=true∧((0≤k∧k≤1000)∧s.length≤1000)∧Q (.str (List.replicate k.toNat s).flatten) m
 | .ref i=>jw m.heap[i]? fun xs=>on1 xs fun v=>qj=true∧(0≤k∧k≤1000000)∧Q (.ref m.heap.length) (m.push (.list (List.replicate k.toNat v)))
 | _=>False
noncomputable def AZ (a b:MV) (Q:PQ) (m:MS):Prop:=match b with
 | .int y=>match a with
  | .int x=>nM .mul x y Q m
  | a=>Ek a y Q m
 | _=>False
noncomputable def A8 (op:Op) (a b:MV) (Q:PQ) (m:MS):Prop:=match op with
 | .add=>uW a b Q m
 | .sub=>kO .sub a b Q m
 | .mul=>AZ a b Q m
 | .fdiv=>kO .fdiv a b Q m
 | .mod=>kO .mod a b Q m
 | .pow=>kO .pow a b Q m
noncomputable def fc (k:Int) (n:Nat):Option Nat:=
 match decide (0≤k),decide (k<(n:Int)),decide (-(n:Int)≤k) with
 | true,true,_=>some k.toNat
 | false,_,true=>some (k+n).toNat
 | _,_,_=>none
noncomputable def tj (k:Int) (n:Nat):Nat:=
 match decide (0≤k) with
 | true=>min k.toNat n
 | false=>(k+n).toNat
noncomputable def aL {α:Type}(xs:List α) (lo hi:Option Int):List α:=
 let a:=match lo with
  | none=>0
  | some k=>tj k xs.length
 let b:=match hi with
  | none=>xs.length
  | some k=>tj k xs.length
 (xs.take b).drop a
noncomputable def cQ {α:Type}(xs:List α) (k:Int) (f:α→Prop):Prop:=onO (fc k xs.length) fun j=>onO xs[j]? f
theorem aS {α:Type}{xs:List α}{k:Int}{f:α→Prop}{j:Nat}{v:α}(h1:fc k xs.length=some j) (h2:xs[j]?=some v) (h:f v):cQ xs k f:=by
 unfold cQ;rw [h1]
 show onO xs[j]? f
 rw [h2];exact h
noncomputable def A9 (x i:MV) (Q:PQ) (m:MS):Prop:=
 match i with
 | .int k=>match x with
  | .tup xs=>cQ xs k fun v=>Q v m
  | .str s=>cQ s k fun c=>Q (.str [c]) m
  | .ref r=>jw m.heap[r]? fun xs=>cQ xs k fun v=>Q v m
  | .scr xs=>cQ xs k fun v=>Q (.int v) m
  | _=>False
 | .str s=>match x with
  | .ref r=>uU m.heap[r]? fun es=>onO (aE es s) fun v=>Q v m
  | .cdict es=>onO (aE (cds es) s) fun v=>Q v m
  | _=>False
 | _=>False
noncomputable def qm:Option MV→Option (Option Int)
 | none=>some none
 | some (.int k)=>some (some k)
 | some _=>none
noncomputable def Ba (x:MV) (lo hi:Option Int) (Q:PQ) (m:MS):Prop:=match x with
 | .str s=>Q (.str (aL s lo hi)) m
 | .tup xs=>onO lo fun k=>(AR=true∧hi=none∧1≤k∧1≤xs.length)∧Q (.tup (xs.drop k.toNat)) m
 | .scr xs=>Q (.ref m.heap.length) (m.push (.list (aL (xs.map .int) lo hi)))
 | .ref r=>jw m.heap[r]? fun xs=>Q (.ref m.heap.length) (m.push (.list (aL xs lo hi)))
 | _=>False
noncomputable def El (x:MV) (lo hi:Option MV) (Q:PQ) (m:MS):Prop:=onO (qm lo) fun lo=>onO (qm hi) fun hi=>Ba x lo hi Q m
noncomputable def slt:List Nat→List Nat→Bool
 | [],[]=>false
 | [],_::_=>true
 | _::_,[]=>false
 | a::x,b::y=>match decide (a<b),a==b with
  | true,_=>true
  | false,true=>slt x y
  | false,false=>false
noncomputable def qn (s:List Nat):List (List Nat)→List (List Nat)
 | []=>[s]
 | t::r=>match slt s t,s==t with
  | true,_=>s::t::r
  | false,true=>t::r
  | false,false=>t::qn s r
noncomputable def aC:List (List Nat)→List (List Nat)
 | []=>[]
 | s::r=>qn s (aC r)
noncomputable def b2i:Bool→Int
 | true=>1
 | false=>0
inductive Em (xs:List MV) (Q:List (List Nat)→Prop):Prop
 | mk (ss:List (List Nat)) (he:xs=ss.map .str) (hl:(aC ss).length<64) (hz:ss.length<4000) (hq:Q (aC ss))
inductive Fq (xs:List MV) (Q:Int→Prop):Prop
 | mk (is:List Int) (he:xs=is.map .int) (hb:∀i∈is,0≤i∧i≤1000000) (hl:is.length≤1000000) (hq:Q is.sum)
noncomputable def dec (k:Int):List Nat:=(toString k).toList.map Char.toNat
noncomputable def Bb (x:MV) (Q:PQ) (m:MS):Prop:=match x with
 | .tup xs=>Q (.int xs.length) m
 | .str xs=>Q (.int xs.length) m
 | .scr xs=>Q (.int xs.length) m
 | .ref r=>ql m.heap[r]? (fun xs=>Q (.int xs.length) m) fun xs=>Q (.int xs.length) m
 | _=>False
noncomputable def oV (x:MV) (Q:PQ) (m:MS):Prop:=match x with
 | .ref r=>ql m.heap[r]? (fun xs=>Q (.ref m.heap.length) (m.push (.list xs))) fun es=>AU=true∧Q (.ref m.heap.length) (m.push (.list (es.map fun p=>.str p.1)))
 | .tup xs=>Q (.ref m.heap.length) (m.push (.list xs))
 | _=>False
inductive uX (xs:List MV) (Q:List (List Nat × MV)→Prop):Prop
 | mk (hu:Ee=true) (es:List (List Nat × MV)) (he:xs=es.map fun p=>.tup [.str p.1,p.2]) (hn:(es.map (·.1)).Nodup) (hl:es.length<1000000) (hq:Q es)
inductive qo (xs:List MV) (Q:List Bool→Prop):Prop
 | mk (bs:List Bool) (he:xs=bs.map .bool) (hl:bs.length<1000000) (hq:Q bs)
noncomputable def fJ (b:Bi) (x:MV) (Q:PQ) (m:MS):Prop:=match b with
 | .len=>Bb x Q m
 | .int=>match x with
  | .bool b=>Q (.int (b2i b)) m
  | .str s=>AW=true∧∃k:Int,s=dec k∧(0≤k∧k<1000000)∧Q (.int k) m
  | _=>False
 | .str=>match x with
  | .str s=>Q (.str s) m
  | .int k=>(0≤k∧k<1000000)∧Q (.str (dec k)) m
  | _=>False
 | .list=>oV x Q m
 | .tuple=>onR x fun r=>jw m.heap[r]? fun xs=>Q (.tup xs) m
 | .dict=>onR x fun r=>ql m.heap[r]? (fun xs=>uX xs fun es=>Q (.ref m.heap.length) (m.push (.dict es))) fun es=>Q (.ref m.heap.length) (m.push (.dict es))
 | .sum=>onR x fun r=>jw m.heap[r]? fun xs=>Fq xs fun k=>Q (.int k) m
 | .all=>onR x fun r=>jw m.heap[r]? fun xs=>qo xs fun bs=>Q (.bool (bs.all id)) m
 | .listRev=>onR x fun r=>jw m.heap[r]? fun xs=>Q (.ref m.heap.length) (m.push (.list xs.reverse))
 | .sorted=>onR x fun r=>uU m.heap[r]? fun es=>(es.map (·.1)).Nodup∧es.length<64∧Q (.ref m.heap.length) (m.push (.list ((aC (es.map (·.1))).map .str)))
 | .sortedSet=>onR x fun r=>jw m.heap[r]? fun xs=>Em xs (fun ss=>Q (.ref m.heap.length) (m.push (.list (ss.map .str))))
 | _=>False
noncomputable def qp (b:Bi) (x y:Int) (Q:PQ) (m:MS):Prop:=match b with
 | .min=>Q (.int (min x y)) m
 | .max=>Q (.int (max x y)) m
 | _=>False
noncomputable def BN (b:Bi) (x y:MV) (Q:PQ) (m:MS):Prop:=onI x fun i=>onI y fun j=>qp b i j Q m
noncomputable def mT (b:Bi) (vs:List MV) (Q:PQ) (m:MS):Prop:=Ej vs (fun x=>fJ b x Q m) fun x y=>BN b x y Q m
noncomputable def tq (r:Nat) (o:Option MO):Option (Nat × List MV):=match o with
 | some (.list xs)=>some (r,xs)
 | _=>none
noncomputable def lst (o:MV) (hp:List MO):Option (Nat × List MV):=match o with
 | .ref r=>tq r hp[r]?
 | _=>none
theorem yx {x:MV}{hp:List MO}{r:Nat}{xs:List MV}(h:lst x hp=some (r,xs)):x=.ref r∧hp[r]?=some (.list xs):=by
 cases x with
 | ref i=>
  replace h:tq i hp[i]?=some (r,xs):=h
  cases e:hp[i]? with
  | none=>rw [e] at h;exact aB h
  | some o=>
   rw [e] at h
   cases o with
   | list ys=>cases h;exact ⟨rfl,e⟩
   | _=>exact aB h
 | _=>exact aB h
noncomputable def yy (c:Nat):List (List Nat)→List Nat
 | []=>[]
 | [w]=>w
 | w::r=>w++c::yy c r
noncomputable def yz (r:Nat) (o:Option MO):Option (Nat × List (List Nat × MV)):=match o with
 | some (.dict xs)=>some (r,xs)
 | _=>none
noncomputable def dct (o:MV) (hp:List MO):Option (Nat × List (List Nat × MV)):=match o with
 | .ref r=>yz r hp[r]?
 | _=>none
theorem yA {x:MV}{hp:List MO}{r:Nat}{xs:List (List Nat × MV)}(h:dct x hp=some (r,xs)):x=.ref r∧hp[r]?=some (.dict xs):=by
 cases x with
 | ref i=>
  replace h:yz i hp[i]?=some (r,xs):=h
  cases e:hp[i]? with
  | none=>rw [e] at h;exact aB h
  | some o=>
   rw [e] at h
   cases o with
   | dict ys=>cases h;exact ⟨rfl,e⟩
   | _=>exact aB h
 | _=>exact aB h
noncomputable def rO:MV→Prop
 | .bool true=>True
 | _=>False
noncomputable def cY (k:Me) (o:MV) (vs:List MV) (Q:PQ) (m:MS):Prop:=match k with
 | .append=>onL (lst o m.heap) fun r xs=>on1 vs fun v=>xs.length<line∧Q .none (m.put r (.list (xs++[v])))
 | .extend=>onL (lst o m.heap) fun r xs=>on1 vs fun v=>onL (lst v m.heap) fun _ ys=>xs.length+ys.length≤line∧Q .none (m.put r (.list (xs++ys)))
 | .pop=>BE=true∧onL (lst o m.heap) fun r xs=>vs=[]∧onO xs[xs.length-1]? fun v=>Q v (m.put r (.list xs.dropLast))
 | .popAt=>onL (lst o m.heap) fun r xs=>on1 vs fun v=>onI v fun k=>(0≤k∧k<xs.length)∧onO xs[k.toNat]? fun v=>Q v (m.put r (.list (xs.eraseIdx k.toNat)))
 | .insert=>onL (lst o m.heap) fun r xs=>on2 vs fun v w=>onI v fun k=>((0≤k∧k≤xs.length)∧xs.length<line)∧Q .none (m.put r (.list (xs.take k.toNat++w::xs.drop k.toNat)))
 | .clear=>onL (lst o m.heap) fun r _=>vs=[]∧Q .none (m.put r (.list []))
 | .count=>ju=true∧onL (lst o m.heap) fun _ xs=>on1 vs fun v=>rO v∧qo xs fun bs=>Q (.int (bs.count true)) m
 | .index=>onL (lst o m.heap) fun _ xs=>on1 vs fun v=>rO v∧qo xs fun bs=>true∈bs∧Q (.int (bs.idxOf true)) m
 | .dpop=>ju=true∧onD (dct o m.heap) fun r es=>on1 vs fun v=>onS v fun s=>onO (aE es s) fun w=>Q w (m.put r (.dict (Ei es s)))
 | .dclear=>ju=true∧onD (dct o m.heap) fun r _=>vs=[]∧Q .none (m.put r (.dict []))
 | .get=>onD (dct o m.heap) fun _ es=>on2 vs fun v d=>onS v fun s=>Q ((aE es s).getD d) m
 | .join=>iI=true∧onS o fun s=>on1 vs fun v=>onL (lst v m.heap) fun _ xs=>∃c ws,(s=[c]∧xs=ws.map .str)∧(yy c ws).length≤1000000∧Q (.str (yy c ws)) m
 | .find=>on1 vs fun v=>onS v fun _=>∀k:Int,-1≤k→Q (.int k) m
 | .split=>iI=true∧onS o fun s=>on1 vs fun v=>onS v fun y=>∃c,y=[c]∧s.length<1000000∧∀ws:List (List Nat),ws≠[]→(∀w∈ws,c∉w)→yy c ws=s→Q (.ref m.heap.length) (m.push (.list (ws.map .str)))
set_option genCtorIdx false in
inductive MK where
 | list | dict | str (u:Unit:=())
gen_injective_theorems% MK
noncomputable def meK:Me→MK
 | .dpop=>.dict
 | .dclear=>.dict
 | .get=>.dict
 | .join=>.str
 | .find=>.str
 | .split=>.str
 | _=>.list
noncomputable def uY:MV→Bool
 | .str _=>true
 | _=>false
theorem qq {x:MV}(h:uY x=true):∃y,x=.str y:=by
 cases x with
 | str y=>exact ⟨y,rfl⟩
 | _=>exact ff h
noncomputable def kP (k:Me) (x:MV) (hp:List MO):Bool:=match meK k with
 | .list=>(lst x hp).isSome
 | .dict=>(dct x hp).isSome
 | .str=>uY x
set_option genCtorIdx false in
inductive Kd where
 | none | bool | int | str | tuple | list | dict | exc (c:Nat)
gen_injective_theorems% Kd
noncomputable def nob:TS→Option Bool
 | .cls _=>Option.none
 | .valueError=>Option.none
 | _=>some false
noncomputable def tr (k:Kd) (t:TS):Option Bool:=match k with
 | .none=>nob t
 | .bool=>match t with
  | .bool=>some true
  | .int=>some true
  | t=>nob t
 | .int=>match t with
  | .int=>some true
  | t=>nob t
 | .str=>match t with
  | .str=>some true
  | t=>nob t
 | .tuple=>match t with
  | .tuple=>some true
  | t=>nob t
 | .list=>match t with
  | .list=>some true
  | t=>nob t
 | .dict=>match t with
  | .dict=>some true
  | t=>nob t
 | .exc c=>match t with
  | .cls d=>some (c==d||d==0)
  | .valueError=>some true
  | _=>Option.none
noncomputable def kdO:Option MO→Option Kd
 | some (.list _)=>some .list
 | some (.dict _)=>some .dict
 | some (.exc c)=>some (.exc c)
 | _=>none
noncomputable def uZ (hp:List MO):MV→Option Kd
 | .none=>some .none
 | .bool _=>some .bool
 | .int _=>some .int
 | .str _=>some .str
 | .tup _=>some .tuple
 | .ref r=>kdO hp[r]?
 | _=>none
noncomputable def kdT (o:Option Kd) (t:TS):Option Bool:=match o with
 | some k=>tr k t
 | none=>none
theorem kq {o:Option Kd}{t:TS}{b:Bool}(h:kdT o t=some b):∃k,o=some k∧tr k t=some b:=by
 cases o with
 | none=>exact aB h
 | some k=>exact ⟨k,rfl,h⟩
noncomputable def tyO (o:Option MO) (t:TS):Option Bool:=kdT (kdO o) t
noncomputable def jx (hp:List MO) (x:MV) (t:TS):Option Bool:=kdT (uZ hp x) t
noncomputable abbrev Its:=Option (List MV × Option (Nat × List MV))
noncomputable def Bc (hp:List MO) (x:MV):Its:=match x with
 | .ref r=>match hp[r]? with
  | some (.list xs)=>some (xs,some (r,xs))
  | _=>none
 | .tup xs=>some (xs,none)
 | .str s=>match s.all (fun c=>decide (c<128)) with
  | true=>some (s.map (fun c=>.str [c]),none)
  | false=>none
 | _=>none
noncomputable def BO (x:MV):Its:=match x with
 | .int n=>match decide (-16777216≤n∧n≤16777216) with
  | true=>some ((List.range n.toNat).map (fun (i:Nat)=>.int i),none)
  | false=>none
 | _=>none
noncomputable def Fs (x y:MV):Its:=match x with
 | .int a=>match y with
  | .int b=>match decide ((0≤a∧a≤16777216)∧0≤b∧b≤16777216) with
   | true=>some ((List.range (b-a).toNat).map (fun (i:Nat)=>.int (a+i)),none)
   | false=>none
  | _=>none
 | _=>none
noncomputable def qr (hp:List MO) (x:MV):Its:=match x with
 | .ref r=>match hp[r]? with
  | some (.list xs)=>some (xs.zipIdx.map (fun p=>.tup [.int p.2,p.1]),some (r,xs))
  | _=>none
 | _=>none
noncomputable def En (x y:MV):Its:=match Ef with
 | true=>Fs x y
 | false=>none
noncomputable def d9 (k:IK) (vs:List MV) (hp:List MO):Its:=
 match vs with
 | [x]=>match k with
  | .val=>Bc hp x
  | .range1=>BO x
  | .enum=>qr hp x
  | .range2=>none
 | [x,y]=>match k with
  | .range2=>En x y
  | _=>none
 | _=>none
noncomputable def u0 (o:Its) (f:List MV→Option (Nat × List MV)→Prop):Prop:=match o with
 | some (a,b)=>f a b
 | none=>False
theorem oW {o:Its}{f:List MV→Option (Nat × List MV)→Prop}(h:u0 o f):∃items g,o=some (items,g)∧f items g:=by
 cases o with
 | none=>exact h.elim
 | some q=>cases q;exact ⟨_,_,rfl,h⟩
theorem aM {o:Its}{f:List MV→Option (Nat × List MV)→Prop}{items:List MV}{g:Option (Nat × List MV)}(e:o=some (items,g)) (h:f items g):u0 o f:=by rw [e];exact h
theorem aw {b:Bool}{P:Prop}(e:b=true) (h:P):onT b P:=by rw [e];exact h
theorem bf {o:Option (Nat × List MV)}{f:Nat→List MV→Prop}{r:Nat}{xs:List MV}(e:o=some (r,xs)) (h:f r xs):onL o f:=by rw [e];exact h
theorem BP {o:Option (Nat × List (List Nat × MV))}{f:Nat→List (List Nat × MV)→Prop}{r:Nat}{xs:List (List Nat × MV)}(e:o=some (r,xs)) (h:f r xs):onD o f:=by rw [e];exact h
theorem af {o:Option MO}{f:List MV→Prop}{xs:List MV}(e:o=some (.list xs)) (h:f xs):jw o f:=by rw [e];exact h
theorem bw {o:Option MO}{f:List (List Nat × MV)→Prop}{xs:List (List Nat × MV)}(e:o=some (.dict xs)) (h:f xs):uU o f:=by rw [e];exact h
theorem bN {α:Type}{o:Option α}{f:α→Prop}{a:α}(e:o=some a) (h:f a):onO o f:=by rw [e];exact h
noncomputable def aW (g:Option (Nat × List MV)) (hp:List MO):Prop:=match g with
 | none=>True
 | some (r,xs)=>hp[r]?=some (.list xs)
noncomputable def kQ (t:List Nat) (xs:List MV) (m:MS):MS:=match t,xs with
 | i::t,x::xs=>kQ t xs (m.set i x)
 | _,_=>m
noncomputable def asg (t:List Nat) (many:Bool) (v:MV) (Q:MS→Prop) (m:MS):Prop:=
 match many,t,v with
 | false,[i],v=>Q (m.set i v)
 | true,t,.tup xs=>t.length=xs.length∧Q (kQ t xs m)
 | _,_,_=>False
noncomputable def u1 (g:Option (Nat × List MV)) (step:MV→(Fl→MS→Prop)→MS→Prop) (Q:Fl→MS→Prop):List MV→MS→Prop
 | [],m=>aW g m.heap∧Q .next m
 | v::vs,m=>aW g m.heap∧step v (fun f m=>match f with
  | .next=>u1 g step Q vs m
  | .cont=>u1 g step Q vs m
  | .brk=>Q .next m
  | .ret r=>Q (.ret r) m) m
@[irreducible] noncomputable def dA (g:Option (Nat × List MV)) (step:MV→(Fl→MS→Prop)→MS→Prop) (Q:Fl→MS→Prop):List MV→MS→Prop:=u1 g step Q
noncomputable def qt (g:Option (Nat × List MV)) (step:MV→(Option MV→MS→Prop)→MS→Prop) (Q:List MV→MS→Prop):List MV→List MV→MS→Prop
 | [],acc,m=>aW g m.heap∧Q acc m
 | v::vs,acc,m=>aW g m.heap∧step v (fun r m=>match r with
  | some x=>qt g step Q vs (acc++[x]) m
  | none=>qt g step Q vs acc m) m
@[irreducible] noncomputable def cZ (g:Option (Nat × List MV)) (step:MV→(Option MV→MS→Prop)→MS→Prop) (Q:List MV→MS→Prop):List MV→List MV→MS→Prop:=qt g step Q
noncomputable def nN (c:(Bool→MS→Prop)→MS→Prop) (b:(Fl→MS→Prop)→MS→Prop) (Q:Fl→MS→Prop):Nat→MS→Prop
 | 0,_=>False
 | k+1,m=>c (fun t m=>match t with
  | true=>b (fun f m=>match f with
   | .next=>nN c b Q k m
   | .cont=>nN c b Q k m
   | .brk=>Q .next m
   | .ret r=>Q (.ret r) m) m
  | false=>Q .next m) m
@[irreducible] noncomputable def bS (c:(Bool→MS→Prop)→MS→Prop) (b:(Fl→MS→Prop)→MS→Prop) (Q:Fl→MS→Prop):Nat→MS→Prop:=nN c b Q
theorem kR {g:Option (Nat × List MV)}{step:MV→(Fl→MS→Prop)→MS→Prop}{Q:Fl→MS→Prop}{m:MS}:dA g step Q [] m=(aW g m.heap∧Q .next m):=by unfold dA;rfl
theorem gA {g:Option (Nat × List MV)}{step:MV→(Fl→MS→Prop)→MS→Prop}{Q:Fl→MS→Prop}{v:MV}{vs:List MV}{m:MS}:dA g step Q (v::vs) m=(aW g m.heap∧step v (fun f m=>match f with
  | .next=>dA g step Q vs m
  | .cont=>dA g step Q vs m
  | .brk=>Q .next m
  | .ret r=>Q (.ret r) m) m):=by unfold dA;rfl
theorem jy {g:Option (Nat × List MV)}{step:MV→(Option MV→MS→Prop)→MS→Prop}{Q:List MV→MS→Prop}{acc:List MV}{m:MS}:cZ g step Q [] acc m=(aW g m.heap∧Q acc m):=by unfold cZ;rfl
theorem fe {g:Option (Nat × List MV)}{step:MV→(Option MV→MS→Prop)→MS→Prop}{Q:List MV→MS→Prop}{v:MV}{vs acc:List MV}{m:MS}:cZ g step Q (v::vs) acc m=(aW g m.heap∧step v (fun r m=>match r with
  | some x=>cZ g step Q vs (acc++[x]) m
  | none=>cZ g step Q vs acc m) m):=by unfold cZ;rfl
theorem oX {c:(Bool→MS→Prop)→MS→Prop}{b:(Fl→MS→Prop)→MS→Prop}{Q:Fl→MS→Prop}{m:MS}:bS c b Q 0 m=False:=by unfold bS;rfl
theorem fK {c:(Bool→MS→Prop)→MS→Prop}{b:(Fl→MS→Prop)→MS→Prop}{Q:Fl→MS→Prop}{k:Nat}{m:MS}:bS c b Q (k+1) m=c (fun t m=>match t with
  | true=>b (fun f m=>match f with
   | .next=>bS c b Q k m
   | .cont=>bS c b Q k m
   | .brk=>Q .next m
   | .ret r=>Q (.ret r) m) m
  | false=>Q .next m) m:=by unfold bS;rfl
noncomputable def noX:XM:=fun _ _=>False
noncomputable def yB (o:Option MO) (f:List (List Nat × MV)→Prop):Prop:=match o with
 | some (.attrs es)=>f es
 | _=>False
theorem oY {o:Option MO}{f:List (List Nat × MV)→Prop}(h:yB o f):∃es,o=some (.attrs es)∧f es:=by
 cases o with
 | none=>exact h.elim
 | some o=>
  cases o with
  | attrs es=>exact ⟨es,rfl,h⟩
  | _=>exact h.elim
noncomputable def BQ (c:Nat) (v:MV) (f:Nat→Prop):Prop:=match v with
 | .inst d i=>onT (d==c) (f i)
 | _=>False
theorem oZ {c:Nat}{v:MV}{f:Nat→Prop}(h:BQ c v f):∃i,v=.inst c i∧f i:=by
 cases v with
 | inst d i=>
  replace h:onT (d==c) (f i):=h
  cases e:d==c with
  | true=>rw [e] at h;exact ⟨i,by rw [eq_of_beq e],h⟩
  | false=>rw [e] at h;exact h.elim
 | _=>exact h.elim
theorem aR {o:Option MO}{f:List (List Nat × MV)→Prop}{es:List (List Nat × MV)}(e:o=some (.attrs es)) (h:f es):yB o f:=by rw [e];exact h
noncomputable def u2 (c:Nat) (x:List Nat) (v:MV) (Q:PQ) (m:MS):Prop:=BQ c v fun i=>yB m.heap[i]? fun es=>onO (aE es x) fun v=>Q v m
noncomputable def tu (c:Nat) (x:List Nat) (y v:MV) (Q:MS→Prop) (m:MS):Prop:=BQ c y fun i=>yB m.heap[i]? fun es=>es.length<1000∧Q (m.put i (.attrs (bA es x v)))
noncomputable def o0 (x y v:MV) (Q:MS→Prop) (m:MS):Prop:=match y with
 | .str s=>onR x fun r=>uU m.heap[r]? fun es=>es.length<line∧Q (m.put r (.dict (bA es s v)))
 | .int k=>onR x fun r=>jw m.heap[r]? fun xs=>onO (fc k xs.length) fun j=>(AS=true∧0≤k)∧Q (m.put r (.list (xs.set j v)))
 | _=>False
noncomputable def yC (c:Nat) (x:List Nat) (v:MV) (hp:List MO):Bool:=match v with
 | .inst d i=>match hp[i]? with
  | some (.attrs es)=>c==d&&(aE es x).isNone
  | _=>false
 | _=>false
noncomputable def qu (v:MV) (P:Prop):Prop:=match v with
 | .none=>P
 | _=>False
noncomputable def u3 (p:Bool) (x:MV):Bool:=match x with
 | .none=>p
 | _=>!p
noncomputable def bF (Q:Bool→MS→Prop):PQ:=fun v m=>match v with
 | .bool b=>Q b m
 | _=>False
noncomputable def Eo (ts:List TS) (hp:List MO) (x:MV) (f:Bool→Prop):Prop:=match ts with
 | [t]=>onO (jx hp x t) f
 | [t,u]=>onO (jx hp x t) fun b=>onO (jx hp x u) fun c=>f (b||c)
 | _=>False
mutual
noncomputable def wpE (K:KT) (n:Nat):ME→PQ→XM→MS→Prop
 | .cst v,Q,_,m=>Q v m
 | .glob _ v,Q,_,m=>Q v m
 | .var i,Q,_,m=>match m.get i with
  | some v=>Q v m
  | none=>False
 | .bin op a b,Q,X,m=>wpE K n a (fun x m=>wpE K n b (fun y m=>A8 op x y Q m) X m) X m
 | .neg a,Q,X,m=>wpE K n a (fun x m=>onI x fun i=>Q (.int (-i)) m) X m
 | .not a,Q,X,m=>wpE K n a (bF fun b m=>Q (.bool (!b)) m) X m
 | .and es,Q,X,m=>rP K n es Q X m
 | .or es,Q,X,m=>yD K n es Q X m
 | .cmp op a b,Q,X,m=>wpE K n a (fun x m=>wpE K n b (fun y m=>jS op x y (fun b m=>Q (.bool b) m) m) X m) X m
 | .cmp2 op op' a b c,Q,X,m=>wpE K n a (fun x m=>wpE K n b (fun y m=>jS op x y (fun t m=>match t with
  | true=>wpE K n c (fun z m=>jS op' y z (fun b m=>Q (.bool b) m) m) X m
  | false=>Q (.bool false) m) m) X m) X m
 | .isN p a,Q,X,m=>wpE K n a (fun x m=>Q (.bool (u3 p x)) m) X m
 | .call f args,Q,X,m=>gY K n args (fun vs m=>K n f vs (fun v h=>Q v ⟨m.vars,h⟩) (fun c h=>X c ⟨m.vars,h⟩) m.heap) X m
 | .blt b args,Q,X,m=>gY K n args (fun vs m=>mT b vs Q m) X m
 | .mth k o args,Q,X,m=>wpE K n o (fun x m=>onT (kP k x m.heap) (gY K n args (fun vs m=>cY k x vs Q m) X m)) X m
 | .umth c f x o args,Q,X,m=>wpE K n o (fun v m=>onT (yC c x v m.heap) (gY K n args (fun vs m=>K n f (v::vs) (fun v h=>Q v ⟨m.vars,h⟩) (fun c h=>X c ⟨m.vars,h⟩) m.heap) X m)) X m
 | .new c f args,Q,X,m=>gY K n args (fun vs m=>match n with
  | 0=>False
  | k+1=>K k f (.inst c m.heap.length::vs) (fun v h=>qu v (Q (.inst c m.heap.length) ⟨m.vars,h⟩)) (fun c h=>X c ⟨m.vars,h⟩) (m.heap++[.attrs []])) X m
 | .attr c o x,Q,X,m=>wpE K n o (fun v m=>u2 c x v Q m) X m
 | .idx o i,Q,X,m=>wpE K n o (fun x m=>wpE K n i (fun y m=>A9 x y Q m) X m) X m
 | .sl o lo hi,Q,X,m=>wpE K n o (fun x m=>wpO K n lo (fun l m=>wpO K n hi (fun h m=>El x l h Q m) X m) X m) X m
 | .list es,Q,X,m=>gY K n es (fun vs m=>Q (.ref m.heap.length) (m.push (.list vs))) X m
 | .tup es,Q,X,m=>gY K n es (fun vs m=>Q (.tup vs) m) X m
 | .dict0,Q,_,m=>Q (.ref m.heap.length) (m.push (.dict []))
 | .comp elt t many k src ifs,Q,X,m=>gY K n src (fun vs m=>u0 (d9 k vs m.heap) fun items g=>cZ g (fun v P m=>asg t many v (fun m=>o4 K n ifs (fun b m=>match b with
    | true=>wpE K n elt (fun x m=>P (some x) m) noX m
    | false=>P none m) noX m) m) (fun acc m'=>Q (.ref m'.heap.length) ⟨m.vars,m'.heap++[.list acc]⟩) items [] m) X m
 | .isi a ts,Q,X,m=>wpE K n a (fun x m=>Eo ts m.heap x fun b=>Q (.bool b) m) X m
noncomputable def gY (K:KT) (n:Nat):List ME→(List MV→MS→Prop)→XM→MS→Prop
 | [],Q,_,m=>Q [] m
 | e::r,Q,X,m=>wpE K n e (fun v m=>gY K n r (fun vs m=>Q (v::vs) m) X m) X m
noncomputable def wpO (K:KT) (n:Nat):Option ME→(Option MV→MS→Prop)→XM→MS→Prop
 | none,Q,_,m=>Q none m
 | some e,Q,X,m=>wpE K n e (fun v m=>Q (some v) m) X m
noncomputable def rP (K:KT) (n:Nat):List ME→PQ→XM→MS→Prop
 | [],_,_,_=>False
 | [e],Q,X,m=>wpE K n e Q X m
 | e::r,Q,X,m=>wpE K n e (bF fun b m=>match b with
  | true=>rP K n r Q X m
  | false=>Q (.bool false) m) X m
noncomputable def yD (K:KT) (n:Nat):List ME→PQ→XM→MS→Prop
 | [],_,_,_=>False
 | [e],Q,X,m=>wpE K n e Q X m
 | e::r,Q,X,m=>wpE K n e (bF fun b m=>match b with
  | true=>Q (.bool true) m
  | false=>yD K n r Q X m) X m
noncomputable def o4 (K:KT) (n:Nat):List ME→(Bool→MS→Prop)→XM→MS→Prop
 | [],Q,_,m=>Q true m
 | e::r,Q,X,m=>wpE K n e (bF fun b m=>match b with
  | true=>o4 K n r Q X m
  | false=>Q false m) X m
end
mutual
noncomputable def wpS (K:KT) (n:Nat):MSt→(Fl→MS→Prop)→XM→MS→Prop
 | .asg t many e,Q,X,m=>wpE K n e (fun v m=>asg t many v (fun m=>Q .next m) m) X m
 | .setAttr c o x e,Q,X,m=>wpE K n e (fun v m=>wpE K n o (fun y m=>tu c x y v (Q .next) m) X m) X m
 | .setIdx o i e,Q,X,m=>wpE K n e (fun v m=>wpE K n o (fun x m=>wpE K n i (fun y m=>o0 x y v (Q .next) m) X m) X m) X m
 | .expr e,Q,X,m=>wpE K n e (fun _ m=>Q .next m) X m
 | .ite c a b,Q,X,m=>wpE K n c (bF fun t m=>match t with
  | true=>aD K n a Q X m
  | false=>aD K n b Q X m) X m
 | .for_ t many k src body,Q,X,m=>gY K n src (fun vs m=>u0 (d9 k vs m.heap) fun items g=>dA g (fun v P m=>asg t many v (fun m=>aD K n body P X m) m) Q items m) X m
 | .while_ c body,Q,X,m=>∃k,bS (fun P m=>wpE K n c (bF P) X m) (fun P m=>aD K n body P X m) Q k m
 | .ret e,Q,X,m=>wpE K n e (fun v m=>Q (.ret v) m) X m
 | .cont,Q,_,m=>Q .cont m
 | .raise c,_,X,m=>yo=true∧X c m
 | .try_ body _ v h,Q,X,m=>yo=true∧aD K n body Q (fun c m=>aD K n h (fun f m=>Q f (m.unset v)) noX ((m.push (.exc c)).set v (.ref m.heap.length))) m
noncomputable def aD (K:KT) (n:Nat):List MSt→(Fl→MS→Prop)→XM→MS→Prop
 | [],Q,_,m=>Q .next m
 | s::r,Q,X,m=>wpS K n s (fun f m=>match f with
  | .next=>aD K n r Q X m
  | f=>Q f m) X m
end
noncomputable def fin (Q:MV→List MO→Prop):Fl→MS→Prop:=fun f m=>match f with
 | .ret v=>Q v m.heap
 | .next=>Q .none m.heap
 | _=>False
set_option genCtorIdx false in
structure Fn where
 args:Nat
 slots:Nat
 body:List MSt
noncomputable def cE (d:Fn) (vs:List MV) (h:List MO):MS:=⟨vs.map some++List.replicate (d.slots-d.args) none,h⟩
noncomputable def aF (P:Nat→Option Fn) (K:KT):Prop:=
 ∀n f vs Q X h d,P f=some d→vs.length=d.args→aD K n d.body (fin Q) (fun c m=>X c m.heap) (cE d vs h)→K (n+1) f vs Q X h
end Internal
end
section
namespace Internal
noncomputable def Ep:Bool:=true
end Internal
end
section
namespace Internal
open PySem PyProof.Rows
noncomputable abbrev mK (items:List Value) (n:Nat):Obj:={ cls:=.type "tuple",dict:=none,data:=.seq items.toArray n,slots:=#[] }
noncomputable abbrev cR (items:List Value) (n:Nat):Obj:={ cls:=.type "list",dict:=none,data:=.seq items.toArray n,slots:=#[] }
noncomputable abbrev FO (es:List DictEntry) (n:Nat):Obj:={ cls:=.type "dict",dict:=none,data:=.dict es.toArray n,slots:=#[] }
noncomputable abbrev jT (C:Addr) (d:Addr):Obj:={ cls:=.ref C,dict:=some d,data:=.plain,slots:=#[] }
set_option genCtorIdx false in
structure Glo where
 prog:Program
 w:World
 base:Heap
 fa:Nat→Option Addr
 ca:Nat→Option Addr
 xa:Nat→Option Addr
 cm:Nat→Str→Option Value
 hf:Nat→Bool
noncomputable def BR:Value→Bool
 | .type T=>T=="tuple"
 | _=>false
noncomputable def BS:Value→Bool
 | .ref _=>true
 | _=>false
noncomputable def ip (c:Value):Data→Bool
 | .seq _ _=>BR c
 | .plain=>BS c
 | _=>false
noncomputable def g7 (o:Obj):Prop:=ip o.cls o.data=true
noncomputable def ba (h h':Heap):Prop:=∀a o,h.get? a=some o→g7 o→h'.get? a=some o
inductive CK:List (List Nat × Int)→List (Str × Value)→Prop
 | nil:CK [] []
 | cons {k i t es ds}:k.length≤line→CK es ds→CK ((k,i)::es) ((str k,.int i t)::ds)
noncomputable def IsD (o:Obj):Prop:=∃es n,o.data=.dict es n
mutual
inductive Rep (C:Glo) (ρ:List Addr) (h:Heap):MV→Value→Prop
 | none:Rep C ρ h .none .none
 | bool (b):Rep C ρ h (.bool b) (.bool b)
 | int (i t):Rep C ρ h (.int i) (.int i t)
 | str (s t):s.length≤line→Rep C ρ h (.str s) (.str (str s) t)
 | tup {a n xs items}:h.get? a=some (mK items n)→aG C ρ h xs items→xs.length≤line→Rep C ρ h (.tup xs) (.ref a)
 | ref {i a}:ρ[i]?=some a→Rep C ρ h (.ref i) (.ref a)
 | scr {is a items n}:C.base.get? a=some (cR items n)→IntsAre items is→is.length≤line→Rep C ρ h (.scr is) (.ref a)
 | gt {ss a o items n}:C.base.get? a=some o→o.cls=.type "tuple"→o.data=.seq items.toArray n→aG C ρ h (ss.map .str) items→Rep C ρ h (.gt ss) (.ref a)
 | inst {c i a k d}:C.ca c=some k→ρ[i]?=some d→h.get? a=some (jT k d)→Rep C ρ h (.inst c i) (.ref a)
 | cdict {es a kvs}:(a==sysModules)=false→C.base.DictOf (strKind C.prog C.w) a kvs→CK es kvs→Rep C ρ h (.cdict es) (.ref a)
inductive aG (C:Glo) (ρ:List Addr) (h:Heap):List MV→List Value→Prop
 | nil:aG C ρ h [] []
 | cons {x v xs vs}:Rep C ρ h x v→aG C ρ h xs vs→aG C ρ h (x::xs) (v::vs)
end
inductive Ft (C:Glo) (ρ:List Addr) (h:Heap) (xs:List MV) (v:Value):Prop
 | mk (a:Addr) (n:Nat) (items:List Value) (e:v=.ref a) (g:h.get? a=some (mK items n)) (l:aG C ρ h xs items) (z:xs.length≤line)
inductive Fu (C:Glo) (is:List Int) (v:Value):Prop
 | mk (a:Addr) (items:List Value) (n:Nat) (e:v=.ref a) (g:C.base.get? a=some (cR items n)) (l:IntsAre items is) (z:is.length≤line)
inductive RGt (C:Glo) (ρ:List Addr) (h:Heap) (ss:List (List Nat)) (v:Value):Prop
 | mk (a:Addr) (o:Obj) (items:List Value) (n:Nat) (e:v=.ref a) (g:C.base.get? a=some o) (g1:o.cls=.type "tuple") (g2:o.data=.seq items.toArray n) (l:aG C ρ h (ss.map .str) items)
inductive Es (C:Glo) (ρ:List Addr) (h:Heap) (c i:Nat) (v:Value):Prop
 | mk (a k d:Addr) (e:v=.ref a) (h1:C.ca c=some k) (h2:ρ[i]?=some d) (h3:h.get? a=some (jT k d))
inductive RCd (C:Glo) (es:List (List Nat × Int)) (v:Value):Prop
 | mk (a:Addr) (kvs:List (Str × Value)) (e:v=.ref a) (hs:(a==sysModules)=false) (dk:C.base.DictOf (strKind C.prog C.w) a kvs) (ck:CK es kvs)
inductive Fv (s:List Nat) (v:Value):Prop
 | mk (t:Tok) (e:v=.str (str s) t) (z:s.length≤line)
inductive Fw (ρ:List Addr) (i:Nat) (v:Value):Prop
 | mk (a:Addr) (e:v=.ref a) (g:ρ[i]?=some a)
inductive Et (C:Glo) (ρ:List Addr) (h:Heap) (x:MV) (r:List MV) (vs:List Value):Prop
 | mk (v:Value) (ws:List Value) (e:vs=v::ws) (a:Rep C ρ h x v) (b:aG C ρ h r ws)
noncomputable def Eu (C:Glo) (ρ:List Addr) (h:Heap) (x:MV) (v:Value):Prop:=match x with
 | .none=>v=.none
 | .bool b=>v=.bool b
 | .int i=>∃t,v=.int i t
 | .str s=>Fv s v
 | .tup xs=>Ft C ρ h xs v
 | .ref i=>Fw ρ i v
 | .scr is=>Fu C is v
 | .gt ss=>RGt C ρ h ss v
 | .inst c i=>Es C ρ h c i v
 | .cdict es=>RCd C es v
noncomputable def Bd (C:Glo) (ρ:List Addr) (h:Heap) (xs:List MV) (vs:List Value):Prop:=match xs with
 | []=>vs=[]
 | x::r=>Et C ρ h x r vs
theorem Rep.inv {C:Glo}{ρ:List Addr}{h:Heap}{x:MV}{v:Value}(r:Rep C ρ h x v):Eu C ρ h x v:=
 Rep.casesOn (motive_1:=fun x v _=>Eu C ρ h x v) r rfl (fun _=>rfl) (fun _ t=>⟨t,rfl⟩) (fun _ t z=>⟨t,rfl,z⟩) (fun g l z=>⟨_,_,_,rfl,g,l,z⟩) (fun e=>⟨_,rfl,e⟩) (fun g l z=>⟨_,_,_,rfl,g,l,z⟩) (fun g g1 g2 l=>⟨_,_,_,_,rfl,g,g1,g2,l⟩) (fun h1 h2 h3=>⟨_,_,_,rfl,h1,h2,h3⟩) (fun s d c=>⟨_,_,rfl,s,d,c⟩)
theorem aG.inv {C:Glo}{ρ:List Addr}{h:Heap}{xs:List MV}{vs:List Value}(r:aG C ρ h xs vs):Bd C ρ h xs vs:=
 aG.casesOn (motive_2:=fun xs vs _=>Bd C ρ h xs vs) r rfl (fun a b=>⟨_,_,rfl,a,b⟩)
theorem aG.one {C:Glo}{ρ:List Addr}{h:Heap}{x:MV}{vs:List Value}(r:aG C ρ h [x] vs):∃v,vs=[v]∧Rep C ρ h x v:=by
 obtain ⟨v,ws,rfl,a,b⟩:=r.inv
 obtain rfl:=b.inv
 exact ⟨v,rfl,a⟩
theorem aG.two {C:Glo}{ρ:List Addr}{h:Heap}{x y:MV}{vs:List Value}(r:aG C ρ h [x,y] vs):∃v w,vs=[v,w]∧Rep C ρ h x v∧Rep C ρ h y w:=by
 obtain ⟨v,ws,rfl,a,b⟩:=r.inv
 obtain ⟨w,rfl,c⟩:=b.one
 exact ⟨v,w,rfl,a,c⟩
theorem gC {items:List Value}{n:Nat}:g7 (mK items n):=rfl
theorem kT {C d:Addr}:g7 (jT C d):=rfl
theorem gD {ρ ρ':List Addr}(hp:ρ<+:ρ') {i:Nat}{a:Addr}(h:ρ[i]?=some a):ρ'[i]?=some a:=by
 obtain ⟨t,rfl⟩:=hp
 rw [List.getElem?_append_left (List.getElem?_eq_some_iff.mp h).1];exact h
section
variable {C:Glo}{ρ ρ':List Addr}{h h':Heap}
theorem Rep.up (hs:ba h h') (hp:ρ<+:ρ') {x:MV}{v:Value}(r:Rep C ρ h x v):Rep C ρ' h' x v:=
 Rep.rec (motive_1:=fun x v _=>Rep C ρ' h' x v) (motive_2:=fun x v _=>aG C ρ' h' x v) .none (fun b=>.bool b) (fun i t=>.int i t) (fun s t z=>.str s t z) (fun e _ z l=>.tup (hs _ _ e gC) l z) (fun e=>.ref (gD hp e)) (fun e l z=>.scr e l z) (fun e1 e2 e3 _ l=>.gt e1 e2 e3 l) (fun e1 e2 e3=>.inst e1 (gD hp e2) (hs _ _ e3 kT)) (fun q e l=>.cdict q e l) .nil (fun _ _ a b=>.cons a b) r
theorem aG.up (hs:ba h h') (hp:ρ<+:ρ') {x:List MV}{v:List Value}(r:aG C ρ h x v):aG C ρ' h' x v:=
 aG.rec (motive_1:=fun x v _=>Rep C ρ' h' x v) (motive_2:=fun x v _=>aG C ρ' h' x v) .none (fun b=>.bool b) (fun i t=>.int i t) (fun s t z=>.str s t z) (fun e _ z l=>.tup (hs _ _ e gC) l z) (fun e=>.ref (gD hp e)) (fun e l z=>.scr e l z) (fun e1 e2 e3 _ l=>.gt e1 e2 e3 l) (fun e1 e2 e3=>.inst e1 (gD hp e2) (hs _ _ e3 kT)) (fun q e l=>.cdict q e l) .nil (fun _ _ a b=>.cons a b) r
theorem kU {is:List Int}{items:List Value}(r:IntsAre items is):aG C ρ h (is.map .int) items:=by
 induction r with
 | nil=>exact .nil
 | cons n t r ih=>exact .cons (.int n t) ih
theorem aG.length {xs:List MV}{vs:List Value}(r:aG C ρ h xs vs):vs.length=xs.length:=by
 induction xs generalizing vs with
 | nil=>rw [r.inv];rfl
 | cons x xs ih=>
  obtain ⟨v,ws,rfl,a,b⟩:=r.inv
  exact congrArg (·+1) (ih b)
theorem aG.get {xs:List MV}{vs:List Value}(r:aG C ρ h xs vs) {i:Nat}{x:MV}(e:xs[i]?=some x):∃v,vs[i]?=some v∧Rep C ρ h x v:=by
 induction xs generalizing vs i with
 | nil=>exact aB e
 | cons y xs ih=>
  obtain ⟨v,ws,rfl,a,b⟩:=r.inv
  cases i with
  | zero=>obtain rfl:=Option.some.inj e;exact ⟨v,rfl,a⟩
  | succ i=>exact ih b e
theorem aG.append {xs:List MV}{vs:List Value}{ys:List MV}{ws:List Value}(r:aG C ρ h xs vs) (l:aG C ρ h ys ws):aG C ρ h (xs++ys) (vs++ws):=by
 induction xs generalizing vs with
 | nil=>rw [r.inv];exact l
 | cons x xs ih=>
  obtain ⟨v,us,rfl,a,b⟩:=r.inv
  exact .cons a (ih b)
theorem aG.take {xs:List MV}{vs:List Value}(k:Nat) (r:aG C ρ h xs vs):aG C ρ h (xs.take k) (vs.take k):=by
 induction xs generalizing vs k with
 | nil=>rw [r.inv,List.take_nil,List.take_nil];exact .nil
 | cons x xs ih=>
  obtain ⟨v,us,rfl,a,b⟩:=r.inv
  cases k with
  | zero=>exact .nil
  | succ k=>exact .cons a (ih k b)
theorem aG.drop {xs:List MV}{vs:List Value}(k:Nat) (r:aG C ρ h xs vs):aG C ρ h (xs.drop k) (vs.drop k):=by
 induction xs generalizing vs k with
 | nil=>rw [r.inv,List.drop_nil,List.drop_nil];exact .nil
 | cons x xs ih=>
  obtain ⟨v,us,rfl,a,b⟩:=r.inv
  cases k with
  | zero=>exact .cons a b
  | succ k=>exact ih k b
end
inductive dS (C:Glo) (ρ:List Addr) (h:Heap):List (List Nat × MV)→List (Str × Value)→Prop
 | nil:dS C ρ h [] []
 | cons {k x v es ds}:k.length≤line→Rep C ρ h x v→dS C ρ h es ds→dS C ρ h ((k,x)::es) ((str k,v)::ds)
theorem dS.up {C:Glo}{ρ ρ':List Addr}{h h':Heap}(hs:ba h h') (hp:ρ<+:ρ') {x v}(r:dS C ρ h x v):dS C ρ' h' x v:=by
 induction r with
 | nil=>exact .nil
 | cons z a _ ih=>exact .cons z (a.up hs hp) ih
theorem CK.rep {C:Glo}{ρ:List Addr}{h:Heap} {es kvs}(r:CK es kvs):dS C ρ h (cds es) kvs:=by
 induction r with
 | nil=>exact .nil
 | cons z _ ih=>exact .cons z (.int _ _) ih
inductive Ew (C:Glo) (ρ:List Addr) (h:Heap) (xs:List MV) (a:Addr):Prop
 | mk (items:List Value) (n:Nat) (e:h.get? a=some (cR items n)) (rl:aG C ρ h xs items) (z:xs.length≤line)
inductive Ex (C:Glo) (ρ:List Addr) (h:Heap) (es:List (List Nat × MV)) (a:Addr):Prop
 | mk (kvs:List (Str × Value)) (d:h.DictOf (strKind C.prog C.w) a kvs) (rk:dS C ρ h es kvs) (z:es.length≤line)
inductive u4 (C:Glo) (ρ:List Addr) (h:Heap) (es:List (List Nat × MV)) (a:Addr):Prop
 | mk (mA:Str→Option Value) (n:h.Ns1 a mA) (l:∀k v,aE es k=some v→∃w,mA (str k)=some w∧Rep C ρ h v w) (r:∀k,aE es k=none→mA (str k)=none) (z:es.length≤1000)
inductive Ey (C:Glo) (h:Heap) (c:Nat) (a:Addr):Prop
 | mk (K:Addr) (o:Obj) (vs:Array Value) (h1:C.xa c=some K) (h2:h.get? a=some o) (h3:o.cls=.ref K) (h4:o.data=.fields vs)
noncomputable def kW (C:Glo) (ρ:List Addr) (h:Heap):MO→Addr→Prop
 | .list xs,a=>Ew C ρ h xs a
 | .dict es,a=>Ex C ρ h es a
 | .attrs es,a=>u4 C ρ h es a
 | .exc c,a=>Ey C h c a
structure Hp (C:Glo) (ρ:List Addr) (hp:List MO) (h:Heap):Prop where
 base:C.base.StaysIn h
 len:ρ.length=hp.length
 nodup:ρ.Nodup
 fresh:∀a∈ρ,C.base.get? a=none
 objs:∀(i:Nat) (o:MO) (a:Addr),hp[i]?=some o→ρ[i]?=some a→kW C ρ h o a
set_option genCtorIdx false in
inductive Loc where
 | nm (L:Addr) (x:Str)
 | cl (c:Addr)
gen_injective_theorems% Loc
set_option genCtorIdx false in
structure Fm where
 env:Env
 A:Around
 W:List Addr
 V:List Addr
 lay:Nat→Option Loc
 frs:List Addr
inductive Ez (C:Glo) (ρ:List Addr) (h:Heap) (L:Addr) (x:Str) (v:MV):Prop
 | mk (f:Str→Option Value) (w:Value) (n:h.Ns L f) (e:f x=some w) (r:Rep C ρ h v w)
inductive EA (C:Glo) (ρ:List Addr) (h:Heap) (c:Addr) (v:MV):Prop
 | mk (w:Value) (n:h.IsCell c (some w)) (r:Rep C ρ h v w)
noncomputable def Holds (C:Glo) (ρ:List Addr) (h:Heap):Loc→MV→Prop
 | .nm L x,v=>Ez C ρ h L x v
 | .cl c,v=>EA C ρ h c v
noncomputable def WOk (h:Heap) (a:Addr):Prop:=∃o,h.get? a=some o∧((∃es n,o.data=.dict es n)∨∃v,o.data=.cell v)
noncomputable def EB (C:Glo) (ρ:List Addr) (h:Heap) (L:Addr):Prop:=L∉ρ∧C.base.get? L=none∧∃o,h.get? L=some o∧IsD o
structure Rel (C:Glo) (F:Fm) (ρ:List Addr) (m:MS) (s:Shared):Prop where
 hp:Hp C ρ m.heap s.heap
 ns:∃f,s.heap.Ns F.env.locals f
 w:∀a∈F.W++F.V,a∉ρ∧C.base.get? a=none∧WOk s.heap a
 vars:∀i v,m.get i=some v→∃l,F.lay i=some l∧Holds C ρ s.heap l v
 cells:∀i c,F.lay i=some (.cl c)→∃v,s.heap.IsCell c v
 out:∀L∈F.frs,EB C ρ s.heap L
 gens:s.gens=#[]
structure ax (W:List Addr) (ρ:List Addr) (s:Shared) (ρ':List Addr) (s':Shared):Prop where
 pre:ρ<+:ρ'
 new:∀a∈ρ',a∈ρ∨s.heap.get? a=none
 keep:∀a o,s.heap.get? a=some o→a∉ρ→a∉W→s'.heap.get? a=some o∨(IsD o∧∃sl,s'.heap.get? a=some { o with slots:=sl })
 solid:ba s.heap s'.heap
 alive:∀a o,s.heap.get? a=some o→∃o',s'.heap.get? a=some o'
 gens:s'.gens=s.gens
 os:s'.os=s.os
theorem ax.refl (W ρ:List Addr) (s:Shared):ax W ρ s ρ s:=⟨List.prefix_refl _,fun _ h=>.inl h,fun _ _ e _ _=>.inl e,fun _ _ e _=>e,fun _ o e=>⟨o,e⟩,rfl,rfl⟩
theorem ax.trans {W ρ ρ₁ ρ₂:List Addr}{s s₁ s₂:Shared}(x:ax W ρ s ρ₁ s₁) (y:ax W ρ₁ s₁ ρ₂ s₂):ax W ρ s ρ₂ s₂ where
 pre:=x.pre.trans y.pre
 new:=fun a h=>(y.new a h).elim (fun h=>x.new a h) fun h=>.inr (by
  cases e:s.heap.get? a with
  | none=>rfl
  | some o=>obtain ⟨o',e'⟩:=x.alive a o e;exact aO h e')
 keep:=fun a o e h1 h2=>by
  have h1':a∉ρ₁:=fun h=>(x.new a h).elim h1 fun h=>aO h e
  rcases x.keep a o e h1 h2 with e1 | ⟨hc,sl,e1⟩
  ·exact y.keep a o e1 h1' h2
  ·rcases y.keep a _ e1 h1' h2 with e2 | ⟨_,sl2,e2⟩
   ·exact .inr ⟨hc,sl,e2⟩
   ·exact .inr ⟨hc,sl2,e2⟩
 solid:=fun a o e h=>y.solid a o (x.solid a o e h) h
 alive:=fun a o e=>let ⟨o',e'⟩:=x.alive a o e;y.alive a o' e'
 gens:=y.gens.trans x.gens
 os:=y.os.trans x.os
theorem Rep.step {C:Glo}{W ρ ρ':List Addr}{s s':Shared}{x:MV}{v:Value}(r:Rep C ρ s.heap x v) (st:ax W ρ s ρ' s'):Rep C ρ' s'.heap x v:=r.up st.solid st.pre
theorem aG.step {C:Glo}{W ρ ρ':List Addr}{s s':Shared}{x:List MV}{v:List Value}(r:aG C ρ s.heap x v) (st:ax W ρ s ρ' s'):aG C ρ' s'.heap x v:=r.up st.solid st.pre
end Internal
end
section
namespace Internal
open PySem PyProof.Rows
noncomputable def Er (C:Glo) (F:Fm) (X:XM) (ρ:List Addr) (s:Shared) (e:Value) (s':Shared):Prop:=False
theorem Er.back {C:Glo}{F:Fm}{X:XM}{ρ ρ₁:List Addr}{s s₁:Shared}(st:ax F.W ρ s ρ₁ s₁):∀e s',Er C F X ρ₁ s₁ e s'→Er C F X ρ s e s':=fun _ _ h=>h
theorem Er.mono {C:Glo}{F:Fm}{X X':XM}{ρ:List Addr}{s:Shared}(h:∀k m,X k m→X' k m):∀e s',Er C F X ρ s e s'→Er C F X' ρ s e s':=fun _ _ h=>h
theorem Er.no {C:Glo}{F:Fm}{ρ:List Addr}{s s':Shared}{e:Value}{P:Prop}(h:Er C F noX ρ s e s'):P:=False.elim h
end Internal
end
section
namespace Internal
open PySem PyProof.Rows
noncomputable abbrev mod (C:Glo):Model:=model C.prog C.w
inductive Out (C:Glo) (F:Fm) (ρ:List Addr) (s:Shared) (Q:PQ) (v:Value) (s':Shared):Prop
 | mk (ρ':List Addr) (m':MS) (x:MV) (st:ax F.W ρ s ρ' s') (R:Rel C F ρ' m' s') (rx:Rep C ρ' s'.heap x v) (hq:Q x m'):Out C F ρ s Q v s'
theorem Out.back {C:Glo}{F:Fm}{Q:PQ}{ρ ρ₁:List Addr}{s s₁:Shared}(st:ax F.W ρ s ρ₁ s₁):∀v s',Out C F ρ₁ s₁ Q v s'→Out C F ρ s Q v s':=
 fun _ _ ⟨ρ',m',x,a,b,c,d⟩=>⟨ρ',m',x,st.trans a,b,c,d⟩
noncomputable def WPv (C:Glo) (F:Fm) (X:XM) (t:Sem Value) (Q:PQ) (m:MS):Prop:=
 ∀s ρ,Rel C F ρ m s→wpAny (mod C) F.A t (Out C F ρ s Q) (Er C F X ρ s) s
theorem EC {C:Glo}{F:Fm}{X:XM}{A:Around}{t:Sem Value}{Q:PQ}{ρ ρ₁:List Addr}{s s₁ s₂:Shared}(st:ax F.W ρ s ρ₁ s₁) (h:wpAny (mod C) A t (Out C F ρ₁ s₁ Q) (Er C F X ρ₁ s₁) s₂) :
  wpAny (mod C) A t (Out C F ρ s Q) (Er C F X ρ s) s₂:=wpAny_mono h (Out.back st) (Er.back st)
end Internal
end
section
namespace Internal
open PySem
noncomputable def Loc.addr:Loc→Addr
 | .nm L _=>L
 | .cl c=>c
theorem jz {h:Heap}{a:Addr}{f g:Str→Option Value}(x:h.Ns a f) (y:h.Ns a g):f=g:=by
 obtain ⟨o,es,ep,ho,hd,_,hf⟩:=x
 obtain ⟨o',es',ep',ho',hd',_,hg⟩:=y
 obtain rfl:=same ho ho'
 obtain ⟨rfl,rfl⟩:=Data.dict.inj (hd.symm.trans hd')
 funext n;exact (hf n).symm.trans (hg n)
inductive NsO (h:Heap) (a:Addr):Prop
 | mk (o:Obj) (es:Array DictEntry) (ep:Nat) (ho:h.get? a=some o) (hd:o.data=.dict es ep)
theorem qv {h:Heap}{a:Addr}{f:Str→Option Value}(x:h.Ns a f):NsO h a:=by
 obtain ⟨o,es,ep,ho,hd,_⟩:=x
 exact ⟨o,es,ep,ho,hd⟩
theorem fg {h:Heap}{a:Addr}{f:Str→Option Value}{v:Option Value}{P:Prop}(x:h.Ns a f) (y:h.IsCell a v):P:=by
 obtain ⟨o,es,ep,ho,hd⟩:=qv x
 obtain ⟨o',g1,g2⟩:=y
 obtain rfl:=same ho g1
 exact nomatch hd.symm.trans g2
theorem kr {h h':Heap}{a:Addr}{f:Str→Option Value}(x:h.Ns a f) (k:∀o,h.get? a=some o→∃o',h'.get? a=some o'∧o'.data=o.data):h'.Ns a f:=by
 obtain ⟨o,es,ep,ho,hd,r⟩:=x
 obtain ⟨o',ho',hd'⟩:=k o ho
 exact ⟨o',es,ep,ho',hd'.trans hd,r⟩
theorem mU {h h':Heap}{a:Addr}{v:Option Value}(x:h.IsCell a v) (k:∀o,h.get? a=some o→∃o',h'.get? a=some o'∧o'.data=o.data):h'.IsCell a v:=by
 obtain ⟨o,ho,hd⟩:=x
 obtain ⟨o',ho',hd'⟩:=k o ho
 exact ⟨o',ho',hd'.trans hd⟩
section
variable {C:Glo}{F:Fm}{ρ ρ':List Addr}{h h':Heap}{m:MS}{s s':Shared}
noncomputable def kX (h h':Heap) (a:Addr):Prop:=∀o,h.get? a=some o→∃o',h'.get? a=some o'∧o'.data=o.data∧o'.cls=o.cls
noncomputable def rQ (h h':Heap) (a:Addr):Prop:=∀o,h.get? a=some o→h'.get? a=some o
theorem kX.e {h h':Heap}{a:Addr}(k:kX h h' a):∀o,h.get? a=some o→∃o',h'.get? a=some o'∧o'.data=o.data:=fun o e=>let ⟨o',x,y,_⟩:=k o e;⟨o',x,y⟩
theorem Holds.up {l:Loc}{v:MV}(x:Holds C ρ h l v) (hs:ba h h') (hp:ρ<+:ρ') (k:kX h h' l.addr):Holds C ρ' h' l v:=by
 cases l with
 | nm L x'=>obtain ⟨f,w,hn,e,r⟩:=x;exact ⟨f,w,kr hn k.e,e,r.up hs hp⟩
 | cl c=>obtain ⟨w,hc,r⟩:=x;exact ⟨w,mU hc k.e,r.up hs hp⟩
theorem kW.up {o:MO}{a:Addr}(x:kW C ρ h o a) (hs:ba h h') (hp:ρ<+:ρ') (k:rQ h h' a):kW C ρ' h' o a:=by
 cases o with
 | list xs=>obtain ⟨items,n,e,l,z⟩:=x;exact ⟨items,n,k _ e,l.up hs hp,z⟩
 | dict es=>
  obtain ⟨kvs,⟨o,ds,ep,e,r⟩,l,z⟩:=x
  exact ⟨kvs,⟨o,ds,ep,k _ e,r⟩,l.up hs hp,z⟩
 | attrs es=>
  obtain ⟨mA,n,l,r,z⟩:=x
  exact ⟨mA,n.at fun o e=>k o e,fun key v e=>let ⟨w,h1,h2⟩:=l key v e;⟨w,h1,h2.up hs hp⟩,r,z⟩
 | exc c=>obtain ⟨K,o,vs,h1,h2,h3,h4⟩:=x;exact ⟨K,o,vs,h1,k _ h2,h3,h4⟩
theorem Hp.up {hp:List MO}(x:Hp C ρ hp h) (hs:ba h h') (k:∀a∈ρ,rQ h h' a) (hb:C.base.StaysIn h'):Hp C ρ hp h':=
 ⟨hb,x.len,x.nodup,x.fresh,fun i o a e1 e2=>(x.objs i o a e1 e2).up hs (List.prefix_refl _) (k a (List.mem_of_getElem? e2))⟩
theorem Hp.alloc {hp:List MO}(x:Hp C ρ hp h) (hs:ba h h') (k:∀a∈ρ,rQ h h' a) (hb:C.base.StaysIn h') {o:MO}{a:Addr}(ha:a∉ρ) (hf:C.base.get? a=none)
  (hr:kW C (ρ++[a]) h' o a):Hp C (ρ++[a]) (hp++[o]) h':=by
 refine ⟨hb,by simp [x.len],?_,?_,?_⟩
 ·exact List.nodup_append.mpr ⟨x.nodup,by simp,fun b hb c hc=>by simp at hc;subst hc;exact fun e=>ha (e▸hb)⟩
 ·intro b hb
  rcases List.mem_append.mp hb with hb | hb
  ·exact x.fresh b hb
  ·simp at hb;subst hb;exact hf
 ·intro i o' b e1 e2
  rcases Nat.lt_trichotomy i hp.length with hi | hi | hi
  ·rw [List.getElem?_append_left hi] at e1
   rw [List.getElem?_append_left (by rw [x.len];exact hi)] at e2
   exact (x.objs i o' b e1 e2).up hs (List.prefix_append _ _) (k b (List.mem_of_getElem? e2))
  ·subst hi
   rw [List.getElem?_append_right (Nat.le_refl _)] at e1
   rw [←x.len,List.getElem?_append_right (Nat.le_refl _)] at e2
   simp at e1 e2;subst e1;subst e2;exact hr
  ·rw [List.getElem?_eq_none (by simp;exact hi)] at e1;exact aB e1
theorem Hp.put {hp:List MO}(x:Hp C ρ hp h) (hs:ba h h') {i:Nat}{a:Addr}(hi:ρ[i]?=some a) (k:∀b∈ρ,b≠a→rQ h h' b) (hb:C.base.StaysIn h') {o:MO}
  (hr:kW C ρ h' o a):Hp C ρ (hp.set i o) h':=by
 refine ⟨hb,by simp [x.len],x.nodup,x.fresh,fun j o' b e1 e2=>?_⟩
 by_cases e:i=j
 ·subst e
  obtain rfl:=same hi e2
  have hlt:i<hp.length:=by rw [←x.len];exact (List.getElem?_eq_some_iff.mp hi).1
  obtain rfl:=Option.some.inj ((List.getElem?_set_self hlt).symm.trans e1)
  exact hr
 ·rw [List.getElem?_set_ne e] at e1
  refine (x.objs j o' b e1 e2).up hs (List.prefix_refl _) (k b (List.mem_of_getElem? e2) fun q=>?_)
  subst q
  have h1:=(List.getElem?_eq_some_iff.mp hi)
  have h2:=(List.getElem?_eq_some_iff.mp e2)
  exact e ((List.getElem_inj x.nodup).mp (h1.2.trans h2.2.symm))
structure aV (F:Fm):Prop where
 loc:F.env.locals∈F.W
 lay:∀i l,F.lay i=some l→l.addr∈F.W++F.V
 inj:∀i j l,F.lay i=some l→F.lay j=some l→i=j
 kind:F.env.scope.kind=.function
 frs:∃es,F.A.frames=some es∧∀e∈es,e.scope.kind≠.module∧∃L∈F.frs,e.frame=some L
theorem Rel.up {hpN:List MO}(x:Rel C F ρ m s) (ok:aV F) (hs:ba s.heap s'.heap) (hpre:ρ<+:ρ') (hH:Hp C ρ' hpN s'.heap) (hnew:∀a∈ρ',a∈ρ∨s.heap.get? a=none)
  (hW:∀a∈F.W++F.V,kX s.heap s'.heap a) (ho:∀L∈F.frs,kX s.heap s'.heap L) (hg:s'.gens=s.gens):Rel C F ρ' ⟨m.vars,hpN⟩ s' where
 hp:=hH
 ns:=let ⟨f,hf⟩:=x.ns;⟨f,kr hf (hW _ (List.mem_append_left _ ok.loc)).e⟩
 w:=fun a ha=>by
  obtain ⟨h1,h2,o,h3,h4⟩:=x.w a ha
  obtain ⟨o',e',d',_⟩:=hW a ha o h3
  refine ⟨fun hm=>(hnew a hm).elim h1 fun q=>aO q h3,h2,o',e',by rw [d'];exact h4⟩
 vars:=fun i v e=>let ⟨l,h1,h2⟩:=x.vars i v e;⟨l,h1,h2.up hs hpre (hW _ (ok.lay i l h1))⟩
 cells:=fun i c e=>let ⟨v,h1⟩:=x.cells i c e;⟨v,mU h1 (hW c (ok.lay i _ e)).e⟩
 out:=fun L hL=>by
  obtain ⟨h1,h2,o,h3,es,n,h4⟩:=x.out L hL
  obtain ⟨o',e',d',_⟩:=ho L hL o h3
  exact ⟨fun hm=>(hnew L hm).elim h1 fun q=>aO q h3,h2,o',e',es,n,d'.trans h4⟩
 gens:=hg.trans x.gens
theorem Rel.grow (x:Rel C F ρ m s) (ok:aV F) (hk:∀a o,s.heap.get? a=some o→s'.heap.get? a=some o) (hg:s'.gens=s.gens) (hos:s'.os=s.os) :
  Rel C F ρ m s'∧ax F.W ρ s ρ s':=
 ⟨x.up ok (fun a o e _=>hk a o e) (List.prefix_refl _) (x.hp.up (fun a o e _=>hk a o e) (fun a _ o e=>hk a o e) fun b o e=>hk b o (x.hp.base b o e)) (fun a h=>.inl h) (fun a _ o e=>⟨o,hk a o e,rfl,rfl⟩)
  (fun L _ o e=>⟨o,hk L o e,rfl,rfl⟩) hg,
  ⟨List.prefix_refl _,fun _ h=>.inl h,fun a o e _ _=>.inl (hk a o e),fun a o e _=>hk a o e,fun a o e=>⟨o,hk a o e⟩,hg,hos⟩⟩
theorem Rel.tok (x:Rel C F ρ m s) (ok:aV F) (t:Nat):Rel C F ρ m { s with toks:=t }∧ax F.W ρ s ρ { s with toks:=t }:=x.grow ok (fun _ _ e=>e) rfl rfl
theorem bo {h:Heap}{a:Addr}(ha:h.objs.size≤a):h.get? a=none:=by
 cases e:h.get? a with
 | none=>rfl
 | some o=>exact absurd (Heap.lt_size e) (Nat.not_lt.mpr ha)
theorem bT (x:Hp C ρ m.heap s.heap) {a:Addr}(ha:s.heap.get? a=none):C.base.get? a=none:=by
 cases e:C.base.get? a with
 | none=>rfl
 | some o=>exact aO ha (x.base a o e)
theorem Hp.there (x:Hp C ρ m.heap s.heap) {a:Addr}(ha:a∈ρ):∃o,s.heap.get? a=some o:=by
 obtain ⟨i,hi,rfl⟩:=List.getElem_of_mem ha
 have hi':i<m.heap.length:=by rw [←x.len];exact hi
 have:=x.objs i m.heap[i] ρ[i] (List.getElem?_eq_getElem hi') (List.getElem?_eq_getElem hi)
 cases hm:m.heap[i] with
 | list xs=>rw [hm] at this;obtain ⟨_,_,e,_⟩:=this;exact ⟨_,e⟩
 | dict es=>rw [hm] at this;obtain ⟨_,⟨_,_,_,e,_⟩,_⟩:=this;exact ⟨_,e⟩
 | attrs es=>rw [hm] at this;obtain ⟨_,⟨_,_,_,e,_⟩,_⟩:=this;exact ⟨_,e⟩
 | exc c=>rw [hm] at this;obtain ⟨_,_,_,_,e,_⟩:=this;exact ⟨_,e⟩
theorem Rel.alloc (x:Rel C F ρ m s) (ok:aV F) (hk:∀a o,s.heap.get? a=some o→s'.heap.get? a=some o) (hg:s'.gens=s.gens) (hos:s'.os=s.os)
  {o:MO}{a:Addr}(ha:s.heap.get? a=none) (hr:kW C (ρ++[a]) s'.heap o a):Rel C F (ρ++[a]) (m.push o) s'∧ax F.W ρ s (ρ++[a]) s':=by
 have hn:∀b∈ρ++[a],b∈ρ∨s.heap.get? b=none:=fun b hb=>by
  rcases List.mem_append.mp hb with hb | hb
  ·exact .inl hb
  ·simp at hb;subst hb;exact .inr ha
 refine ⟨x.up ok (fun a o e _=>hk a o e) (List.prefix_append _ _) (x.hp.alloc (fun a o e _=>hk a o e) (fun a _ o e=>hk a o e) (fun b o e=>hk b o (x.hp.base b o e)) (fun hm=>?_) (bT x.hp ha) hr) hn
  (fun a _ o e=>⟨o,hk a o e,rfl,rfl⟩) (fun L _ o e=>⟨o,hk L o e,rfl,rfl⟩) hg,⟨List.prefix_append _ _,hn,fun a o e _ _=>.inl (hk a o e),fun a o e _=>hk a o e,fun a o e=>⟨o,hk a o e⟩,hg,hos⟩⟩
 obtain ⟨o',e⟩:=x.hp.there hm
 exact aO ha e
theorem cq {a:Addr}(hk:∀b o,b≠a→h.get? b=some o→h'.get? b=some o) (ha:∀o,h.get? a=some o→¬ g7 o):ba h h':=fun b o e hs=>by
 by_cases q:b=a
 ·subst q;exact absurd hs (ha o e)
 ·exact hk b o q e
theorem bU {o:MO}{a:Addr}(x:kW C ρ h o a):∀ob,h.get? a=some ob→¬ g7 ob:=fun ob e hs=>by
 cases o with
 | list xs=>
  obtain ⟨items,n,e',_⟩:=x
  obtain rfl:=same e' e
  exact ff hs
 | dict es=>
  obtain ⟨kvs,⟨o',ds,ep,e',_,hd,_⟩,_⟩:=x
  obtain rfl:=same e' e
  exact ff ((congrArg (ip o'.cls) hd).symm.trans hs)
 | attrs es=>
  obtain ⟨_,⟨o',ds,ep,e',hd,_⟩,_⟩:=x
  obtain rfl:=same e' e
  exact ff ((congrArg (ip o'.cls) hd).symm.trans hs)
 | exc c=>
  obtain ⟨_,o',vs,_,e',_,hd⟩:=x
  obtain rfl:=same e' e
  exact ff ((congrArg (ip o'.cls) hd).symm.trans hs)
theorem g8 {a:Addr}(x:WOk h a):∀ob,h.get? a=some ob→¬ g7 ob:=fun ob e hs=>by
 obtain ⟨o,e',d⟩:=x
 obtain rfl:=same e' e
 rcases d with ⟨es,k,d⟩ | ⟨v,d⟩
 ·exact ff ((congrArg (ip o.cls) d).symm.trans hs)
 ·exact ff ((congrArg (ip o.cls) d).symm.trans hs)
theorem kW.there {o:MO}{a:Addr}(x:kW C ρ h o a):∃ob,h.get? a=some ob:=by
 cases o with
 | list xs=>obtain ⟨_,_,e,_⟩:=x;exact ⟨_,e⟩
 | dict es=>obtain ⟨_,⟨_,_,_,e,_⟩,_⟩:=x;exact ⟨_,e⟩
 | attrs es=>obtain ⟨_,⟨_,_,_,e,_⟩,_⟩:=x;exact ⟨_,e⟩
 | exc c=>obtain ⟨_,_,_,_,e,_⟩:=x;exact ⟨_,e⟩
theorem Rel.put (x:Rel C F ρ m s) (ok:aV F) {i:Nat}{a:Addr}(hi:ρ[i]?=some a) {o₀ o:MO}(h0:m.heap[i]?=some o₀) (hk:∀b ob,b≠a→s.heap.get? b=some ob→s'.heap.get? b=some ob) (hg:s'.gens=s.gens) (hos:s'.os=s.os)
  (hr:kW C ρ s'.heap o a):Rel C F ρ (m.put i o) s'∧ax F.W ρ s ρ s':=by
 have ham:a∈ρ:=List.mem_of_getElem? hi
 have hs:ba s.heap s'.heap:=cq hk (bU (x.hp.objs i o₀ a h0 hi))
 have hb:C.base.StaysIn s'.heap:=fun b ob e=>hk b ob (fun q=>aO (x.hp.fresh a ham) (q▸e)) (x.hp.base b ob e)
 refine ⟨x.up ok hs (List.prefix_refl _) (x.hp.put hs hi (fun b hb hne ob e=>hk b ob hne e) hb hr) (fun b h=>.inl h) (fun b hb ob e=>⟨ob,hk b ob (fun q=>(x.w b hb).1 (q▸ham)) e,rfl,rfl⟩)
  (fun L hL ob eb=>⟨ob,hk L ob (fun q=>(x.out L hL).1 (q▸ham)) eb,rfl,rfl⟩) hg,⟨List.prefix_refl _,fun b h=>.inl h,fun b ob e h1 _=>.inl (hk b ob (fun q=>h1 (q▸ham)) e),hs,fun b ob e=>?_,hg,hos⟩⟩
 by_cases q:b=a
 ·subst q;exact hr.there
 ·exact ⟨ob,hk b ob q e⟩
theorem MS.get_at {m:MS}{i:Nat}{v:MV}(h:m.get i=some v):m.vars[i]?=some (some v):=by
 unfold MS.get at h
 cases e:m.vars[i]? with
 | none=>rw [e] at h;exact aB h
 | some o=>
  rw [e] at h
  cases o with
  | none=>exact aB h
  | some w=>exact congrArg (fun z=>some z) h
theorem MS.get_of {m:MS}{i:Nat}{v:MV}(h:m.vars[i]?=some (some v)):m.get i=some v:=by
 unfold MS.get;rw [h]
theorem MS.get_set (m:MS) (i j:Nat) (v w:MV) (h:(m.set i v).get j=some w):(j=i∧w=v)∨(j≠i∧m.get j=some w):=by
 have h:(m.vars.set i (some v))[j]?=some (some w):=MS.get_at h
 by_cases e:i=j
 ·subst e
  have hlt:i<m.vars.length:=by
   have:=(List.getElem?_eq_some_iff.mp h).1
   rw [List.length_set] at this;exact this
  rw [List.getElem?_set_self hlt] at h
  exact .inl ⟨rfl,(Option.some.inj (Option.some.inj h)).symm⟩
 ·rw [List.getElem?_set_ne e] at h
  exact .inr ⟨fun q=>e q.symm,MS.get_of h⟩
theorem Rel.own (x:Rel C F ρ m s) (ok:aV F) {a:Addr}(ha:a∈F.W) (hsb:Heap.SameBut a s.heap s'.heap) (hg:s'.gens=s.gens) (hos:s'.os=s.os) {m':MS}(hm:m'.heap=m.heap)
  (hw:WOk s'.heap a) (hfr:∀o,s.heap.get? a=some o→IsD o→∃o',s'.heap.get? a=some o'∧IsD o') (hns:∃f,s'.heap.Ns F.env.locals f) (hcell:∀v,s.heap.IsCell a v→∃w,s'.heap.IsCell a w)
  (hv:ba s.heap s'.heap→∀i v,m'.get i=some v→∃l,F.lay i=some l∧Holds C ρ s'.heap l v):Rel C F ρ m' s'∧ax F.W ρ s ρ s':=by
 have hk:∀b ob,b≠a→s.heap.get? b=some ob→s'.heap.get? b=some ob:=fun b ob q e=>(hsb.2 b q).trans e
 have hL:=x.w _ (List.mem_append_left _ ha)
 have hs:ba s.heap s'.heap:=cq hk (g8 hL.2.2)
 refine ⟨⟨?_,hns,fun b hb=>?_,hv hs,fun i c e=>?_,fun e he=>?_,hg.trans x.gens⟩,⟨List.prefix_refl _,fun b h=>.inl h,fun b ob e h1 h2=>.inl (hk b ob (fun q=>h2 (q▸ha)) e),hs,fun b ob e=>?_,hg,hos⟩⟩
 ·rw [hm]
  exact x.hp.up hs (fun b hb ob e=>hk b ob (fun q=>hL.1 (q▸hb)) e) fun b ob e=>hk b ob (fun q=>aO hL.2.1 (q▸e)) (x.hp.base b ob e)
 ·obtain ⟨h1,h2,o,h3,h4⟩:=x.w b hb
  refine ⟨h1,h2,?_⟩
  by_cases q:b=a
  ·subst q;exact hw
  ·exact ⟨o,hk b o q h3,h4⟩
 ·obtain ⟨v,o,h1,h2⟩:=x.cells i c e
  by_cases q:c=a
  ·subst q;exact hcell v ⟨o,h1,h2⟩
  ·exact ⟨v,o,hk c o q h1,h2⟩
 ·obtain ⟨h1,h2,o,h3,h4⟩:=x.out e he
  refine ⟨h1,h2,?_⟩
  by_cases q:e=a
  ·subst q;exact hfr o h3 h4
  ·exact ⟨o,hk e o q h3,h4⟩
 ·by_cases q:b=a
  ·subst q;obtain ⟨o,e,_⟩:=hw;exact ⟨o,e⟩
  ·exact ⟨ob,hk b ob q e⟩
theorem Rel.setName (x:Rel C F ρ m s) (ok:aV F) {i:Nat}{n:Str}(hi:F.lay i=some (.nm F.env.locals n)) {f:Str→Option Value}{v:Value}{w:MV}(hf:s.heap.Ns F.env.locals f)
  (hn:s'.heap.Ns F.env.locals (fun y=>if y=n then some v else f y)) (hsb:Heap.SameBut F.env.locals s.heap s'.heap) (hg:s'.gens=s.gens) (hos:s'.os=s.os) (hr:Rep C ρ s.heap w v) :
  Rel C F ρ (m.set i w) s'∧ax F.W ρ s ρ s':=by
 refine x.own ok ok.loc hsb hg hos rfl ?_ (fun _ _ _=>?_) ⟨_,hn⟩ (fun v hc=>?_) fun hs j u e=>?_
 ·obtain ⟨o,es,ep,ho,hd⟩:=qv hn
  exact ⟨o,ho,.inl ⟨es,ep,hd⟩⟩
 ·obtain ⟨o,es,ep,ho,hd⟩:=qv hn
  exact ⟨o,ho,es,ep,hd⟩
 ·exact fg hf hc
 ·rcases MS.get_set m i j w u e with ⟨rfl,rfl⟩ | ⟨hne,e⟩
  ·exact ⟨_,hi,_,v,hn,if_pos rfl,hr.up hs (List.prefix_refl _)⟩
  ·obtain ⟨l,h1,h2⟩:=x.vars j u e
   refine ⟨l,h1,?_⟩
   by_cases q:l.addr=F.env.locals
   ·cases l with
    | nm L y=>
     obtain rfl:L=F.env.locals:=q
     obtain ⟨g,z,g1,g2,g3⟩:=h2
     obtain rfl:=jz g1 hf
     exact ⟨_,z,hn,(if_neg fun q:y=n=>hne (ok.inj j i _ h1 (by rw [q];exact hi))).trans g2,g3.up hs (List.prefix_refl _)⟩
    | cl c=>
     obtain rfl:c=F.env.locals:=q
     obtain ⟨z,hc,_⟩:=h2
     exact fg hf hc
   ·exact h2.up hs (List.prefix_refl _) fun o e=>⟨o,(hsb.2 _ q).trans e,rfl,rfl⟩
theorem Rel.setCell (x:Rel C F ρ m s) (ok:aV F) {i:Nat}{c:Addr}(hi:F.lay i=some (.cl c)) (hcm:c∈F.W) {v₀:Option Value}{v:Value}{w:MV}(h0:s.heap.IsCell c v₀)
  (hn:s'.heap.IsCell c (some v)) (hsb:Heap.SameBut c s.heap s'.heap) (hg:s'.gens=s.gens) (hos:s'.os=s.os) (hr:Rep C ρ s.heap w v) :
  Rel C F ρ (m.set i w) s'∧ax F.W ρ s ρ s':=by
 refine x.own ok hcm hsb hg hos rfl ?_ (fun o e he=>?_) ?_ (fun _ _=>⟨_,hn⟩) fun hs j u e=>?_
 ·obtain ⟨o,ho,hd⟩:=hn
  exact ⟨o,ho,.inr ⟨_,hd⟩⟩
 ·obtain ⟨o',g1,g2⟩:=h0
  obtain ⟨_,_,he⟩:=he
  obtain rfl:=same e g1
  exact nomatch g2.symm.trans he
 ·obtain ⟨f,hf⟩:=x.ns
  exact ⟨f,hf.sameBut hsb fun q=>fg hf (q▸h0)⟩
 ·rcases MS.get_set m i j w u e with ⟨rfl,rfl⟩ | ⟨hne,e⟩
  ·exact ⟨_,hi,v,hn,hr.up hs (List.prefix_refl _)⟩
  ·obtain ⟨l,h1,h2⟩:=x.vars j u e
   refine ⟨l,h1,?_⟩
   by_cases q:l.addr=c
   ·cases l with
    | nm L y=>
     obtain rfl:L=c:=q
     obtain ⟨g,z,hg,_⟩:=h2
     exact fg hg h0
    | cl c'=>
     obtain rfl:c'=c:=q
     exact absurd (ok.inj j i _ h1 hi) hne
   ·exact h2.up hs (List.prefix_refl _) fun o e=>⟨o,(hsb.2 _ q).trans e,rfl,rfl⟩
end
end Internal
end
section
namespace Internal
open PySem
section
variable {C:Glo}{F:Fm}{X:XM}{ρ:List Addr}{m:MS}{s:Shared}{Q:PQ}{E:Value→Shared→Prop}{A:Around}
theorem kY {x:Int}(h:dT x):Builtin.Int.intBits x≤64:=by
 unfold dT at h
 refine intBits_le_64 ?_ ?_<;>lia
theorem tv {x y:Int}(h:0<y):x.fdiv y=x / y:=Int.fdiv_eq_ediv_of_nonneg x (Int.le_of_lt h)
theorem tw {x y:Int}(h:0<y):x.fmod y=x % y:=Int.fmod_eq_emod_of_nonneg x (Int.le_of_lt h)
theorem bD (R:Rel C F ρ m s) (ok:aV F) {x:MV}{v:Value}{t:Nat}(hr:Rep C ρ s.heap x v) (h:Q x m):Out C F ρ s Q v { s with toks:=t }:=
 let ⟨R',st⟩:=R.tok ok t;⟨ρ,m,x,st,R',hr,h⟩
theorem bx (R:Rel C F ρ m s) {x:MV}{v:Value}(hr:Rep C ρ s.heap x v) (h:Q x m):Out C F ρ s Q v s:=⟨ρ,m,x,.refl _ _ _,R,hr,h⟩
theorem nP (R:Rel C F ρ m s) (ok:aV F) {xs:List MV}{vs:List Value}(hr:aG C ρ s.heap xs vs) (hz:xs.length≤line) (h:Q (.tup xs) m) {t:Nat} :
  Out C F ρ s Q (.ref s.heap.objs.size) { s with heap:=s.heap.push (mK vs 0),toks:=t }:=by
 obtain ⟨R',st⟩:=R.grow (s':={ s with heap:=s.heap.push (mK vs 0),toks:=t }) ok (fun a o e=>Heap.get?_push_of_some _ e) rfl rfl
 exact ⟨ρ,m,_,st,R',.tup (Heap.get?_push_size _ rfl) (hr.step st) hz,h⟩
theorem nQ (R:Rel C F ρ m s) (ok:aV F) {xs:List MV}{vs:List Value}(hr:aG C ρ s.heap xs vs) (hz:xs.length≤line) (h:Q (.ref m.heap.length) (m.push (.list xs))) {t:Nat} :
  Out C F ρ s Q (.ref s.heap.objs.size) { s with heap:=s.heap.push (cR vs 0),toks:=t }:=by
 have hk:∀a o,s.heap.get? a=some o→(s.heap.push (cR vs 0)).get? a=some o:=fun a o e=>Heap.get?_push_of_some _ e
 obtain ⟨R',st⟩:=R.alloc (s':={ s with heap:=s.heap.push (cR vs 0),toks:=t }) ok hk rfl rfl (o:=.list xs) (a:=s.heap.objs.size) (bo (Nat.le_refl _))
  ⟨vs,0,Heap.get?_push_size _ rfl,hr.up (fun a o e _=>hk a o e) (List.prefix_append _ _),hz⟩
 refine ⟨_,_,_,st,R',.ref (i:=m.heap.length) ?_,h⟩
 rw [←R.hp.len,List.getElem?_append_right (Nat.le_refl _)];simp
theorem qw (x y:List Nat):str x++str y=str (x++y):=by
 show (⟨x.toArray++y.toArray⟩:Str)=⟨(x++y).toArray⟩
 simp
theorem cr (x:List Nat):(str x).length=x.length:=by simp [Str.length]
noncomputable def tx:Op→Operator
 | .add=>.Add | .sub=>.Sub | .mul=>.Mult | .fdiv=>.FloorDiv | .mod=>.Mod | .pow=>.Pow
theorem qx (R:Rel C F ρ m s) (ok:aV F) {x y:List MV}{v w:Value}(hx:Rep C ρ s.heap (.tup x) v) (hy:Rep C ρ s.heap (.tup y) w) (h:x.length+y.length≤line∧Q (.tup (x++y)) m) :
  wpAny (mod C) A (binaryOp .Add v w) (Out C F ρ s Q) E s:=by
 obtain ⟨hl,hq⟩:=h
 obtain ⟨t,n,vs,rfl,gx,lx,zx⟩:=hx.inv
 obtain ⟨b,n2,ws,rfl,gy,ly,zy⟩:=hy.inv
 have e:vs.toArray++ws.toArray=(vs++ws).toArray:=by simp
 by_cases hv:vs=[]
 ·subst hv
  obtain rfl:=List.length_eq_zero_iff.mp lx.length.symm
  exact concat_meets ⟨_,gx,rfl⟩ ⟨_,gy,rfl⟩ noFill_tuple_add seq_tuple_add PySem.F.slot_tuple_add PySem.F.entry_tuple_add (PySem.F.args_tuple_add_2 _ _)
   (PyProof.Rows.tuple_addW0 t b ([]:List Value).toArray ws.toArray n n2 none none #[] #[] (by simp)) ⟨gx,gy,bx R hy hq⟩
 ·by_cases hw:ws=[]
  ·subst hw
   obtain rfl:=List.length_eq_zero_iff.mp ly.length.symm
   exact concat_meets ⟨_,gx,rfl⟩ ⟨_,gy,rfl⟩ noFill_tuple_add seq_tuple_add PySem.F.slot_tuple_add PySem.F.entry_tuple_add (PySem.F.args_tuple_add_2 _ _)
    (PyProof.Rows.tuple_addW1 t b vs.toArray ([]:List Value).toArray n n2 none none #[] #[] (by simpa using hv) (by simp)) ⟨gx,gy,bx R hx (by rw [List.append_nil] at hq;exact hq)⟩
  ·refine concat_meets ⟨_,gx,rfl⟩ ⟨_,gy,rfl⟩ noFill_tuple_add seq_tuple_add PySem.F.slot_tuple_add PySem.F.entry_tuple_add (PySem.F.args_tuple_add_2 _ _)
    (PyProof.Rows.tuple_addW2 t b vs.toArray ws.toArray n n2 none none #[] #[] (by simpa using hv) (by simpa using hw) (by rw [List.size_toArray,List.size_toArray,lx.length,ly.length];exact hl)) ⟨gx,gy,?_⟩
   rw [e]
   exact nP R ok (lx.append ly) (by simpa using hl) hq
theorem u5 (R:Rel C F ρ m s) (ok:aV F) {op:Op}(hop:op≠.add) {x y:Int}{t u:Tok}(h:nM op x y Q m):wpAny (mod C) A (binaryOp (tx op) (.int x t) (.int y u)) (Out C F ρ s Q) E s:=by
 cases op with
 | add=>exact absurd rfl hop
 | sub=>exact PyProof.Rows.sub_int' (bD R ok (.int _ _) h)
 | mul=>exact PyProof.Rows.mul_int (bD R ok (.int _ _) h.2) (h.1.elim (fun h=>.of_left (kY h)) fun h=>.of_right (kY h))
 | fdiv=>
  obtain ⟨h1,h⟩:=iJ h
  have h1:=of_decide_eq_true h1
  refine PyProof.Rows.floordiv_int (Int.ne_of_gt h1.1) ?_ (.inl (PyProof.noPylong_small (Int.ofNat_lt.mp (by rw [Int.natAbs_of_nonneg (Int.le_of_lt h1.1)];exact h1.2))))
  rw [tv h1.1];exact bD R ok (.int _ _) h
 | mod=>
  obtain ⟨h1,h⟩:=iJ h
  have h1:=of_decide_eq_true h1
  refine PyProof.Rows.mod_int' (Int.ne_of_gt h1) ?_
  rw [tw h1];exact bD R ok (.int _ _) h
 | pow=>
  obtain ⟨h1,hq⟩:=iJ h
  obtain ⟨rfl,hy⟩:=of_decide_eq_true h1
  exact PyProof.Rows.pow_int_small (by rcases hy with rfl | rfl<;>decide) (by rcases hy with rfl | rfl<;>decide) (by decide) (bD R ok (.int _ _) hq)
theorem gE {f:Int→Int→Prop}{x y:MV}{v w:Value}(hx:Rep C ρ s.heap x v) (hy:Rep C ρ s.heap y w) (h:onI x fun a=>onI y fun b=>f a b):∃a b t u,v=.int a t∧w=.int b u∧f a b:=by
 obtain ⟨a,rfl,h1⟩:=nL h
 obtain ⟨b,rfl,h2⟩:=nL h1
 obtain ⟨t,rfl⟩:=hx.inv
 obtain ⟨u,rfl⟩:=hy.inv
 exact ⟨a,b,t,u,rfl,rfl,h2⟩
theorem u6 {op:Op}{x y:MV}{v w:Value}(hx:Rep C ρ s.heap x v) (hy:Rep C ρ s.heap y w) (h:kO op x y Q m):∃a b t u,v=.int a t∧w=.int b u∧nM op a b Q m:=gE hx hy h
theorem qy (R:Rel C F ρ m s) (ok:aV F) {a b:List Nat}{t u:Tok}(zx:a.length≤line) (zy:b.length≤line) (h:a.length+b.length≤line∧Q (.str (a++b)) m):wpAny (mod C) A (binaryOp .Add (.str (str a) t) (.str (str b) u)) (Out C F ρ s Q) E s:=by
 refine P.add_str ?_
 rw [cr,cr]
 by_cases ea:a=[]
 ·subst ea;exact bx R (.str b u zy) h.2
 ·by_cases eb:b=[]
  ·subst eb;rw [if_neg (by simpa using ea)];exact bx R (.str a t zx) (by rw [List.append_nil] at h;exact h.2)
  ·rw [if_neg (by simpa using ea),if_neg (by simpa using eb),qw]
   refine ⟨by rw [cr,List.length_append];exact h.1,bD R ok (.str _ _ (by rw [List.length_append];exact h.1)) h.2⟩
theorem o6 (R:Rel C F ρ m s) (ok:aV F) {i j:Nat}{v w:Value}(hx:Rep C ρ s.heap (.ref i) v) (hy:Rep C ρ s.heap (.ref j) w) (h:uW (.ref i) (.ref j) Q m):wpAny (mod C) A (binaryOp .Add v w) (Out C F ρ s Q) E s:=by
 obtain ⟨a,rfl,ea⟩:=hx.inv
 obtain ⟨b,rfl,eb⟩:=hy.inv
 obtain ⟨x,e1,h⟩:=cD h
 obtain ⟨y,e2,h1,h2⟩:=cD h
 obtain ⟨ix,nx,gx,lx,zx⟩:=R.hp.objs _ _ _ e1 ea
 obtain ⟨iy,ny,gy,ly,zy⟩:=R.hp.objs _ _ _ e2 eb
 have e:ix.toArray++iy.toArray=(ix++iy).toArray:=List.append_toArray ..
 refine P.add_list gx gy ?_ (by rw [List.size_toArray,List.size_toArray,lx.length,ly.length];exact h1)
 rw [e]
 exact nQ R ok (lx.append ly) (by rw [List.length_append];exact h1) h2
theorem BU (R:Rel C F ρ m s) (ok:aV F) {x y:MV}{v w:Value}(hx:Rep C ρ s.heap x v) (hy:Rep C ρ s.heap y w) (h:uW x y Q m):wpAny (mod C) A (binaryOp (tx .add) v w) (Out C F ρ s Q) E s:=by
 refine Classical.byContradiction fun hn=>?_
 cases x with
 | int a=>
  cases y with
  | int b=>
   obtain ⟨t,rfl⟩:=hx.inv
   obtain ⟨u,rfl⟩:=hy.inv
   exact hn (wpAny_add_int (bD R ok (.int _ _) h))
  | _=>exact h
 | str a=>
  cases y with
  | str b=>
   obtain ⟨t,rfl,zx⟩:=hx.inv
   obtain ⟨u,rfl,zy⟩:=hy.inv
   exact hn (qy R ok zx zy h)
  | _=>exact h
 | tup a=>
  cases y with
  | tup b=>exact hn (qx R ok hx hy h)
  | _=>exact h
 | ref i=>
  cases y with
  | ref j=>exact hn (o6 R ok hx hy h)
  | _=>exact h
 | _=>exact h
end
end Internal
end
section
namespace Internal
open PySem PyProof.Rows
section
variable {C:Glo}{F:Fm}{ρ:List Addr}{m:MS}{s:Shared}{Q:PQ}{E:Value→Shared→Prop}{A:Around}
theorem BV (R:Rel C F ρ m s) (ok:aV F) {x y:MV}{v w:Value}(hx:Rep C ρ s.heap x v) (hy:Rep C ρ s.heap y w) (h:AZ x y Q m):wpAny (mod C) A (binaryOp (tx .mul) v w) (Out C F ρ s Q) E s:=by
 have h:kO .mul x y Q m:=by
  cases y with
  | int j=>
   cases x with
   | int i=>exact h
   | str s=>exact absurd (show qj=true from h.1) (by decide)
   | ref i=>
    obtain ⟨xs,_,h⟩:=cD h
    obtain ⟨v,_,h,_⟩:=kp h
    exact absurd h (by decide)
   | _=>exact h.elim
  | _=>exact h.elim
 obtain ⟨a,b,t,u,rfl,rfl,h⟩:=u6 hx hy h
 exact u5 R ok (by intro q;cases q) h
end
end Internal
end
section
namespace Internal
open PySem PyProof.Rows
section
variable {C:Glo}{F:Fm}{ρ:List Addr}{m:MS}{s:Shared}{Q:PQ}{E:Value→Shared→Prop}{A:Around}
theorem BW (R:Rel C F ρ m s) (ok:aV F) {op:Op}{x y:MV}{v w:Value}(hx:Rep C ρ s.heap x v) (hy:Rep C ρ s.heap y w) (h:A8 op x y Q m) :
  wpAny (mod C) A (binaryOp (tx op) v w) (Out C F ρ s Q) E s:=by
 have key:op≠.add→kO op x y Q m→wpAny (mod C) A (binaryOp (tx op) v w) (Out C F ρ s Q) E s:=fun hop h=>by
  obtain ⟨a,b,t,u,rfl,rfl,h⟩:=u6 hx hy h
  exact u5 R ok hop h
 cases op with
 | add=>exact BU R ok hx hy h
 | mul=>exact BV R ok hx hy h
 | sub=>exact key (by intro q;cases q) h
 | fdiv=>exact key (by intro q;cases q) h
 | mod=>exact key (by intro q;cases q) h
 | pow=>exact key (by intro q;cases q) h
end
end Internal
end
section
set_option maxRecDepth 100000
namespace Internal
open PySem PyProof.Rows
theorem yE (n:Nat):dec n=(Nat.toDigits 10 n).map Char.toNat:=by
 show (Nat.repr n).toList.map Char.toNat=_
 rw [Nat.toList_repr]
theorem rR {i:Int}(h:0≤i∧i<1000000):1≤(dec i).length∧(dec i).length≤6:=by
 obtain ⟨n,rfl⟩:=Int.eq_ofNat_of_zero_le h.1
 have e:(dec n).length=(Nat.repr n).length:=by
  show ((Nat.repr n).toList.map Char.toNat).length=_
  rw [List.length_map,String.length_toList]
 refine ⟨?_,?_⟩
 ·rw [yE,List.length_map]
  exact toDigits_len_ge 10 n
 ·rw [e]
  exact (Nat.length_repr_le_iff (by decide)).mpr (by lia)
end Internal
end
section
namespace Internal
open PySem
mutual
noncomputable def D.py:D→PyData
 | .none=>.none
 | .bool b=>.bool b
 | .int i=>.int i
 | .str s=>.str (Internal.str s)
 | .list xs=>.list (D.pys xs)
 | .tup xs=>.tuple (D.pys xs)
noncomputable def D.pys:List D→List PyData
 | []=>[]
 | x::xs=>D.py x::D.pys xs
end
theorem kZ {x y:List Nat}:(Internal.str x==Internal.str y)=(x==y):=by
 rw [Bool.eq_iff_iff];simp
mutual
theorem D.eqv_py:∀(d e:D),PyData.eqv d.py e.py=d.deq e
 | .none,e=>by cases e<;>rfl
 | .bool b,e=>by cases e<;>rfl
 | .int b,e=>by cases e<;>rfl
 | .str b,e=>by
  cases e with
  | str c=>exact kZ
  | _=>rfl
 | .list xs,e=>by
  cases e with
  | list ys=>exact D.eqvs_py xs ys
  | _=>rfl
 | .tup xs,e=>by
  cases e with
  | tup ys=>exact D.eqvs_py xs ys
  | _=>rfl
theorem D.eqvs_py:∀(d e:List D),PyData.eqvAll (D.pys d) (D.pys e)=D.deqs d e
 | [],[]=>rfl
 | [],_::_=>rfl
 | _::_,[]=>rfl
 | x::xs,y::ys=>by show (PyData.eqv x.py y.py&&PyData.eqvAll (D.pys xs) (D.pys ys))=(x.deq y&&D.deqs xs ys);rw [D.eqv_py x y,D.eqvs_py xs ys]
end
mutual
theorem D.lay_py:∀(d:D),d.ok=true→d.py.canLay0=true
 | .none,_=>rfl
 | .bool b,_=>rfl
 | .int b,_=>rfl
 | .str b,h=>by
  show PyData.strOk (Internal.str b)=true
  simp only [PyData.strOk,List.all_toArray,List.all_eq_true,decide_eq_true_eq]
  intro c hc;have:=of_decide_eq_true (List.all_eq_true.mp h c hc);exact Nat.le_trans this (nb rfl)
 | .list xs,h=>D.lays_py xs h
 | .tup xs,h=>D.lays_py xs h
theorem D.lays_py:∀(d:List D),D.oks d=true→PyData.canLayAll0 (D.pys d)=true
 | [],_=>rfl
 | x::xs,h=>by
  have h:x.ok=true∧D.oks xs=true:=(Bool.and_eq_true_iff ..).mp h
  exact (Bool.and_eq_true_iff ..).mpr ⟨D.lay_py x h.1,D.lays_py xs h.2⟩
end
mutual
theorem D.depth_py:∀(d:D),d.py.depth=d.deep
 | .none=>rfl
 | .bool b=>rfl
 | .int b=>rfl
 | .str b=>rfl
 | .list xs=>by show PyData.depthAll (D.pys xs)+1=D.deeps xs+1;rw [D.depths_py xs]
 | .tup xs=>by show PyData.depthAll (D.pys xs)+1=D.deeps xs+1;rw [D.depths_py xs]
theorem D.depths_py:∀(d:List D),PyData.depthAll (D.pys d)=D.deeps d
 | []=>rfl
 | x::xs=>by show max x.py.depth (PyData.depthAll (D.pys xs))=max x.deep (D.deeps xs);rw [D.depth_py x,D.depths_py xs]
end
section
variable {C:Glo}{F:Fm}{X:XM}{ρ:List Addr}{m:MS}{s:Shared}{E:Value→Shared→Prop}{A:Around}{h:Heap}{hp:List MO}
theorem Rd.both (H:Hp C ρ hp h):(∀{x:MV}{d:D},Rd hp x d→∀v,Rep C ρ h x v→∃as,Reads h v d.py as)∧(∀{x:List MV}{d:List D},Rds hp x d→∀v,aG C ρ h x v→∃as,ReadsAll h v (D.pys d) as):=by
 have k1:∀v,Rep C ρ h .none v→∃as,Reads h v D.none.py as:=fun v r=>by obtain rfl:=r.inv;exact ⟨_,.none⟩
 have k2:∀b v,Rep C ρ h (.bool b) v→∃as,Reads h v (D.bool b).py as:=fun b v r=>by obtain rfl:=r.inv;exact ⟨_,.bool b⟩
 have k3:∀i v,Rep C ρ h (.int i) v→∃as,Reads h v (D.int i).py as:=fun i v r=>by obtain ⟨t,rfl⟩:=r.inv;exact ⟨_,.int i t⟩
 have k4:∀s v,Rep C ρ h (.str s) v→∃as,Reads h v (D.str s).py as:=fun s v r=>by obtain ⟨t,rfl,_⟩:=r.inv;exact ⟨_,.str _ t⟩
 have k5:∀{xs ds},Rds hp xs ds→(∀v,aG C ρ h xs v→∃as,ReadsAll h v (D.pys ds) as)→∀v,Rep C ρ h (.tup xs) v→∃as,Reads h v (D.tup ds).py as:=fun _ ih v r=>by
  obtain ⟨a,n,items,rfl,g,l,_⟩:=r.inv
  obtain ⟨as,q⟩:=ih _ l
  exact ⟨_,.tuple g rfl rfl q⟩
 have k6:∀{i xs ds},hp[i]?=some (.list xs)→Rds hp xs ds→(∀v,aG C ρ h xs v→∃as,ReadsAll h v (D.pys ds) as)→∀v,Rep C ρ h (.ref i) v→∃as,Reads h v (D.list ds).py as:=fun hi _ ih v r=>by
  obtain ⟨a,rfl,e⟩:=r.inv
  obtain ⟨items,n,g,r,_⟩:=H.objs _ _ _ hi e
  obtain ⟨as,q⟩:=ih _ r
  exact ⟨_,.list g rfl rfl q⟩
 have k7:∀v,aG C ρ h [] v→∃as,ReadsAll h v (D.pys []) as:=fun v r=>by obtain rfl:=r.inv;exact ⟨_,.nil⟩
 have k8:∀{x xs d ds},Rd hp x d→Rds hp xs ds→(∀v,Rep C ρ h x v→∃as,Reads h v d.py as)→(∀v,aG C ρ h xs v→∃as,ReadsAll h v (D.pys ds) as)→∀v,aG C ρ h (x::xs) v→∃as,ReadsAll h v (D.pys (d::ds)) as:=fun _ _ i1 i2 v r=>by
  obtain ⟨w,ws,rfl,a,b⟩:=r.inv
  obtain ⟨as,q⟩:=i1 _ a
  obtain ⟨bs,q'⟩:=i2 _ b
  exact ⟨_,.cons q q'⟩
 exact ⟨fun r=>Rd.rec (motive_1:=fun x d _=>∀v,Rep C ρ h x v→∃as,Reads h v d.py as) (motive_2:=fun x d _=>∀v,aG C ρ h x v→∃as,ReadsAll h v (D.pys d) as) k1 k2 k3 k4 k5 k6 k7 k8 r,
  fun r=>Rds.rec (motive_1:=fun x d _=>∀v,Rep C ρ h x v→∃as,Reads h v d.py as) (motive_2:=fun x d _=>∀v,aG C ρ h x v→∃as,ReadsAll h v (D.pys d) as) k1 k2 k3 k4 k5 k6 k7 k8 r⟩
theorem Rd.reads (H:Hp C ρ hp h) {x:MV}{d:D}{v:Value}(r:Rd hp x d) (q:Rep C ρ h x v):∃as,Reads h v d.py as:=(Rd.both H).1 r v q
inductive fM (s:Shared) (P:Bool→Prop) (r:Value) (s':Shared):Prop
 | mk (b:Bool) (t:Nat) (hr:r=.bool b) (hs:s'={ s with toks:=t }) (hp:P b):fM s P r s'
theorem BX (R:Hp C ρ hp s.heap) {x y:MV}{v w:Value}(hx:Rep C ρ s.heap x v) (hy:Rep C ρ s.heap y w) {d e:D}(hd:Rd hp x d) (he:Rd hp y e) (hk:d.deep≤1000) (h1:d.ok=true) (h2:e.ok=true)
  (hu:A.units+1000<cLine) {P:Bool→Prop}(h:P (d.deq e)):wpAny (mod C) A (compareOp .Eq v w) (fM s P) E s:=by
 obtain ⟨as,ra⟩:=hd.reads R hx
 obtain ⟨bs,rb⟩:=he.reads R hy
 refine SeqAt.compareEq_reads ra rb (d.lay_py h1) (e.lay_py h2) ?_ ⟨_,s.toks,rfl,rfl,?_⟩
 ·rw [D.depth_py,D.depth_py];exact Nat.lt_of_le_of_lt (Nat.add_le_add_left (Nat.le_trans (Nat.min_le_left ..) hk) _) hu
 ·rw [D.eqv_py];exact h
theorem BZ (R:Hp C ρ hp s.heap) {x y:MV}{v w:Value}(hx:Rep C ρ s.heap x v) (hy:Rep C ρ s.heap y w) {d e:D}(hd:Rd hp x d) (he:Rd hp y e) (hk:d.deep≤1000) (h1:d.ok=true) (h2:e.ok=true)
  (hu:A.units+1000<cLine) {P:Bool→Prop}(h:P (!d.deq e)):wpAny (mod C) A (compareOp .NotEq v w) (fM s P) E s:=by
 obtain ⟨as,ra⟩:=hd.reads R hx
 obtain ⟨bs,rb⟩:=he.reads R hy
 refine SeqAt.compareNe_reads ra rb (d.lay_py h1) (e.lay_py h2) ?_ ⟨_,s.toks,rfl,rfl,?_⟩
 ·rw [D.depth_py,D.depth_py];exact Nat.lt_of_le_of_lt (Nat.add_le_add_left (Nat.le_trans (Nat.min_le_left ..) hk) _) hu
 ·rw [D.eqv_py];exact h
open SeqAt in
theorem u7 {x y:MV}{v w:Value}(hx:Rep C ρ s.heap x v) (hy:Rep C ρ s.heap y w) {b:Bool}(h:aeq x y=some b):RcAt A s v w b∧RcNeAt A s v w (!b):=by
 refine Classical.byContradiction fun hn=>?_
 have key:∀{c:Bool},RcAt A s v w c∧RcNeAt A s v w (!c)→some c=some b→False:=fun {c} q e=>by obtain rfl:=Option.some.inj e;exact hn q
 clear hn
 cases x with
 | none=>
  cases hx.inv
  cases y with
  | none=>cases hy.inv;exact key ⟨RcAt.none_none,RcNeAt.none_none⟩ h
  | bool q=>cases hy.inv;exact key ⟨RcAt.none_bool q,RcNeAt.none_bool q⟩ h
  | int q=>obtain ⟨t,rfl⟩:=hy.inv;exact key ⟨RcAt.none_int q t,RcNeAt.none_int q t⟩ h
  | str q=>obtain ⟨t,rfl,_⟩:=hy.inv;exact key ⟨RcAt.none_str (Internal.str q) t,RcNeAt.none_str (Internal.str q) t⟩ h
  | _=>exact aB h
 | bool p=>
  cases hx.inv
  cases y with
  | none=>cases hy.inv;exact key ⟨RcAt.bool_none p,RcNeAt.bool_none p⟩ h
  | bool q=>cases hy.inv;exact key ⟨RcAt.bool_bool p q,RcNeAt.bool_bool p q⟩ h
  | str q=>obtain ⟨t,rfl,_⟩:=hy.inv;exact key ⟨RcAt.bool_str p (Internal.str q) t,RcNeAt.bool_str p (Internal.str q) t⟩ h
  | _=>exact aB h
 | int p=>
  obtain ⟨u,rfl⟩:=hx.inv
  cases y with
  | none=>cases hy.inv;exact key ⟨RcAt.int_none p u,RcNeAt.int_none p u⟩ h
  | int q=>obtain ⟨t,rfl⟩:=hy.inv;exact key ⟨RcAt.int_int p u q t,RcNeAt.int_int p u q t⟩ h
  | str q=>obtain ⟨t,rfl,_⟩:=hy.inv;exact key ⟨RcAt.int_str p u (Internal.str q) t,RcNeAt.int_str p u (Internal.str q) t⟩ h
  | _=>exact aB h
 | str p=>
  obtain ⟨u,rfl,_⟩:=hx.inv
  cases y with
  | none=>cases hy.inv;exact key ⟨RcAt.str_none (Internal.str p) u,RcNeAt.str_none (Internal.str p) u⟩ h
  | bool q=>cases hy.inv;exact key ⟨RcAt.str_bool (Internal.str p) u q,RcNeAt.str_bool (Internal.str p) u q⟩ h
  | int q=>obtain ⟨t,rfl⟩:=hy.inv;exact key ⟨RcAt.str_int (Internal.str p) u q t,RcNeAt.str_int (Internal.str p) u q t⟩ h
  | str q=>obtain ⟨t,rfl,_⟩:=hy.inv;exact key ⟨RcAt.str_str (Internal.str p) u (Internal.str q) t,RcNeAt.str_str (Internal.str p) u (Internal.str q) t⟩ ((congrArg some kZ).trans h)
  | _=>exact aB h
 | _=>exact aB h
end
end Internal
end
section
namespace Internal
open PySem
structure GX (C:Glo):Prop where
 nox:∀k,C.xa k=none
end Internal
end
section
namespace Internal
open PySem
structure GOk (C:Glo):Prop where
 sys:(C.base.get? sysModules).isSome=true
 nolimit:C.base.NoLimit
 fns:∀f a,C.fa f=some a→∃o fd,C.base.get? a=some o∧o.data=.func fd
 cls:∀k K,C.ca k=some K→∃N,PyProof.Rows.ClsAt C.base K N (C.cm k)
 quiet:∀k K,C.ca k=some K→C.cm k "__setattr__"=none∧C.cm k "__getattribute__"=none∧C.cm k "__getattr__"=none
 x:GX C
section
variable {C:Glo}{F:Fm}{X:XM}{ρ:List Addr}{m:MS}{s:Shared}{E:Value→Shared→Prop}{A:Around}{h:Heap}{hp:List MO}
theorem kt (G:GOk C) (H:Hp C ρ hp h) {a:Addr}(ha:a∈ρ):(a==sysModules)=false:=by
 have:=H.fresh a ha
 cases e:a==sysModules with
 | false=>rfl
 | true=>
  have:a=sysModules:=by simpa using e
  subst this
  have g:=G.sys
  rw [H.fresh _ ha] at g
  exact ff g
theorem dS.length {es:List (List Nat × MV)}{kvs:List (Str × Value)}(r:dS C ρ h es kvs):kvs.length=es.length:=by
 induction r with
 | nil=>rfl
 | cons _ _ _ ih=>exact congrArg (·+1) ih
theorem iL {x y:List Nat}(e:str x=str y):x=y:=by
 have:(str x).cps.toList=(str y).cps.toList:=by rw [e]
 simpa using this
theorem dS.get {es:List (List Nat × MV)}{kvs:List (Str × Value)}(r:dS C ρ h es kvs) (k:List Nat):match aE es k with
  | some x=>∃v,valueAt kvs (str k)=some v∧Rep C ρ h x v
  | none=>valueAt kvs (str k)=none:=by
 induction r with
 | nil=>rfl
 | @cons k' x v es ds z a b ih=>
  show match (match k'==k with
   | true=>some x
   | false=>aE es k) with
  | some x=>∃v',valueAt ((str k',v)::ds) (str k)=some v'∧Rep C ρ h x v'
  | none=>valueAt ((str k',v)::ds) (str k)=none
  by_cases e:k'=k
  ·subst e
   rw [beq_self_eq_true]
   exact ⟨v,by simp [valueAt],a⟩
  ·have e2:¬ str k'=str k:=fun q=>e (iL q)
   have e1:(k'==k)=false:=by simpa using e
   have ev:valueAt ((str k',v)::ds) (str k)=valueAt ds (str k):=by simp [valueAt,e2]
   rw [e1,ev]
   exact ih
end
end Internal
end
section
namespace Internal
open PySem
section
variable {C:Glo}{F:Fm}{X:XM}{ρ:List Addr}{m:MS}{s:Shared}{E:Value→Shared→Prop}{A:Around}{h:Heap}{hp:List MO}
theorem mV (hud:Ed=true) (G:GOk C) (R:Hp C ρ hp s.heap) {i j:Nat}{v w:Value}(hx:Rep C ρ s.heap (.ref i) v) (hy:Rep C ρ s.heap (.ref j) w) {es:List (List Nat × MV)}(hi:hp[i]?=some (.dict es)) (hj:hp[j]?=some (.dict es))
  (hl:∀e∈es,∃k,e.2=.int k) (hn:(es.map (·.1)).Nodup) (hu:A.units<cLine) {Q:Value→Shared→Prop} :
  (Q (.bool true) s→wpAny (mod C) A (compareOp .Eq v w) Q E s)∧(Q (.bool false) s→wpAny (mod C) A (compareOp .NotEq v w) Q E s):=absurd hud (by decide)
end
end Internal
end
section
namespace Internal
open PySem
section
variable {C:Glo}{F:Fm}{X:XM}{ρ:List Addr}{m:MS}{s:Shared}{Q:PQ}{E:Value→Shared→Prop}{A:Around}{h:Heap}{hp:List MO}
noncomputable def ED (hp:List MO) (xs:List MV) (ds:List D):Prop:=match xs with
 | []=>ds=[]
 | x::r=>∃d es,ds=d::es∧Rd hp x d∧Rds hp r es
theorem Rds.inv {xs:List MV}{ds:List D}(r:Rds hp xs ds):ED hp xs ds:=Rds.casesOn (motive_2:=fun xs ds _=>ED hp xs ds) r rfl (fun a b=>⟨_,_,rfl,a,b⟩)
theorem Rds.get {xs:List MV}{ds:List D}(r:Rds hp xs ds) {j:Nat}{x:MV}(e:xs[j]?=some x):∃d,ds[j]?=some d∧Rd hp x d:=by
 induction xs generalizing ds j with
 | nil=>exact aB e
 | cons y xs ih=>
  obtain ⟨d,es,rfl,a,b⟩:=r.inv
  cases j with
  | zero=>obtain rfl:=Option.some.inj e;exact ⟨_,rfl,a⟩
  | succ j=>exact ih b e
theorem Rds.length {xs:List MV}{ds:List D}(r:Rds hp xs ds):ds.length=xs.length:=by
 induction xs generalizing ds with
 | nil=>rw [r.inv];rfl
 | cons y xs ih=>
  obtain ⟨d,es,rfl,a,b⟩:=r.inv
  exact congrArg (·+1) (ih b)
theorem rS:∀{ds:List D},D.oks ds=true→∀{j:Nat}{d:D},ds[j]?=some d→d.ok=true
 | [],_,_,_,e=>by exact aB e
 | d::ds,h,0,_,e=>by obtain rfl:=Option.some.inj e;exact ((Bool.and_eq_true_iff ..).mp h).1
 | d::ds,h,i+1,_,e=>rS ((Bool.and_eq_true_iff ..).mp h).2 e
theorem B0 (H:Hp C ρ hp s.heap) {x y:MV}{v w:Value}(hx:Rep C ρ s.heap x v) (hy:Rep C ρ s.heap y w) {d e:D}(hd:Rd hp x d) (he:Rd hp y e) (hk:e.deep≤1000) (h1:d.ok=true) (h2:e.ok=true)
  (hu:A.units+1000<cLine):SeqAt.EqAt A s v w (d.deq e):=by
 obtain ⟨as,ra⟩:=hd.reads H hx
 obtain ⟨bs,rb⟩:=he.reads H hy
 rw [←D.eqv_py]
 exact SeqAt.eqAt_reads _ _ A s v w _ _ ra rb (d.lay_py h1) (e.lay_py h2) (by rw [D.depth_py,D.depth_py];exact Nat.lt_of_le_of_lt (Nat.add_le_add_left (Nat.le_trans (Nat.min_le_right ..) hk) _) hu)
open Classical in
theorem tz (H:Hp C ρ hp s.heap) {x:MV}{v:Value}{ys:List MV}{ws:List Value}(hx:Rep C ρ s.heap x v) (hy:aG C ρ s.heap ys ws) {d:D}{es:List D}(hd:Rd hp x d) (he:Rds hp ys es) (hk:d.deep≤1000)
  (h1:d.ok=true) (h2:D.oks es=true) (hu:A.units+1000<cLine) :
  ∃e:Value→Bool,(∀y,y∈ws.toArray→SeqAt.EqAt A s y v (e y))∧ws.toArray.any e=es.any (fun e=>e.deq d):=by
 have item:∀j y,ws[j]?=some y→∃e:D,es[j]?=some e∧SeqAt.EqAt A s y v (e.deq d):=fun j y hj=>by
  have hlt:j<ys.length:=by rw [←hy.length];exact (List.getElem?_eq_some_iff.mp hj).1
  obtain ⟨e,e1,e2⟩:=he.get (List.getElem?_eq_getElem hlt)
  obtain ⟨w,w1,w2⟩:=hy.get (List.getElem?_eq_getElem hlt)
  obtain rfl:=same hj w1
  exact ⟨e,e1,B0 H w2 hx e2 hd hk (rS h2 e1) h1 hu⟩
 refine ⟨fun y=>decide (∃(j:Nat) (e:D),ws[j]?=some y∧es[j]?=some e∧e.deq d=true),fun y hy'=>?_,?_⟩
 ·obtain ⟨j,hj⟩:=List.mem_iff_getElem?.mp (by simpa using hy':y∈ws)
  obtain ⟨e,e1,e2⟩:=item j y hj
  show SeqAt.EqAt A s y v (decide (∃(j:Nat) (e:D),ws[j]?=some y∧es[j]?=some e∧e.deq d=true))
  by_cases q:∃(j:Nat) (e:D),ws[j]?=some y∧es[j]?=some e∧e.deq d=true
  ·rw [decide_eq_true q]
   obtain ⟨k,e',k1,k2,k3⟩:=q
   obtain ⟨e'',e3,e4⟩:=item k y k1
   obtain rfl:=same k2 e3
   rw [k3] at e4;exact e4
  ·rw [decide_eq_false q]
   cases b:e.deq d with
   | false=>rw [b] at e2;exact e2
   | true=>exact absurd ⟨j,e,hj,e1,b⟩ q
 ·rw [Bool.eq_iff_iff]
  simp only [List.any_toArray,List.any_eq_true,decide_eq_true_eq]
  constructor
  ·rintro ⟨y,_,j,e,_,h4,h5⟩
   exact ⟨e,List.mem_of_getElem? h4,h5⟩
  ·rintro ⟨e,he',h5⟩
   obtain ⟨j,hj⟩:=List.mem_iff_getElem?.mp he'
   have hlt:j<ws.length:=by rw [hy.length,←he.length];exact (List.getElem?_eq_some_iff.mp hj).1
   exact ⟨ws[j],List.getElem_mem hlt,j,e,List.getElem?_eq_getElem hlt,hj,h5⟩
theorem qz {x:MV}{v:Value}{ys:List MV}{ws:List Value}{a:Addr}(H:Hp C ρ hp s.heap) (hx:Rep C ρ s.heap x v) (l:aG C ρ s.heap ys ws) {P:Bool→Prop}(hu:A.units+1001<cLine) (h:InP hp x ys P)
  (k:∀e:Value→Bool,(∀y,y∈ws.toArray→SeqAt.EqAt A.in1 s y v (e y))→fM s P (.bool (ws.toArray.any e)) s→wpAny (mod C) A (compareOp .In v (.ref a)) (fM s P) E s):wpAny (mod C) A (compareOp .In v (.ref a)) (fM s P) E s:=by
 obtain ⟨d,es,hd,he,hk,h1,h2,hq⟩:=h
 obtain ⟨e,e1,e2⟩:=tz (A:=A.in1) H hx l hd he hk h1 h2 (by simp;exact hu)
 exact k e e1 ⟨_,s.toks,rfl,rfl,by rw [e2];exact hq⟩
theorem dU (prog:Program) (w:World) (x:Str) (t:Tok):(strKind prog w).is x (.str x t)=true:=by simp [strKind,Value.isStrOf]
theorem rT (H:Hp C ρ hp s.heap) {x:MV}{v:Value}{a:Addr}{es:List (List Nat × MV)}{kvs:List (Str × Value)}(hx:Rep C ρ s.heap x v) (hs:(a==sysModules)=false) (dk:s.heap.DictOf (strKind C.prog C.w) a kvs) (rk:dS C ρ s.heap es kvs) {P:Bool→Prop}(h:onS x fun s=>P (aE es s).isSome) :
  wpAny (mod C) A (compareOp .In v (.ref a)) (fM s P) E s:=by
 obtain ⟨k,rfl,hq⟩:=kn h
 obtain ⟨t,rfl,_⟩:=hx.inv
 refine wpAny_in_of (dU C.prog C.w (str k) t) hs dk.mapOf ⟨_,s.toks+1,rfl,rfl,?_⟩
 have:=rk.get k
 cases e:aE es k with
 | none=>rw [e] at this hq;rw [this];exact hq
 | some x=>rw [e] at this hq;obtain ⟨v,e',_⟩:=this;rw [e'];exact hq
theorem B1 (G:GOk C) (H:Hp C ρ hp s.heap) {x:MV}{i:Nat}{v w:Value}(hx:Rep C ρ s.heap x v) (hc:Rep C ρ s.heap (.ref i) w) {P:Bool→Prop}(hu:A.units+1001<cLine) (h:AY hp[i]? x P hp) :
  wpAny (mod C) A (compareOp .In v w) (fM s P) E s:=by
 obtain ⟨a,rfl,g⟩:=hc.inv
 obtain ⟨ys,hi,h⟩ | ⟨es,hi,h⟩:=iK h
 ·obtain ⟨items,n,gi,l,_⟩:=H.objs _ _ _ hi g
  exact qz H hx l hu h fun e e1 e2=>SeqAt.in_listAt e ⟨_,gi,rfl,_,rfl⟩ e1 e2
 ·obtain ⟨kvs,dk,rk,_⟩:=H.objs _ _ _ hi g
  exact rT H hx (kt G H (List.mem_of_getElem? g)) dk rk h
theorem Be (G:GOk C) (H:Hp C ρ hp s.heap) {x c:MV}{v w:Value}(hx:Rep C ρ s.heap x v) (hc:Rep C ρ s.heap c w) {P:Bool→Prop}(hu:A.units+1001<cLine) (h:BM x c P hp) :
  wpAny (mod C) A (compareOp .In v w) (fM s P) E s:=by
 refine Classical.byContradiction fun hn=>?_
 cases c with
 | tup ys=>
  obtain ⟨a,n,items,rfl,g,l,_⟩:=hc.inv
  exact hn (qz H hx l hu h fun e e1 e2=>SeqAt.in_tupleAt e ⟨_,g,rfl,_,rfl⟩ e1 e2)
 | gt ss=>
  obtain ⟨a,o,items,n,rfl,g,g1,g2,l⟩:=hc.inv
  exact hn (qz H hx l hu h fun e e1 e2=>SeqAt.in_tupleAt e ⟨_,H.base _ _ g,g1,_,g2⟩ e1 e2)
 | ref i=>exact hn (B1 G H hx hc hu h)
 | cdict es=>
  obtain ⟨a,kvs,rfl,hs,⟨o,ds,ep,e,r⟩,ck⟩:=hc.inv
  exact hn (rT H hx hs ⟨o,ds,ep,H.base _ _ e,r⟩ ck.rep h)
 | str s'=>
  obtain ⟨t,rfl,_⟩:=hc.inv
  obtain ⟨y,rfl,h1⟩:=kn h
  obtain ⟨a,rfl,h2⟩:=yw h1
  obtain ⟨u,rfl,_⟩:=hx.inv
  refine hn (PySem.P.in_str ⟨_,s.toks,rfl,rfl,?_⟩)
  rw [show _=_ from StrLaws.found_one (str s') a]
  simpa using h2
 | _=>exact h
theorem u9 {v w:Value}{P:Bool→Prop}(h:wpAny (mod C) A (compareOp .In v w) (fM s (fun b=>P (!b))) E s):wpAny (mod C) A (compareOp .NotIn v w) (fM s P) E s:=fun Γ p hΓ=>by
 have this:Sem.wp _ Γ (contains w v >>= fun b=>pure (Value.bool b)) _ _ p s:=h Γ p hΓ
 show Sem.wp _ Γ (contains w v >>= fun b=>pure (Value.bool (!b))) _ _ p s
 rw [Sem.wp_bind'] at this ⊢
 refine Sem.wp_mono _ Γ _ (fun b p' s' h'=>?_) (fun _ _ _ h'=>h') _ _ this
 obtain ⟨b',t,e1,e2,e3⟩:=h'
 cases e1
 exact ⟨_,t,rfl,e2,e3⟩
noncomputable def g9:Cmp→CmpOp
 | .eq=>.Eq | .ne=>.NotEq | .lt=>.Lt | .le=>.LtE | .gt=>.Gt | .ge=>.GtE | .inn=>.In | .nin=>.NotIn
open SeqAt in
theorem vc (H:Hp C ρ hp s.heap) {i j:Nat}{xs:List MV}{v w:Value}(hx:Rep C ρ s.heap (.ref i) v) (hy:Rep C ρ s.heap (.ref j) w) (hi:hp[i]?=some (.list xs)) (hj:hp[j]?=some (.list [])) (hu:A.units<cLine) {P:Value→Shared→Prop} :
  (P (.bool xs.isEmpty) s→wpAny (mod C) A (compareOp .Eq v w) P E s)∧(P (.bool (!xs.isEmpty)) s→wpAny (mod C) A (compareOp .NotEq v w) P E s):=by
 obtain ⟨a,rfl,g⟩:=hx.inv
 obtain ⟨b,rfl,g'⟩:=hy.inv
 obtain ⟨items,n,gi,l,_⟩:=H.objs _ _ _ hi g
 obtain ⟨items',n',gi',l',_⟩:=H.objs _ _ _ hj g'
 obtain rfl:=l'.inv
 have hl:s.heap.IsList _ items.toArray:=⟨_,gi,rfl,_,rfl⟩
 have hl':s.heap.IsList _ ([]:List Value).toArray:=⟨_,gi',rfl,_,rfl⟩
 cases xs with
 | nil=>
  obtain rfl:=l.inv
  exact ⟨RcAt.lists (e:=fun _=>true) hl hl' rfl hu (fun j h=>absurd h (Nat.not_lt_zero j)) _ _ _ _,RcNeAt.lists (e:=fun _=>true) hl hl' rfl hu (fun j h=>absurd h (Nat.not_lt_zero j)) _ _ _ _⟩
 | cons x xs=>
  obtain ⟨v,ws,rfl,_⟩:=l.inv
  exact ⟨RcAt.lists_lengths hl hl' rfl hu _ _ _ _,RcNeAt.lists_lengths hl hl' rfl hu _ _ _ _⟩
theorem B2 (G:GOk C) (H:Hp C ρ m.heap s.heap) {op:Cmp}{x y:MV}{v w:Value}(hx:Rep C ρ s.heap x v) (hy:Rep C ρ s.heap y w) {P:Bool→MS→Prop}(hu:A.units+1001<cLine) (h:jS op x y P m) :
  wpAny (mod C) A (compareOp (g9 op) v w) (fM s (fun b=>P b m)) E s:=by
 have hu':A.units<cLine:=Nat.lt_of_le_of_lt (Nat.le_add_right ..) hu
 have hu2:A.units+1000<cLine:=Nat.lt_of_succ_lt hu
 have out:∀{b:Bool},P b m→fM s (fun b=>P b m) (.bool b) s:=fun h=>⟨_,s.toks,rfl,rfl,h⟩
 cases op with
 | eq=>
  obtain ⟨b,e,h⟩ | h:=rN h
  ·exact (u7 (A:=A) hx hy e).1 _ _ _ _ (out h)
  ·obtain ⟨d,e,hd,he,hk,h1,h2,hq⟩ | ⟨hud,i,j,es,rfl,rfl,hi,hj,hl,hn,hq⟩ | ⟨i,j,xs,rfl,rfl,hi,hj,hq⟩:=h
   ·exact BX H hx hy hd he hk h1 h2 hu2 hq
   ·exact (mV hud G H hx hy hi hj hl hn hu').1 (out hq)
   ·exact (vc H hx hy hi hj hu').1 (out hq)
 | ne=>
  obtain ⟨b,e,h⟩ | h:=rN h
  ·exact (u7 (A:=A) hx hy e).2 _ _ _ _ (out h)
  ·obtain ⟨d,e,hd,he,hk,h1,h2,hq⟩ | ⟨hud,i,j,es,rfl,rfl,hi,hj,hl,hn,hq⟩ | ⟨i,j,xs,rfl,rfl,hi,hj,hq⟩:=h
   ·exact BZ H hx hy hd he hk h1 h2 hu2 hq
   ·exact (mV hud G H hx hy hi hj hl hn hu').2 (out hq)
   ·exact (vc H hx hy hi hj hu').2 (out hq)
 | lt=>obtain ⟨a,b,t,u,rfl,rfl,h⟩:=gE hx hy h;exact wpAny_lt_int (out h)
 | le=>obtain ⟨a,b,t,u,rfl,rfl,h⟩:=gE hx hy h;exact PyProof.Rows.le_int (out h)
 | gt=>obtain ⟨a,b,t,u,rfl,rfl,h⟩:=gE hx hy h;exact PyProof.Rows.gt_int (out h)
 | ge=>obtain ⟨a,b,t,u,rfl,rfl,h⟩:=gE hx hy h;exact PyProof.Rows.ge_int (out h)
 | inn=>exact Be G H hx hy hu h
 | nin=>exact u9 (Be G H hx hy hu h)
end
end Internal
end
section
namespace Internal
open PySem
noncomputable def vd:Pos:=⟨0,0,0,0⟩
noncomputable def noE:Expr:=.Constant .none 0 vd
set_option genCtorIdx false in
structure V where
 tag:Nat
 p:Pos:=vd
 e1:Expr:=noE
 e2:Expr:=noE
 xs:List Expr:=[]
 s:Str:=⟨#[]⟩
 n:Nat:=0
 k:Const:=.none
 o:Operator:=.Add
 u:UnaryOp:=.Not
 b:BoolOp:=.And
 cs:List CmpOp:=[]
 ks:List Keyword:=[]
 o1:Option Expr:=none
 o2:Option Expr:=none
 o3:Option Expr:=none
 os:List (Option Expr):=[]
 gs:List Comprehension:=[]
 sc:Scope:=⟨.function,[],false,false,[]⟩
noncomputable def view:Expr→V
 | .Constant k n p=>{ tag:=0,k,n,p }
 | .Name s p=>{ tag:=1,s,p }
 | .BinOp e1 o e2 p=>{ tag:=2,e1,o,e2,p }
 | .UnaryOp u e1 p=>{ tag:=3,u,e1,p }
 | .BoolOp b xs p=>{ tag:=4,b,xs,p }
 | .Compare e1 cs xs p=>{ tag:=5,e1,cs,xs,p }
 | .Call e1 xs ks p=>{ tag:=6,e1,xs,ks,p }
 | .Attribute e1 s p=>{ tag:=7,e1,s,p }
 | .Subscript e1 e2 p=>{ tag:=8,e1,e2,p }
 | .Slice o1 o2 o3 p=>{ tag:=9,o1,o2,o3,p }
 | .List xs p=>{ tag:=10,xs,p }
 | .Tuple xs n p=>{ tag:=11,xs,n,p }
 | .Dict os xs p=>{ tag:=12,os,xs,p }
 | .ListComp e1 gs sc p=>{ tag:=13,e1,gs,sc,p }
 | _=>{ tag:=14 }
noncomputable def back (v:V):Nat→Option Expr
 | 0=>some (.Constant v.k v.n v.p)
 | 1=>some (.Name v.s v.p)
 | 2=>some (.BinOp v.e1 v.o v.e2 v.p)
 | 3=>some (.UnaryOp v.u v.e1 v.p)
 | 4=>some (.BoolOp v.b v.xs v.p)
 | 5=>some (.Compare v.e1 v.cs v.xs v.p)
 | 6=>some (.Call v.e1 v.xs v.ks v.p)
 | 7=>some (.Attribute v.e1 v.s v.p)
 | 8=>some (.Subscript v.e1 v.e2 v.p)
 | 9=>some (.Slice v.o1 v.o2 v.o3 v.p)
 | 10=>some (.List v.xs v.p)
 | 11=>some (.Tuple v.xs v.n v.p)
 | 12=>some (.Dict v.os v.xs v.p)
 | 13=>some (.ListComp v.e1 v.gs v.sc v.p)
 | _=>none
theorem yF (e:Expr):∀x,back (view e) (view e).tag=some x→e=x:=by
 cases e<;>first | exact fun x h=>Option.some.inj h | exact fun x h=>nomatch h
theorem bm {e:Expr}{n:Nat}{x:Expr}(h:(view e).tag=n) (hx:back (view e) n=some x):e=x:=yF e x (h▸hx)
set_option tactic.hygienic true in
theorem bu {α:Type}{n m:Nat}{a b:α}(h:(if n=m then some a else none)=some b):n=m∧a=b:=by
 split at h
 ·rename_i q;exact ⟨q,Option.some.inj h⟩
 ·exact aB h
noncomputable def au {α:Type}(o:Option α) (f:α→Bool):Bool:=match o with
 | some a=>f a
 | none=>false
theorem ae {α:Type}{o:Option α}{f:α→Bool}(h:au o f=true):∃a,o=some a∧f a=true:=by
 cases o with
 | none=>exact ff h
 | some a=>exact ⟨a,rfl,h⟩
noncomputable def one {α:Type}(xs:List α):Option α:=match xs with
 | [x]=>some x
 | _=>none
theorem cb {α:Type}{xs:List α}{x:α}(h:one xs=some x):xs=[x]:=by
 rcases xs with _ | ⟨a,_ | ⟨b,r⟩⟩
 ·exact aB h
 ·exact congrArg (·::[]) (Option.some.inj h)
 ·exact aB h
noncomputable def two {α:Type}(xs:List α):Option (α × α):=match xs with
 | [x,y]=>some (x,y)
 | _=>none
theorem nR {α:Type}{xs:List α}{x y:α}(h:two xs=some (x,y)):xs=[x,y]:=by
 rcases xs with _ | ⟨a,_ | ⟨b,_ | ⟨c,r⟩⟩⟩
 ·exact aB h
 ·exact aB h
 ·obtain ⟨rfl,rfl⟩:=Prod.mk.inj (Option.some.inj h);rfl
 ·exact aB h
noncomputable def nS (e:Expr):Option Const:=if (view e).tag=0 then some (view e).k else none
noncomputable def dW (e:Expr):Option Str:=if (view e).tag=1 then some (view e).s else none
noncomputable def EE (e:Expr):Option (Expr × Operator × Expr):=if (view e).tag=2 then some ((view e).e1,(view e).o,(view e).e2) else none
noncomputable def xUn (e:Expr):Option (UnaryOp × Expr):=if (view e).tag=3 then some ((view e).u,(view e).e1) else none
noncomputable def ve (e:Expr):Option (BoolOp × List Expr):=if (view e).tag=4 then some ((view e).b,(view e).xs) else none
noncomputable def yG (e:Expr):Option (Expr × List CmpOp × List Expr):=if (view e).tag=5 then some ((view e).e1,(view e).cs,(view e).xs) else none
noncomputable def vf (e:Expr):Option (Expr × List Expr × List Keyword × Pos):=if (view e).tag=6 then some ((view e).e1,(view e).xs,(view e).ks,(view e).p) else none
noncomputable def rU (e:Expr):Option (Expr × Str × Pos):=if (view e).tag=7 then some ((view e).e1,(view e).s,(view e).p) else none
noncomputable def yH (e:Expr):Option (Expr × Expr):=if (view e).tag=8 then some ((view e).e1,(view e).e2) else none
noncomputable def vg (e:Expr):Option (Option Expr × Option Expr × Option Expr):=if (view e).tag=9 then some ((view e).o1,(view e).o2,(view e).o3) else none
noncomputable def Bf (e:Expr):Option (List Expr):=if (view e).tag=10 then some (view e).xs else none
noncomputable def qA (e:Expr):Option (List Expr):=if (view e).tag=11 then some (view e).xs else none
noncomputable def Bg (e:Expr):Option (List (Option Expr) × List Expr):=if (view e).tag=12 then some ((view e).os,(view e).xs) else none
noncomputable def xLC (e:Expr):Option (Expr × List Comprehension × Scope):=if (view e).tag=13 then some ((view e).e1,(view e).gs,(view e).sc) else none
section
variable {e:Expr}
theorem jA {k:Const}(h:nS e=some k):∃a b,e=.Constant k a b:=by
 obtain ⟨h1,h2⟩:=bu h
 cases h2
 exact ⟨_,_,bm h1 rfl⟩
theorem cg {x:Str}(h:dW e=some x):∃p,e=.Name x p:=by
 obtain ⟨h1,h2⟩:=bu h
 cases h2
 exact ⟨_,bm h1 rfl⟩
theorem yI {l r:Expr}{o:Operator}(h:EE e=some (l,o,r)):∃p,e=.BinOp l o r p:=by
 obtain ⟨h1,h2⟩:=bu h
 cases h2
 exact ⟨_,bm h1 rfl⟩
theorem nT {o:UnaryOp}{x:Expr}(h:xUn e=some (o,x)):∃p,e=.UnaryOp o x p:=by
 obtain ⟨h1,h2⟩:=bu h
 cases h2
 exact ⟨_,bm h1 rfl⟩
theorem iM {o:BoolOp}{xs:List Expr}(h:ve e=some (o,xs)):∃p,e=.BoolOp o xs p:=by
 obtain ⟨h1,h2⟩:=bu h
 cases h2
 exact ⟨_,bm h1 rfl⟩
theorem iO {l:Expr}{os:List CmpOp}{rs:List Expr}(h:yG e=some (l,os,rs)):∃p,e=.Compare l os rs p:=by
 obtain ⟨h1,h2⟩:=bu h
 cases h2
 exact ⟨_,bm h1 rfl⟩
theorem o8 {f:Expr}{xs:List Expr}{ks:List Keyword}{p:Pos}(h:vf e=some (f,xs,ks,p)):e=.Call f xs ks p:=by
 obtain ⟨h1,h2⟩:=bu h
 cases h2
 exact bm h1 rfl
theorem k9 {v:Expr}{n:Str}{p:Pos}(h:rU e=some (v,n,p)):e=.Attribute v n p:=by
 obtain ⟨h1,h2⟩:=bu h
 cases h2
 exact bm h1 rfl
theorem nU {v i:Expr}(h:yH e=some (v,i)):∃p,e=.Subscript v i p:=by
 obtain ⟨h1,h2⟩:=bu h
 cases h2
 exact ⟨_,bm h1 rfl⟩
theorem tC {l u st:Option Expr}(h:vg e=some (l,u,st)):∃p,e=.Slice l u st p:=by
 obtain ⟨h1,h2⟩:=bu h
 cases h2
 exact ⟨_,bm h1 rfl⟩
theorem vh {xs:List Expr}(h:Bf e=some xs):∃p,e=.List xs p:=by
 obtain ⟨h1,h2⟩:=bu h
 cases h2
 exact ⟨_,bm h1 rfl⟩
theorem iP {xs:List Expr}(h:qA e=some xs):∃k p,e=.Tuple xs k p:=by
 obtain ⟨h1,h2⟩:=bu h
 cases h2
 exact ⟨_,_,bm h1 rfl⟩
theorem vi {ks:List (Option Expr)}{vs:List Expr}(h:Bg e=some (ks,vs)):∃p,e=.Dict ks vs p:=by
 obtain ⟨h1,h2⟩:=bu h
 cases h2
 exact ⟨_,bm h1 rfl⟩
theorem nV {x:Expr}{gs:List Comprehension}{sc:Scope}(h:xLC e=some (x,gs,sc)):∃p,e=.ListComp x gs sc p:=by
 obtain ⟨h1,h2⟩:=bu h
 cases h2
 exact ⟨_,bm h1 rfl⟩
end
noncomputable def xFn (e:Expr):Option (Str × List Expr × Pos):=(vf e).bind fun q=>match q.2.2.1 with
 | []=>(dW q.1).map fun x=>(x,q.2.1,q.2.2.2)
 | _=>none
theorem iq {e:Expr}{x:Str}{xs:List Expr}{p:Pos}(h:xFn e=some (x,xs,p)):∃px,e=.Call (.Name x px) xs [] p:=by
 unfold xFn at h
 obtain ⟨⟨f,ys,ks,q⟩,h1,h2⟩:=Option.bind_eq_some_iff.mp h
 cases ks with
 | nil=>
  obtain ⟨y,h3,h4⟩:=Option.map_eq_some_iff.mp h2
  obtain ⟨px,rfl⟩:=cg h3
  cases h4
  exact ⟨px,o8 h1⟩
 | cons=>exact aB h2
noncomputable def mW (e:Expr):Option ((Expr × Str × Pos) × List Expr × Pos):=(vf e).bind fun q=>match q.2.2.1 with
 | []=>(rU q.1).map fun x=>(x,q.2.1,q.2.2.2)
 | _=>none
theorem o9 {e:Expr}{v:Expr}{n:Str}{p:Pos}{xs:List Expr}{q:Pos}(h:mW e=some ((v,n,p),xs,q)):e=.Call (.Attribute v n p) xs [] q:=by
 unfold mW at h
 obtain ⟨⟨f,ys,ks,q⟩,h1,h2⟩:=Option.bind_eq_some_iff.mp h
 cases ks with
 | nil=>
  obtain ⟨y,h3,h4⟩:=Option.map_eq_some_iff.mp h2
  cases h4
  have:=k9 h3
  subst this
  exact o8 h1
 | cons=>exact aB h2
noncomputable def okX (e:Expr):Bool:=(view e).tag != 9&&(view e).tag != 14
theorem cV {e:Expr}{P:Expr→Prop}(h:okX e=true) (h1:∀k a p,P (.Constant k a p)) (h2:∀x p,P (.Name x p)) (h3:∀l o r p,P (.BinOp l o r p)) (h4:∀o x p,P (.UnaryOp o x p)) (h5:∀o xs p,P (.BoolOp o xs p))
  (h6:∀l os rs p,P (.Compare l os rs p)) (h7:∀f xs ks p,P (.Call f xs ks p)) (h8:∀v n p,P (.Attribute v n p)) (h9:∀v i p,P (.Subscript v i p)) (h10:∀xs p,P (.List xs p)) (h11:∀xs k p,P (.Tuple xs k p)) (h12:∀ks vs p,P (.Dict ks vs p))
  (h13:∀x gs sc p,P (.ListComp x gs sc p)):P e:=by
 cases e<;>first | exact h1 _ _ _ | exact h2 _ _ | exact h3 _ _ _ _ | exact h4 _ _ _ | exact h5 _ _ _ | exact h6 _ _ _ _ | exact h7 _ _ _ _ | exact h8 _ _ _ | exact h9 _ _ _ | exact h10 _ _ | exact h11 _ _ _ | exact h12 _ _ _ | exact h13 _ _ _ _ | exact ff h
theorem bv {e:Expr}(h:okX e=true) (rest:List Expr) (env:Env):starEach (e::rest) env=(false,eval e env)::starEach rest env:=
 cV (P:=fun e=>starEach (e::rest) env=(false,eval e env)::starEach rest env) h (fun _ _ _=>rfl) (fun _ _=>rfl) (fun _ _ _ _=>rfl) (fun _ _ _=>rfl) (fun _ _ _=>rfl) (fun _ _ _ _=>rfl) (fun _ _ _ _=>rfl) (fun _ _ _=>rfl) (fun _ _ _=>rfl) (fun _ _=>rfl) (fun _ _ _=>rfl) (fun _ _ _=>rfl) (fun _ _ _ _=>rfl)
theorem gF {e:Expr}(h:okX e=true) (op:CmpOp):behindInMarks op e=false:=
 cV (P:=fun e=>behindInMarks op e=false) h (fun _ _ _=>rfl) (fun _ _=>rfl) (fun _ _ _ _=>rfl) (fun _ _ _=>rfl) (fun _ _ _=>rfl) (fun _ _ _ _=>rfl) (fun _ _ _ _=>rfl) (fun _ _ _=>rfl) (fun _ _ _=>rfl) (fun _ _=>rfl) (fun _ _ _=>rfl) (fun _ _ _=>rfl) (fun _ _ _ _=>rfl)
theorem lc {e:Expr}(h:okX e=true) (env:Env) (x:Value):foldedSetIterable e env x=pure x:=
 cV (P:=fun e=>foldedSetIterable e env x=pure x) h (fun _ _ _=>rfl) (fun _ _=>rfl) (fun _ _ _ _=>rfl) (fun _ _ _=>rfl) (fun _ _ _=>rfl) (fun _ _ _ _=>rfl) (fun _ _ _ _=>rfl) (fun _ _ _=>rfl) (fun _ _ _=>rfl) (fun _ _=>rfl) (fun _ _ _=>rfl) (fun _ _ _=>rfl) (fun _ _ _ _=>rfl)
noncomputable def dh (e:Expr):Bool:=(xLC e).isSome
theorem eE {e:Expr}(h:dh e=false) (h':okX e=true) (t:Option Expr) (l:Nat) (env:Env):swapsWith e t l env=pure false:=
 cV (P:=fun e=>dh e=false→swapsWith e t l env=pure false) h' (fun _ _ _ _=>rfl) (fun _ _ _=>rfl) (fun _ _ _ _ _=>rfl) (fun _ _ _ _=>rfl) (fun _ _ _ _=>rfl) (fun _ _ _ _ _=>rfl) (fun _ _ _ _ _=>rfl) (fun _ _ _ _=>rfl) (fun _ _ _ _=>rfl) (fun _ _ _=>rfl) (fun _ _ _ _=>rfl) (fun _ _ _ _=>rfl) (fun _ _ _ _ h=>by exact tf h) h
noncomputable def li (e:Expr):Bool:=(view e).tag==1||(view e).tag==8||(view e).tag==0||(view e).tag==7
theorem mL {o:Expr}(h:li o=true) (name:Str) (env:Env):attributeBase o name env (eval o env)=eval o env:=by
 simp only [li,Bool.or_eq_true,beq_iff_eq] at h
 rcases h with ((h | h) | h) | h
 ·have e:=bm h rfl;rw [e];rfl
 ·have e:=bm h rfl;rw [e];rfl
 ·have e:=bm h rfl;rw [e];rfl
 ·have e:=bm h rfl;rw [e];rfl
end Internal
end
section
namespace Internal
open PySem PyProof.Rows
theorem gG {slice:Expr}{o i:Value}(h:okX slice=true):subscripted slice false o i=operate [o,i] (getItem o i):=
 cV (P:=fun e=>subscripted e false o i=operate [o,i] (getItem o i)) h (fun _ _ _=>rfl) (fun _ _=>rfl) (fun _ _ _ _=>rfl) (fun _ _ _=>rfl) (fun _ _ _=>rfl) (fun _ _ _ _=>rfl) (fun _ _ _ _=>rfl) (fun _ _ _=>rfl) (fun _ _ _=>rfl) (fun _ _=>rfl) (fun _ _ _=>rfl) (fun _ _ _=>rfl) (fun _ _ _ _=>rfl)
theorem gH {l u:Option Expr}{p:Pos}{o i:Value}:subscripted (.Slice l u none p) false o i=operate [i,o] (getItem o i):=rfl
theorem lm {k:Int}{n j:Nat}(h:fc k n=some j):seqIndex? k n=some j∧-(n:Int)≤k∧k<n∧(0≤k→j=k.toNat)∧(k<0→j=(k+n).toNat):=by
 unfold fc at h
 by_cases h0:0≤k
 ·by_cases h1:k<n
  ·simp only [h0,h1,decide_true] at h
   obtain rfl:=Option.some.inj h
   exact ⟨seqIndex_of h0 h1,by lia,h1,fun _=>rfl,fun q=>by lia⟩
  ·simp [h0,h1] at h
 ·by_cases h1:-(n:Int)≤k
  ·simp only [h0,h1,decide_true,decide_false] at h
   obtain rfl:=Option.some.inj h
   exact ⟨seqIndex_neg (z1 (Int.not_le.mp h0) (by simp +arith only)) h1,h1,by lia,fun q=>absurd q h0,fun _=>rfl⟩
  ·simp [h0,h1] at h
set_option tactic.hygienic true in
theorem tD (k:Int) (n:Nat):tj k n=clipAt n k:=by
 unfold tj clipAt
 split
 ·rename_i h
  replace h:=of_decide_eq_true h
  rw [if_neg (Int.not_lt.mpr h),Int.max_eq_right (Int.le_min.mpr ⟨h,Int.natCast_nonneg n⟩)]
  rcases Int.le_total k n with q | q
  ·rw [Int.min_eq_left q,Nat.min_eq_left (Int.toNat_le.mpr q)]
  ·rw [Int.min_eq_right q,Nat.min_eq_right ((Int.le_toNat h).mpr q)];rfl
 ·rename_i h
  replace h:=Int.not_le.mp (of_decide_eq_false h)
  rw [if_pos h,Int.min_eq_left (show k+n≤n from Int.le_trans (Int.add_le_add_right (Int.le_of_lt h) n) (Int.le_of_eq (Int.zero_add _)))]
  rcases Int.le_total 0 (k+n) with q | q
  ·rw [Int.max_eq_right q]
  ·rw [Int.max_eq_left q];exact Int.toNat_of_nonpos q
theorem yJ (k:Int) (n:Nat):clipAt n k≤n:=by unfold clipAt;split<;>exact Int.toNat_le.mpr (Int.max_le.mpr ⟨Int.natCast_nonneg _,Int.min_le_right _ _⟩)
theorem eH {α:Type}(xs:List α) (lo hi:Option Int):aL xs lo hi=(xs.drop (lo.elim 0 (clipAt xs.length))).take (hi.elim xs.length (clipAt xs.length)-lo.elim 0 (clipAt xs.length)):=by
 unfold aL
 simp only
 rw [List.drop_take]
 cases lo<;>cases hi<;>simp only [Option.elim,tD]
section
variable {C:Glo}{F:Fm}{X:XM}{ρ:List Addr}{m:MS}{s:Shared}{Q:PQ}{E:Value→Shared→Prop}{A:Around}{h:Heap}{hp:List MO}
theorem aG.slice {xs:List MV}{vs:List Value}(l:aG C ρ h xs vs) (lo hi:Option Int):aG C ρ h (aL xs lo hi) (aL vs lo hi):=by
 unfold aL
 have e:=l.length
 cases lo<;>cases hi<;>simp only [e]<;>exact (l.take _).drop _
theorem lu {α:Type}(xs:List α) (lo hi:Option Int):(aL xs lo hi).length≤xs.length:=by
 rw [eH,List.length_take,List.length_drop];exact Nat.le_trans (Nat.min_le_right _ _) (Nat.sub_le _ _)
theorem dX {n:Nat}(h:n≤line):(n:Int)<2 ^ 63:=by unfold line at h;lia
theorem nW {α:Type}{xs:List α}{k:Int}{f:α→Prop}(h:cQ xs k f):∃j v,fc k xs.length=some j∧xs[j]?=some v∧f v:=by
 obtain ⟨j,hj,h⟩:=cj h
 obtain ⟨v,hv,h⟩:=cj h
 exact ⟨j,v,hj,hv,h⟩
theorem pb (R:Rel C F ρ m s) {xs:List MV}{items:List Value}{a:Addr}{k:Int}{u:Tok}{value slice:Expr}(hns:okX slice=true) (hl:s.heap.IsList a items.toArray) (l:aG C ρ s.heap xs items) (zl:xs.length≤line) (h:cQ xs k fun v=>Q v m) :
  wpAny (mod C) A (subscriptTail value slice (.ref a) (.int k u)) (Out C F ρ s Q) E s:=by
 obtain ⟨j,z,hj,hz,h⟩:=nW h
 obtain ⟨e1,e2,e3,e4,e5⟩:=lm hj
 obtain ⟨r,r1,r2⟩:=l.get hz
 have:=dX zl
 refine tail_any hl.typeIs slot_list_getitem.lookup ?_ (gG hns)
 by_cases h0:0≤k
 ·exact wpAny_getItem_list hl h0 (Int.lt_trans e3 this) (by rw [←e4 h0];exact (List.getElem?_toArray ..).trans r1) (bx R r2 h)
 ·have h0:k<0:=Int.not_le.mp h0
  exact wpAny_getItem_list_neg hl h0 (by rw [List.size_toArray,l.length];exact e2) (by lia) (by rw [List.size_toArray,l.length,←e5 h0];exact (List.getElem?_toArray ..).trans r1) (bx R r2 h)
theorem pc (R:Rel C F ρ m s) (ok:aV F) {a:Addr}{es:List (List Nat × MV)}{kvs:List (Str × Value)}{k:List Nat}{t:Tok}{value slice:Expr}(hns:okX slice=true) (dk:s.heap.DictOf (strKind C.prog C.w) a kvs) (rk:dS C ρ s.heap es kvs) (h:onO (aE es k) fun v=>Q v m) :
  wpAny (mod C) A (subscriptTail value slice (.ref a) (.str (Internal.str k) t)) (Out C F ρ s Q) E s:=by
 obtain ⟨z,hz,h⟩:=cj h
 have:=rk.get k
 rw [hz] at this
 obtain ⟨v,e,r⟩:=this
 exact tail_any dk.typeIs slot_dict_getitem.lookup (wpAny_getItem_of (dU C.prog C.w (Internal.str k) t) dk.mapOf e (bD R ok r h)) (gG hns)
theorem B4 (G:GOk C) (R:Rel C F ρ m s) (ok:aV F) {x y:MV}{v w:Value}(hx:Rep C ρ s.heap x v) (hy:Rep C ρ s.heap y w) {value slice:Expr}(hns:okX slice=true) (h:A9 x y Q m) :
  wpAny (mod C) A (subscriptTail value slice v w) (Out C F ρ s Q) E s:=by
 refine Classical.byContradiction fun hn=>?_
 cases y with
 | int k=>
  obtain ⟨u,rfl⟩:=hy.inv
  cases x with
  | tup xs=>
   obtain ⟨a,n,items,rfl,g,l,zl⟩:=hx.inv
   obtain ⟨j,z,hj,hz,h⟩:=nW h
   obtain ⟨e1,e2,e3,_⟩:=lm hj
   obtain ⟨r,r1,r2⟩:=l.get hz
   have:=dX zl
   refine hn (tail_any ⟨_,g,rfl⟩ slot_tuple_getitem.lookup (PySem.P.getItem_tuple g (by lia) (by lia) ?_ ((List.getElem?_toArray ..).trans r1) (bx R r2 h)) (gG hns))
   rw [List.size_toArray,l.length];exact e1
  | str xs=>
   obtain ⟨t,rfl,zl⟩:=hx.inv
   obtain ⟨j,z,hj,hz,h⟩:=nW h
   obtain ⟨e1,e2,e3,_⟩:=lm hj
   have:=dX zl
   refine hn (tail_any (T:="str") (typeIs_str s (Internal.str xs) t) slot_str_getitem.lookup (PySem.P.getItem_str ?_ ?_ (bD R ok (.str _ _ (by simp [line])) h)) (gG hns))
   ·simp only [Bool.or_eq_false_iff,decide_eq_false_iff_not];lia
   ·rw [cr,e1];exact (List.getElem?_toArray ..).trans hz
  | ref i=>
   obtain ⟨a,rfl,g⟩:=hx.inv
   obtain ⟨xs,hi,h⟩:=cD h
   obtain ⟨items,n,gi,l,zl⟩:=R.hp.objs _ _ _ hi g
   exact hn (pb R hns ⟨_,gi,rfl,_,rfl⟩ l zl h)
  | scr xs=>
   obtain ⟨la,items,n,rfl,g,l,zl⟩:=hx.inv
   refine hn (pb (xs:=xs.map .int) R hns ⟨_,R.hp.base _ _ g,rfl,_,rfl⟩ (kU l) (by rw [List.length_map];exact zl) ?_)
   obtain ⟨j,z,hj,hz,h⟩:=nW h
   show onO (fc k (xs.map MV.int).length) _
   rw [List.length_map,hj]
   show onO (xs.map MV.int)[j]? _
   rw [List.getElem?_map,hz]
   exact h
  | _=>exact h
 | str k=>
  obtain ⟨t,rfl,_⟩:=hy.inv
  cases x with
  | ref i=>
   obtain ⟨a,rfl,g⟩:=hx.inv
   obtain ⟨es,hi,h⟩:=oU h
   obtain ⟨kvs,dk,rk,zk⟩:=R.hp.objs _ _ _ hi g
   exact hn (pc R ok hns dk rk h)
  | cdict es=>
   obtain ⟨a,kvs,rfl,hs,⟨o,ds,ep,e,r⟩,ck⟩:=hx.inv
   exact hn (pc R ok hns ⟨o,ds,ep,R.hp.base _ _ e,r⟩ ck.rep h)
  | _=>exact h
 | _=>exact h
end
end Internal
end
section
namespace Internal
open PySem PyProof.Rows
section
variable {prog:Program}{w:World}{A:Around}{E:Value→Shared→Prop}{s:Shared}
theorem pd {a n:Nat}(ha:n<a):Builtin.Slice.sliceAdjust (some (a:Int)) none 1 (n:Int)=((n:Int),(n:Int)):=by
 unfold Builtin.Slice.sliceAdjust
 have h1:¬ ((1:Int)<0):=by lia
 have h2:¬ ((a:Int)<0):=by lia
 simp only [h1,h2,if_false]
 congr 1
 lia
theorem pe (n:Nat):Builtin.Slice.slicePlaces (n:Int) (n:Int) 1=0:=by
 unfold Builtin.Slice.slicePlaces
 have h1:(1:Int) > 0:=by lia
 simp only [h1,if_true,Int.ediv_one]
 split<;>lia
theorem nX {sl:Addr}{a n:Nat}{u:Tok}{Q:Int × Int × Nat→Shared→Prop}(hs:s.heap.IsSliceOf sl (.int a u) .none .none) (ha:n<a) (h:Q ((n:Int),1,0) s) :
  wpAny (model prog w) A (Builtin.Slice.sliceApplied (.ref sl) (pure (n:Int))) Q E s:=by
 obtain ⟨os,hos,hcs,hds⟩:=id hs
 unfold Builtin.Slice.sliceApplied Builtin.Slice.sliceFields
 refine wpAny_bind (wpAny_bind (wpAny_field hos hds (x:=.int a u) rfl (wpAny_bind (wpAny_field hos hds (x:=.none) rfl (wpAny_bind (wpAny_field hos hds (x:=.none) rfl (wpAny_pure ?_)))))))
 refine wpAny_bind (slicePart_none ?_)
 show wpAny _ _ (if ((1:Int)==0)=true then _ else _) _ _ s
 rw [if_neg (by decide)]
 refine wpAny_bind (slicePart_int (wpAny_bind (slicePart_none (wpAny_bind (wpAny_pure ?_)))))
 show wpAny _ _ (match Builtin.Slice.sliceAdjust (some (a:Int)) none 1 (n:Int) with | (lo,hi)=>pure (lo,(1:Int),Builtin.Slice.slicePlaces lo hi 1)) _ _ s
 rw [pd ha]
 show wpAny _ _ (pure ((n:Int),(1:Int),Builtin.Slice.slicePlaces (n:Int) (n:Int) 1)) _ _ s
 rw [pe]
 exact wpAny_pure h
theorem tE {t sl:Addr}{items:Array Value}{a:Nat}{u:Tok}{Q:Value→Shared→Prop}(ht:IsTup s.heap t items) (hs:s.heap.IsSliceOf sl (.int a u) .none .none) (h1:1≤items.size) (ha:items.size<a)
  (h:Q (.ref s.heap.objs.size) { s with heap:=s.heap.push { cls:=.type "tuple",data:=.seq #[] } }):wpAny (model prog w) A (getItem (.ref t) (.ref sl)) Q E s:=by
 obtain ⟨os,hos,hcs,hds⟩:=id hs
 have hTs:s.TypeIs (.ref sl) "slice":=⟨os,hos,hcs⟩
 unfold getItem
 try with_reducible refine wpAny_holding ?_
 first | refine wpAny_bind (wpAny_pure ?_) | skip
 refine wpAny_bind (wpAny_sequenceKey ht.typeIs (by decide) ?_)
 refine wpAny_bind (wpAny_callSpecial?_slot (name:=Str.ofString "__getitem__") ht.typeIs slot_tuple_getitem
  (wpAny_call_entry slot_tuple_getitem ht.typeIs entry_tuple_getitem ?_ (args_tuple_getitem _ _)))
 show wpAny _ _ (Builtin.Tuple.tupleItemsOf (.ref t) >>= _) _ _ s
 refine wpAny_bind (tupleItemsOf_ ht ?_)
 refine wpAny_bind (wpAny_typeOf hTs ?_)
 rw [if_pos (by decide)]
 refine wpAny_bind (nX hs ha ?_)
 have hno:¬ (((items.size:Int)==0&&(1:Int)==1&&0==items.size)=true):=by
  have:((items.size:Int)==0)=false:=by rw [beq_eq_false_iff_ne];lia
  rw [this];simp
 show wpAny _ _ (if ((items.size:Int)==0&&(1:Int)==1&&0==items.size)=true then _ else _) _ _ s
 rw [if_neg hno]
 first
  | exact wpAny_bind (m:=Builtin.Tuple.tupleExact _) (wpAny_newObj_type (wpAny_pure ⟨_,rfl,wpAny_pure h⟩) (Nat.zero_le _))
  | exact wpAny_bind (m:=Builtin.Tuple.tupleExact _) (wpAny_newObj_type (wpAny_bind (wpAny_pure (wpAny_pure ⟨_,rfl,wpAny_pure h⟩))) (Nat.zero_le _))
  | exact wpAny_bind (wpAny_bind (m:=Builtin.Tuple.tupleExact _) (wpAny_newObj_type (wpAny_pure (wpAny_pure ⟨_,rfl,wpAny_pure h⟩)) (Nat.zero_le _)))
  | exact wpAny_bind (wpAny_bind (m:=Builtin.Tuple.tupleExact _) (wpAny_newObj_type (wpAny_pure ⟨_,rfl,wpAny_pure h⟩) (Nat.zero_le _)))
end
section
variable {C:Glo}{F:Fm}{X:XM}{ρ:List Addr}{m:MS}{s:Shared}{Q:PQ}{E:Value→Shared→Prop}{A:Around}
theorem B5 (R:Rel C F ρ m s) (ok:aV F) {b a:Addr}{n:Nat}{xs:List MV}{items:List Value}{value:Expr}{l u:Option Expr}{p:Pos}{k:Int}{t:Tok}(g:s.heap.get? b=some (mK items n)) (rl:aG C ρ s.heap xs items) (z:xs.length≤line) (hs:s.heap.IsSliceOf a (.int k t) .none .none)
  (hk:AR=true∧1≤k∧1≤xs.length) (hq:Q (.tup (xs.drop k.toNat)) m):wpAny (mod C) A (subscriptTail value (.Slice l u none p) (.ref b) (.ref a)) (Out C F ρ s Q) E s:=by
 obtain ⟨_,k1,k2⟩:=hk
 obtain ⟨j,rfl⟩:=Int.eq_ofNat_of_zero_le (show 0≤k from z1 k1 (by simp +arith only))
 have e:=rl.length
 rcases Nat.lt_or_ge xs.length j with hp | hp
 ·refine tail_any (T:="tuple") ⟨_,g,rfl⟩ slot_tuple_getitem.lookup (tE ⟨_,g,rfl,_,rfl⟩ hs (by rw [List.size_toArray,e];exact k2) (by rw [List.size_toArray,e];exact hp) ?_) gH
  have e0:xs.drop ((j:Int)).toNat=[]:=List.drop_eq_nil_of_le (Nat.le_of_lt hp)
  rw [e0] at hq
  exact nP R ok .nil (Nat.zero_le _) hq
 refine tail_any (T:="tuple") ⟨_,g,rfl⟩ slot_tuple_getitem.lookup (getItem_tuple_from ⟨_,g,rfl,_,rfl⟩ hs (by lia) (by rw [List.size_toArray];lia) ?_ (by rw [List.size_toArray,e];exact z)) gH
 exact nP R ok (rl.drop j) (Nat.le_trans (by rw [List.length_drop];exact Nat.sub_le ..) z) hq
end
end Internal
end
section
namespace Internal
open PySem PyProof.Rows
section
variable {C:Glo}{F:Fm}{X:XM}{ρ:List Addr}{m:MS}{s:Shared}{Q:PQ}{E:Value→Shared→Prop}{A:Around}{h:Heap}{hp:List MO}
noncomputable def iQ (C:Glo) (ρ:List Addr) (h:Heap):Option MV→Value→Prop
 | none,v=>v=.none
 | some x,v=>Rep C ρ h x v
theorem rV {lo:Option MV}{v:Value}(h:iQ C ρ s.heap lo v) {k:Option Int}(e:qm lo=some k):IsPart v k∧∃l:Option (Int × Tok),v=partValue l∧l.map (·.1)=k:=by
 cases lo with
 | none=>
  obtain rfl:=Option.some.inj e
  obtain rfl:v=.none:=h
  exact ⟨.none,none,rfl,rfl⟩
 | some x=>
  cases x with
  | int i=>
   obtain ⟨t,rfl⟩:=Rep.inv h
   obtain rfl:=Option.some.inj e
   exact ⟨.int i t,some (i,t),rfl,rfl⟩
  | _=>exact aB e
theorem vj {v:Value}{k:Int}(h:IsPart v (some k)):∃t,v=.int k t:=by cases h;exact ⟨_,rfl⟩
theorem tF {v:Value}(h:IsPart v none):v=.none:=by cases h;rfl
theorem pf (x:List Nat) (lo hi:Option Int):((Builtin.Str.strSliceIndices lo hi 1 x.length).filterMap (x.toArray[·]?))=aL x lo hi∧(Builtin.Str.strSliceIndices lo hi 1 x.length).length=(aL x lo hi).length:=by
 have e:Builtin.Str.strSliceIndices lo hi 1 x.length=(List.range (hi.elim x.length (clipAt x.length)-lo.elim 0 (clipAt x.length))).map (lo.elim 0 (clipAt x.length) + ·):=by
  have h1:Builtin.Str.strSliceIndices lo hi 1 x.length=sliceRange (sliceBounds lo hi none x.length).1 (sliceBounds lo hi none x.length).2.1 (sliceBounds lo hi none x.length).2.2:=rfl
  rw [h1,sliceBounds_plain,sliceRange_one]
 rw [e]
 constructor
 ·rw [pick_run,eH]
 ·rw [eH,List.length_map,List.length_range,List.length_take,List.length_drop]
  have:hi.elim x.length (clipAt x.length)≤x.length:=by cases hi<;>simp [yJ]
  exact (Nat.min_eq_left (Nat.sub_le_sub_right this _)).symm
theorem qB {y:List Nat}{lo hi:Option Int}(h:(aL y lo hi).length=y.length):aL y lo hi=y:=by
 rw [eH] at h ⊢
 rw [List.length_take,List.length_drop] at h
 cases y with
 | nil=>simp
 | cons a b=>
  have h3:lo.elim 0 (clipAt (a::b).length)=0:=Nat.le_zero.mp (Nat.le_of_not_lt fun q=>Nat.lt_irrefl _ (Nat.lt_of_lt_of_le (Nat.sub_lt (Nat.succ_pos _) q) (Nat.le_trans (Nat.le_of_eq h.symm) (Nat.min_le_right _ _))))
  rw [h3] at h ⊢
  rw [List.drop_zero,Nat.sub_zero]
  exact List.take_of_length_le (Nat.le_trans (Nat.le_of_eq h.symm) (Nat.min_le_left _ _))
section
variable {a:Addr}{l1 l2:Option (Int × Tok)}{lo hi:Option Int}{vl vu:Value}{value:Expr}{l u:Option Expr}{p:Pos}
set_option tactic.hygienic true in
theorem B6 (R:Rel C F ρ m s) (ok:aV F) {y:List Nat}{t:Tok}(z:y.length≤line) (hsl:s.heap.IsSlice a l1 l2 none) (ml1:l1.map (·.1)=lo) (ml2:l2.map (·.1)=hi) (hq:Q (.str (aL y lo hi)) m) :
  wpAny (mod C) A (subscriptTail value (.Slice l u none p) (.str (Internal.str y) t) (.ref a)) (Out C F ρ s Q) E s:=by
 refine tail_any (T:="str") (typeIs_str _ (Internal.str y) t) slot_str_getitem.lookup (wpAny_getItem_str_slice hsl rfl ?_) gH
 unfold sliceMade slicePicked
 rw [ml1,ml2,cr]
 obtain ⟨f1,f2⟩:=pf y lo hi
 have hz:=lu y lo hi
 split
 ·rename_i hc
  simp only [Option.map_none,Option.getD_none,Bool.and_eq_true,beq_iff_eq] at hc
  rw [qB (f2.symm.trans hc.2)] at hq
  exact bx R (.str y t z) hq
 ·refine ⟨?_,?_⟩
  ·show ((Builtin.Str.strSliceIndices lo hi 1 y.length).filterMap (y.toArray[·]?)).toArray.size≤sizeLine
   rw [f1,List.size_toArray];exact Nat.le_trans hz z
  ·show Out C F ρ s Q (.str ⟨((Builtin.Str.strSliceIndices lo hi 1 y.length).filterMap (y.toArray[·]?)).toArray⟩ _) _
   rw [f1]
   exact bD R ok (.str _ _ (Nat.le_trans hz z)) hq
theorem rX (R:Rel C F ρ m s) (ok:aV F) {b:Addr}{xs:List MV}{items:List Value}(g:s.heap.IsList b items.toArray) (rl:aG C ρ s.heap xs items) (z:xs.length≤line) (hs:s.heap.IsSliceOf a vl vu .none) (p1:IsPart vl lo) (p2:IsPart vu hi)
  (hq:Q (.ref m.heap.length) (m.push (.list (aL xs lo hi)))):wpAny (mod C) A (subscriptTail value (.Slice l u none p) (.ref b) (.ref a)) (Out C F ρ s Q) E s:=by
 refine tail_any (T:="list") g.typeIs slot_list_getitem.lookup (wpAny_getItem_list_slice g hs p1 p2 .none (by simp) ?_ (by rw [List.size_toArray,rl.length];exact z)) gH
 have e:slicePick items.toArray lo hi none=(aL items lo hi).toArray:=by
  rw [slicePick_plain,eH];simp
 rw [e]
 exact nQ R ok (rl.slice _ _) (Nat.le_trans (lu _ _ _) z) hq
theorem B7 (R:Rel C F ρ m s) (ok:aV F) {x:MV}{v:Value}(hx:Rep C ρ s.heap x v) (hsl:s.heap.IsSlice a l1 l2 none) (ml1:l1.map (·.1)=lo) (ml2:l2.map (·.1)=hi) (hs:s.heap.IsSliceOf a vl vu .none) (p1:IsPart vl lo) (p2:IsPart vu hi)
  (hq:Ba x lo hi Q m):wpAny (mod C) A (subscriptTail value (.Slice l u none p) v (.ref a)) (Out C F ρ s Q) E s:=by
 refine Classical.byContradiction fun hn=>?_
 cases x with
 | str y=>
  obtain ⟨t,rfl,z⟩:=hx.inv
  exact hn (B6 R ok z hsl ml1 ml2 hq)
 | tup xs=>
  obtain ⟨b,n,items,rfl,g,l,z⟩:=hx.inv
  obtain ⟨k,rfl,⟨j1,rfl,j2⟩,hk⟩:=cj hq
  obtain ⟨t,rfl⟩:=vj p1
  obtain rfl:=tF p2
  exact hn (B5 R ok g l z hs ⟨j1,j2⟩ hk)
 | scr xs=>
  obtain ⟨b,items,n,rfl,g,l,z⟩:=hx.inv
  exact hn (rX R ok ⟨_,R.hp.base _ _ g,rfl,_,rfl⟩ (kU l) (by rw [List.length_map];exact z) hs p1 p2 hq)
 | ref i=>
  obtain ⟨b,rfl,g⟩:=hx.inv
  obtain ⟨xs,hi,hq⟩:=cD hq
  obtain ⟨items,n,gi,l,z⟩:=R.hp.objs _ _ _ hi g
  exact hn (rX R ok ⟨_,gi,rfl,_,rfl⟩ l z hs p1 p2 hq)
 | _=>exact hq
end
theorem EF (R:Rel C F ρ m s) (ok:aV F) {x:MV}{v:Value}(hx:Rep C ρ s.heap x v) {lo hi:Option MV}{vl vu:Value}(hl:iQ C ρ s.heap lo vl) (hu:iQ C ρ s.heap hi vu) {value:Expr}{l u:Option Expr}{p:Pos}
  (hq:El x lo hi Q m):wpAny (mod C) A (subscriptTail value (.Slice l u none p) v (.ref s.heap.objs.size)) (Out C F ρ s Q) E { s with heap:=s.heap.push { cls:=.type "slice",data:=.fields #[vl,vu,.none] } }:=by
 obtain ⟨R',st⟩:=R.grow (s':={ s with heap:=s.heap.push { cls:=.type "slice",data:=.fields #[vl,vu,.none] } }) ok (fun a o e=>Heap.get?_push_of_some _ e) rfl rfl
 obtain ⟨lo',e1,hq⟩:=cj hq
 obtain ⟨hi',e2,hq⟩:=cj hq
 obtain ⟨p1,l1,rfl,ml1⟩:=rV hl e1
 obtain ⟨p2,l2,rfl,ml2⟩:=rV hu e2
 exact wpAny_mono (B7 R' ok (hx.step st) ⟨_,Heap.get?_push_size _ rfl,rfl,rfl⟩ ml1 ml2 (Heap.IsSliceOf.new _ _ _ _) p1 p2 hq) (Out.back st) fun _ _ e=>e
end
end Internal
end
section
namespace Internal
open PySem PyProof.Rows
section
variable {C:Glo}{F:Fm}{X:XM}{ρ:List Addr}{m:MS}{s:Shared}{Q:PQ}{E:Value→Shared→Prop}{A:Around}{h:Heap}{hp:List MO}
noncomputable def kh:TS→Option String
 | .int=>some "int" | .bool=>some "bool" | .str=>some "str" | .list=>some "list" | .tuple=>some "tuple" | .dict=>some "dict" | _=>none
noncomputable def EG:TS→String
 | .int=>"int" | .bool=>"bool" | .str=>"str" | .list=>"list" | .tuple=>"tuple" | .dict=>"dict" | _=>""
theorem yK {t:TS}{T:String}(e:kh t=some T):T=EG t:=by
 cases t<;>first | exact (Option.some.inj e).symm | exact aB e
noncomputable def tG:Kd→String
 | .none=>"NoneType" | .bool=>"bool" | .int=>"int" | .str=>"str" | .tuple=>"tuple" | .list=>"list" | .dict=>"dict" | .exc _=>""
noncomputable def EH (t:TS):Prop:=kh t≠none→typeOf (.type (EG t))=pure (.type "type")
theorem yL (t:TS):EH t:=TS.casesOn (motive:=EH) t (fun _=>F.isi_meta_int) (fun _=>F.isi_meta_bool) (fun _=>F.isi_meta_str) (fun _=>F.isi_meta_list) (fun _=>F.isi_meta_tuple) (fun _=>F.isi_meta_dict) (fun _ e=>(e rfl).elim) (fun e=>(e rfl).elim)
noncomputable def mM (k:Kd) (t:TS):Prop:=match kh t with
 | some T=>isSubtype (.type (tG k)) (.type T)=pure ((tr k t).getD true)
 | none=>True
theorem yM (k:Kd) (t:TS) (he:∀c,k≠.exc c):mM k t:=by
 revert he
 exact Kd.casesOn (motive:=fun k=>(∀c,k≠.exc c)→mM k t) k (fun _=>TS.casesOn (motive:=mM .none) t F.sub_NoneType_int F.sub_NoneType_bool F.sub_NoneType_str F.sub_NoneType_list F.sub_NoneType_tuple F.sub_NoneType_dict (fun _=>trivial) trivial) (fun _=>TS.casesOn (motive:=mM .bool) t F.sub_bool_int F.sub_bool_bool F.sub_bool_str F.sub_bool_list F.sub_bool_tuple F.sub_bool_dict (fun _=>trivial) trivial) (fun _=>TS.casesOn (motive:=mM .int) t F.sub_int_int F.sub_int_bool F.sub_int_str F.sub_int_list F.sub_int_tuple F.sub_int_dict (fun _=>trivial) trivial) (fun _=>TS.casesOn (motive:=mM .str) t F.sub_str_int F.sub_str_bool F.sub_str_str F.sub_str_list F.sub_str_tuple F.sub_str_dict (fun _=>trivial) trivial) (fun _=>TS.casesOn (motive:=mM .tuple) t F.sub_tuple_int F.sub_tuple_bool F.sub_tuple_str F.sub_tuple_list F.sub_tuple_tuple F.sub_tuple_dict (fun _=>trivial) trivial) (fun _=>TS.casesOn (motive:=mM .list) t F.sub_list_int F.sub_list_bool F.sub_list_str F.sub_list_list F.sub_list_tuple F.sub_list_dict (fun _=>trivial) trivial) (fun _=>TS.casesOn (motive:=mM .dict) t F.sub_dict_int F.sub_dict_bool F.sub_dict_str F.sub_dict_list F.sub_dict_tuple F.sub_dict_dict (fun _=>trivial) trivial) (fun c h=>(h c rfl).elim)
noncomputable def NeP (k:Kd) (t:TS):Prop:=match kh t with
 | some T=>(tr k t).getD true=false→(Value.type (tG k)==Value.type T)=false
 | none=>True
theorem B8 (k:Kd) (t:TS) (he:∀c,k≠.exc c):NeP k t:=by
 revert he
 exact Kd.casesOn (motive:=fun k=>(∀c,k≠.exc c)→NeP k t) k (fun _=>TS.casesOn (motive:=NeP .none) t (fun _=>rfl) (fun _=>rfl) (fun _=>rfl) (fun _=>rfl) (fun _=>rfl) (fun _=>rfl) (fun _=>trivial) trivial) (fun _=>TS.casesOn (motive:=NeP .bool) t tf tf (fun _=>rfl) (fun _=>rfl) (fun _=>rfl) (fun _=>rfl) (fun _=>trivial) trivial) (fun _=>TS.casesOn (motive:=NeP .int) t tf (fun _=>rfl) (fun _=>rfl) (fun _=>rfl) (fun _=>rfl) (fun _=>rfl) (fun _=>trivial) trivial) (fun _=>TS.casesOn (motive:=NeP .str) t (fun _=>rfl) (fun _=>rfl) tf (fun _=>rfl) (fun _=>rfl) (fun _=>rfl) (fun _=>trivial) trivial) (fun _=>TS.casesOn (motive:=NeP .tuple) t (fun _=>rfl) (fun _=>rfl) (fun _=>rfl) (fun _=>rfl) tf (fun _=>rfl) (fun _=>trivial) trivial) (fun _=>TS.casesOn (motive:=NeP .list) t (fun _=>rfl) (fun _=>rfl) (fun _=>rfl) tf (fun _=>rfl) (fun _=>rfl) (fun _=>trivial) trivial) (fun _=>TS.casesOn (motive:=NeP .dict) t (fun _=>rfl) (fun _=>rfl) (fun _=>rfl) (fun _=>rfl) (fun _=>rfl) tf (fun _=>trivial) trivial) (fun c h=>(h c rfl).elim)
noncomputable def Fx (v:Value) (Tx:String):Prop:=∀T,(Value.type Tx==Value.type T)=false→typeOf (.type T)=pure (.type "type")→isSubtype (.type Tx) (.type T)=pure false→Answers (fun s=>s.TypeIs v Tx) v (.type T) false
theorem B9 (H:Hp C ρ hp s.heap) {x:MV}{v:Value}(hx:Rep C ρ s.heap x v) {k:Kd}(hk:uZ hp x=some k) (he:∀c,k≠.exc c):s.TypeIs v (tG k)∧Fx v (tG k):=by
 refine Classical.byContradiction fun hn=>?_
 cases x with
 | none=>obtain rfl:=hx.inv;obtain rfl:=Option.some.inj hk;exact hn ⟨rfl,fun _=>.of_false_none⟩
 | bool _=>obtain rfl:=hx.inv;obtain rfl:=Option.some.inj hk;exact hn ⟨rfl,fun _=>.of_false_bool⟩
 | int _=>obtain ⟨_,rfl⟩:=hx.inv;obtain rfl:=Option.some.inj hk;exact hn ⟨rfl,fun _=>.of_false_int⟩
 | str _=>obtain ⟨_,rfl,_⟩:=hx.inv;obtain rfl:=Option.some.inj hk;exact hn ⟨rfl,fun _=>.of_false_str⟩
 | tup _=>
  obtain ⟨a,n,items,rfl,g,_⟩:=hx.inv
  obtain rfl:=Option.some.inj hk
  exact hn ⟨⟨_,g,rfl⟩,fun _=>.of_false_tuple⟩
 | ref i=>
  obtain ⟨a,rfl,g⟩:=hx.inv
  replace hk:kdO hp[i]?=some k:=hk
  cases hi:hp[i]? with
  | none=>rw [hi] at hk;exact aB hk
  | some o=>
   rw [hi] at hk
   cases o with
   | list xs=>
    obtain ⟨items,n,gi,_⟩:=H.objs _ _ _ hi g
    obtain rfl:=Option.some.inj hk
    exact hn ⟨⟨_,gi,rfl⟩,fun _=>.of_false_list⟩
   | dict es=>
    obtain ⟨kvs,dk,_⟩:=H.objs _ _ _ hi g
    obtain rfl:=Option.some.inj hk
    exact hn ⟨dk.typeIs,fun _=>.of_false_dict⟩
   | attrs es=>exact aB hk
   | exc c=>exact he c (Option.some.inj hk).symm
 | _=>exact aB hk
theorem vk {k:Kd}{t:TS}{T:String}(e:kh t=some T) {b:Bool}(h:tr k t=some b) (c:Nat):k≠.exc c:=fun q=>by
 subst q;cases t<;>first | exact aB e | exact aB h
theorem jB (H:Hp C ρ hp s.heap) {x:MV}{v:Value}(hx:Rep C ρ s.heap x v) {k:Kd}(hk:uZ hp x=some k) {t:TS}{T:String}(eT:kh t=some T) {b:Bool}(h:tr k t=some b):s.TypeIs v (tG k)∧Answers (fun s=>s.TypeIs v (tG k)) v (.type T) b:=by
 have he:=vk eT h
 obtain ⟨h1,h2⟩:=B9 H hx hk he
 refine ⟨h1,?_⟩
 have hm:=yL t (by rw [eT];exact fun q=>im q)
 rw [←yK eT] at hm
 have h3:=yM k t he
 have h4:=B8 k t he
 unfold mM at h3
 unfold NeP at h4
 rw [eT,h] at h3 h4
 cases b with
 | true=>exact .of_true hm h3
 | false=>exact h2 T (h4 rfl) hm h3
theorem vm {prog:Program}{w:World}{v:Value}{Tx T:String}{b:Bool}{Q:Value→Shared→Prop}(ha:Answers (fun s=>s.TypeIs v Tx) v (.type T) b) (hT:s.TypeIs v Tx) (h:∀tk,Q (.bool b) { s with toks:=tk }):wpAny (model prog w) A (call (.builtin "isinstance") [v,.type T]) Q E s:=by
 refine call_isinstance (S:=fun _ R s'=>s'=s∧∀tk,R (.ok (.ret (.bool b))) { s with toks:=tk }) (fun _ _ _ _ s' hs=>?_) ⟨rfl,h⟩
 obtain ⟨rfl,hs⟩:=hs
 exact isinstance_outer (ha _ _ _ _ _ _ _ ⟨hT,hs⟩) (Shared.TypeIs.not_mainsLoader hT)
theorem Ca (H:Hp C ρ hp s.heap) {x:MV}{v:Value}(hx:Rep C ρ s.heap x v) {t:TS}{b:Bool}(h:jx hp x t=some b) {P:Bool→Prop}(hq:P b) :
  ∀T,kh t=some T→wpAny (mod C) A (call (.builtin "isinstance") [v,.type T]) (fM s P) E s:=by
 intro T eT
 obtain ⟨k,hk,h⟩:=kq h
 obtain ⟨h1,h2⟩:=jB H hx hk eT h
 exact vm h2 h1 fun tk=>⟨_,tk,rfl,rfl,hq⟩
theorem yO (H:Hp C ρ hp s.heap) {x:MV}{v:Value}(hx:Rep C ρ s.heap x v) {t u:TS}{T U:String}(eT:kh t=some T) (eU:kh u=some U) {b b':Bool}(h:jx hp x t=some b) (h':jx hp x u=some b') {P:Bool→Prop}(hq:P (b||b')) {tp:Addr}
  (ht:s.heap.get? tp=some { cls:=.type "tuple",data:=.seq #[.type T,.type U] }):wpAny (mod C) A (call (.builtin "isinstance") [v,.ref tp]) (fM s P) E s:=by
 obtain ⟨k,hk,h⟩:=kq h
 obtain ⟨k',hk',h'⟩:=kq h'
 obtain rfl:=same hk hk'
 obtain ⟨h1,h2⟩:=jB H hx hk eT h
 obtain ⟨_,h3⟩:=jB H hx hk eU h'
 refine IsiPair.tupleOfB (vs:=[b,b']) (b:=b||b') (.cons h2 (.cons h3 .nil)) h1 ht ?_ fun tk=>⟨_,tk,rfl,rfl,hq⟩
 show (b||(b'||false))=_
 rw [Bool.or_false]
noncomputable def nY:Bi→Option (Str × Value)
 | .len=>some ("len",.builtin "len")
 | .int=>some ("int",.type "int")
 | .str=>some ("str",.type "str")
 | .list=>some ("list",.type "list")
 | .tuple=>some ("tuple",.type "tuple")
 | .dict=>some ("dict",.type "dict")
 | .all=>if BA then some ("all",.builtin "all") else none
 | .min=>if AV then some ("min",.builtin "min") else none
 | .max=>if AV then some ("max",.builtin "max") else none
 | .sum=>if BB then some ("sum",.builtin "sum") else none
 | .sorted=>if BD then some ("sorted",.builtin "sorted") else none
 | _=>none
noncomputable def ku:Bi→Bool
 | .len=>true
 | .int=>true
 | .str=>true
 | _=>false
theorem gI (R:Rel C F ρ m s) (ok:aV F) {h':Heap}{t:Nat}(hk:∀b o,s.heap.get? b=some o→h'.get? b=some o) {x:MV}{v:Value}(hr:Rep C ρ h' x v) (h:Q x m):Out C F ρ s Q v { s with heap:=h',toks:=t }:=by
 obtain ⟨R',st⟩:=R.grow (s':={ s with heap:=h',toks:=t }) ok hk rfl rfl
 exact ⟨ρ,m,x,st,R',hr,h⟩
theorem Cb (G:GOk C) (R:Rel C F ρ m s) (ok:aV F) {x:MV}{v:Value}(hx:Rep C ρ s.heap x v) (h:Bb x Q m):wpAny (mod C) A (call (.builtin "len") [v]) (Out C F ρ s Q) E s:=by
 refine Classical.byContradiction fun hn=>?_
 cases x with
 | tup xs=>
  obtain ⟨a,n,items,rfl,g,l,z⟩:=hx.inv
  refine hn (PySem.P.len_tuple g ?_ ?_)
  ·rw [List.size_toArray,l.length];have:=dX z;lia
  ·rw [List.size_toArray,l.length];exact bD R ok (.int _ _) h
 | str xs=>
  obtain ⟨t,rfl,z⟩:=hx.inv
  refine hn (PySem.P.len_str ?_ ?_)
  ·rw [cr];have:=dX z;lia
  ·rw [cr];exact bD R ok (.int _ _) h
 | scr is=>
  obtain ⟨a,items,n,rfl,g,l,z⟩:=hx.inv
  have hlen:=(kU (C:=C) (ρ:=ρ) (h:=s.heap) l).length
  rw [List.length_map] at hlen
  refine hn (PySem.Calls.call_len_list ⟨_,R.hp.base _ _ g,rfl,_,rfl⟩ ?_ ?_)
  ·rw [List.size_toArray,hlen];exact dX z
  ·rw [List.size_toArray,hlen];exact bD R ok (.int _ _) h
 | ref i=>
  obtain ⟨a,rfl,g⟩:=hx.inv
  obtain ⟨ys,hi,h⟩ | ⟨ys,hi,h⟩:=iK h
  ·obtain ⟨items,n,gi,l,z⟩:=R.hp.objs _ _ _ hi g
   refine hn (PySem.Calls.call_len_list ⟨_,gi,rfl,_,rfl⟩ ?_ ?_)
   ·rw [List.size_toArray,l.length];exact dX z
   ·rw [List.size_toArray,l.length];exact bD R ok (.int _ _) h
  ·obtain ⟨kvs,dk,rk,z⟩:=R.hp.objs _ _ _ hi g
   refine hn (call_len_dict (kt G R.hp (List.mem_of_getElem? g)) dk ?_ ?_)
   ·rw [rk.length];exact dX z
   ·rw [rk.length];exact bD R ok (.int _ _) h
 | _=>exact h
theorem qC (R:Rel C F ρ m s) {a:Addr}:(ρ++[a])[m.heap.length]?=some a:=by rw [←R.hp.len,List.getElem?_append_right (Nat.le_refl _)];simp
theorem qD (R:Rel C F ρ m s) (ok:aV F) {i:Nat}{ys:List MV}{v:Value}(hx:Rep C ρ s.heap (.ref i) v) (hi:m.heap[i]?=some (.list ys)) (h:Q (.tup ys) m):wpAny (mod C) A (call (.type "tuple") [v]) (Out C F ρ s Q) E s:=by
 obtain ⟨a,rfl,g⟩:=hx.inv
 obtain ⟨items,n,gi,l,z⟩:=R.hp.objs _ _ _ hi g
 refine call_tuple_list ⟨_,gi,rfl,_,rfl⟩ (fun h' hk=>?_) (by rw [List.size_toArray,l.length];exact z)
 have hk':∀b o,s.heap.get? b=some o→(h'.push (mK items 0)).get? b=some o:=fun b o e=>Heap.get?_push_of_some _ (hk b o e)
 exact gI R ok hk' (.tup (Heap.get?_push_size _ rfl) (l.up (fun a o e _=>hk' a o e) (List.prefix_refl _)) z) h
theorem tH (G:GOk C) (R:Rel C F ρ m s) (ok:aV F) {i:Nat}{ys:List (List Nat × MV)}{v:Value}(hx:Rep C ρ s.heap (.ref i) v) (hi:m.heap[i]?=some (.dict ys)) (h:Q (.ref m.heap.length) (m.push (.dict ys))):wpAny (mod C) A (call (.type "dict") [v]) (Out C F ρ s Q) E s:=by
 obtain ⟨a,rfl,g⟩:=hx.inv
 obtain ⟨kvs,dk,rk,z⟩:=R.hp.objs _ _ _ hi g
 refine kt_call_dict (kt G R.hp (List.mem_of_getElem? g)) dk (by rw [rk.length];exact z) fun h' hd hs=>?_
 have hk:∀a o,s.heap.get? a=some o→h'.get? a=some o:=fun a o e=>(hs.2 a (Nat.ne_of_lt (Heap.lt_size e))).trans (Heap.get?_push_of_some _ e)
 obtain ⟨R',st⟩:=R.alloc (s':={ s with heap:=h' }) ok hk rfl rfl (o:=.dict ys) (a:=s.heap.objs.size) (bo (Nat.le_refl _))
  ⟨kvs,hd,rk.up (fun a o e _=>hk a o e) (List.prefix_append _ _),z⟩
 exact ⟨_,_,_,st,R',.ref (qC R),h⟩
theorem yP {i:Int}(h:0≤i∧i<1000000):i.natAbs.log2<1920:=by
 have:i.natAbs<1000000:=by lia
 rcases Nat.eq_zero_or_pos i.natAbs with q | q
 ·rw [q];decide
 ·have:=(Nat.log2_lt (n:=i.natAbs) (k:=20) (Nat.ne_of_gt q)).mpr (Nat.le_trans this (nb rfl))
  exact Nat.le_trans this (nb rfl)
end
end Internal
end
section
namespace Internal
open PySem PyProof.Rows
section
variable {C:Glo}{F:Fm}{X:XM}{ρ:List Addr}{m:MS}{s:Shared}{Q:PQ}{E:Value→Shared→Prop}{A:Around}{h:Heap}{hp:List MO}
theorem ph (G:GOk C) (hn:A.handled=none) (R:Rel C F ρ m s) (ok:aV F) {i:Nat}{ys:List (List Nat × MV)}{v:Value}(hx:Rep C ρ s.heap (.ref i) v) (hi:m.heap[i]?=some (.dict ys)) (hu:AU=true) (h:Q (.ref m.heap.length) (m.push (.list (ys.map fun p=>.str p.1)))) :
  wpAny (mod C) A (call (.type "list") [v]) (Out C F ρ s Q) E s:=absurd hu (by decide)
end
end Internal
end
section
namespace Internal
open PySem PyProof.Rows
section
variable {C:Glo}{F:Fm}{X:XM}{ρ:List Addr}{m:MS}{s:Shared}{Q:PQ}{E:Value→Shared→Prop}{A:Around}{h:Heap}{hp:List MO}
theorem Cc (hn:A.handled=none) (R:Rel C F ρ m s) (ok:aV F) {i j:Int}{t u:Tok}{n:Str}{f:Value}(hb:nY .min=some (n,f)) (h:qp .min i j Q m):wpAny (mod C) A (call f [.int i t,.int j u]) (Out C F ρ s Q) E s:=by
 have hb:(some ("min",.builtin "min"):Option (Str × Value))=some (n,f):=hb
 cases hb
 refine min_two_ints hn fun h' tk hk=>?_
 have h:Q (.int (min i j)) m:=h
 by_cases q:j<i
 ·rw [if_pos q];rw [Int.min_eq_right (Int.le_of_lt q)] at h;exact gI R ok hk (.int _ _) h
 ·rw [if_neg q];rw [Int.min_eq_left (Int.not_lt.mp q)] at h;exact gI R ok hk (.int _ _) h
theorem Cd (hn:A.handled=none) (R:Rel C F ρ m s) (ok:aV F) {i j:Int}{t u:Tok}{n:Str}{f:Value}(hb:nY .max=some (n,f)) (h:qp .max i j Q m):wpAny (mod C) A (call f [.int i t,.int j u]) (Out C F ρ s Q) E s:=by
 have hb:(some ("max",.builtin "max"):Option (Str × Value))=some (n,f):=hb
 cases hb
 refine max_two_ints hn fun h' tk hk=>?_
 have h:Q (.int (max i j)) m:=h
 by_cases q:j > i
 ·rw [if_pos q];rw [Int.max_eq_right (Int.le_of_lt q)] at h;exact gI R ok hk (.int _ _) h
 ·rw [if_neg q];rw [Int.max_eq_left (Int.not_lt.mp q)] at h;exact gI R ok hk (.int _ _) h
theorem tI {bs:List Bool}{items:List Value}{h:Heap}(l:aG C ρ h (bs.map .bool) items) {j:Nat}{v:Value}(e:items[j]?=some v):∃b,bs[j]?=some b∧v=.bool b:=by
 have hj:j<bs.length:=by have:=(List.getElem?_eq_some_iff.mp e).1;rw [l.length,List.length_map] at this;exact this
 obtain ⟨v',e',r⟩:=l.get (i:=j) (x:=.bool bs[j]) (by rw [List.getElem?_map,List.getElem?_eq_getElem hj];rfl)
 obtain rfl:=same e e'
 exact ⟨_,List.getElem?_eq_getElem hj,r.inv⟩
theorem tJ (bs:List Bool):(List.range bs.length).all (fun j=>(bs[j]?).getD false)=bs.all id:=by
 rw [Bool.eq_iff_iff,List.all_eq_true,List.all_eq_true]
 constructor
 ·intro h b hb
  obtain ⟨j,hj,e⟩:=List.getElem_of_mem hb
  have:=h j (List.mem_range.mpr hj)
  rw [List.getElem?_eq_getElem hj,e] at this
  exact this
 ·intro h j hj
  have hj:=List.mem_range.mp hj
  rw [List.getElem?_eq_getElem hj]
  exact h _ (List.getElem_mem hj)
theorem Ce (hn:A.handled=none) (R:Rel C F ρ m s) (ok:aV F) {i:Nat}{v:Value}(hx:Rep C ρ s.heap (.ref i) v) {n:Str}{f:Value}(hb:nY .all=some (n,f)) (h:fJ .all (.ref i) Q m):wpAny (mod C) A (call f [v]) (Out C F ρ s Q) E s:=by
 have hb:(some ("all",.builtin "all"):Option (Str × Value))=some (n,f):=hb
 cases hb
 obtain ⟨a,rfl,g⟩:=hx.inv
 obtain ⟨xs,hi,bs,rfl,_,hq⟩:=cD h
 obtain ⟨items,k,gi,l,z⟩:=R.hp.objs _ _ _ hi g
 have hl:s.heap.IsList _ items.toArray:=⟨_,gi,rfl,_,rfl⟩
 refine call_all_walk (wpAny_pyIter_list hl ?_)
 have hne:=Nat.ne_of_lt (Heap.lt_size gi)
 refine ⟨_,_,_,_,_,_,fun j=>(bs[j]?).getD false,rfl,Walks.list (A:=A.in1) hn _ _ hne items.toArray,⟨⟨_,Heap.get?_push_size _ rfl,rfl,rfl⟩,hl.push _⟩,fun j v s Q E hP hQ=>?_,fun h' tk hk=>?_⟩
 ·obtain ⟨b,e1,rfl⟩:=tI l (j:=j) (v:=v) ((List.getElem?_toArray ..).symm.trans hP)
  have hQ:Q ((bs[j]?).getD false) s:=hQ
  rw [e1] at hQ
  exact wpAny_truthy_bool hQ
 ·rw [List.size_toArray,l.length,List.length_map,tJ]
  exact gI R ok (fun b o e=>hk b o (fun hm=>Nat.ne_of_lt (Heap.lt_size e) (List.mem_singleton.mp hm)) (Heap.get?_push_of_some _ e)) (.bool _) hq
end
end Internal
end
section
namespace Internal
open PySem PyProof.Rows
section
variable {C:Glo}{F:Fm}{X:XM}{ρ:List Addr}{m:MS}{s:Shared}{Q:PQ}{E:Value→Shared→Prop}{A:Around}{h:Heap}{hp:List MO}
theorem Cf (hn:A.handled=none) (R:Rel C F ρ m s) (ok:aV F) {i:Nat}{v:Value}(hx:Rep C ρ s.heap (.ref i) v) {n:Str}{f:Value}(hb:nY .sum=some (n,f)) (h:fJ .sum (.ref i) Q m):wpAny (mod C) A (call f [v]) (Out C F ρ s Q) E s:=aB hb
end
end Internal
end
section
set_option maxRecDepth 100000
namespace Internal
open PySem PyProof.Rows
theorem yQ:typeLookup (.type "list") "keys"=pure none:=by rw [typeLookup_type,builtinLookup_eq_fast];kernel_rfl
section
variable {prog:Program}{w:World}{A:Around}{E:Value→Shared→Prop}{s:Shared}
theorem yR {a:Addr}{xs:Array Value}{k:Nat}{Q:Option Value→Shared→Prop}(hx:s.heap.get? a=some { cls:=.type "list",dict:=none,data:=.seq xs k,slots:=#[] }) (hA:A.handled=none)
  (h:∀h' tk,(∀b o,s.heap.get? b=some o→h'.get? b=some o)→Q none { s with heap:=h',toks:=tk }):wpAny (model prog w) A (getAttr? (.ref a) "keys") Q E s:=by
 obtain ⟨hp,g,d,tk,os⟩:=s
 have hT:∀tk',(⟨hp,g,d,tk',os⟩:Shared).TypeIs (.ref a) "list":=fun _=>⟨_,hx,rfl⟩
 have f1:=sub_AttributeError
 have f3:=F.slot_list_getattribute.lookup
 have f4:=F.slot_list_getattribute.bind (.ref a)
 have f5:=am_list_getattr_none
 unfold getAttr? getAttrBy? getAttrBy
 repeat (any_goals (first | assumption | exact hT _ | ((with_reducible show wpAny _ _ (call (Value.builtin "list.__getattribute__") _ _) _ _ _);refine call_meets F.slot_list_getattribute (hT _) am_entry_list_getattribute (F.args_list_getattribute_2 _ _) (meets_getattribute_miss_list a xs k #[] "keys" _ yQ (by decide) (by size_fits)) ⟨hx,hA,fun h' tk' e hx'=>?_⟩) | wp_step))
 obtain ⟨t',u',he⟩:=hx'.there
 show wpAny _ _ (getattributeRaised _ _ _ _ _ _ _) _ _ _
 unfold getattributeRaised
 repeat (any_goals (first | assumption | wp_step))
 exact h h' tk' hx'.keeps
theorem mX:entryFor table "dict.update.loop"=some Builtin.«dict.update.loop»:=entryFor_of_tree (by kernel_rfl)
theorem gJ:plainId "dict.update.loop"=true:=by decide +kernel
noncomputable def nZ (h:Heap) (items:List Value) (ps:List (Str × Value)):Prop:=items.length=ps.length∧∀(j:Nat) p,ps[j]?=some p→∃t tk n,items[j]?=some (.ref t)∧h.get? t=some (mK [.str p.1 tk,p.2] n)
theorem qE {K:Type} [DecidableEq K] {kvs:List (K × Value)}{k:K}{v:Value}(h:k∉kvs.map (·.1)):stored kvs k v=kvs++[(k,v)]:=by
 unfold stored
 rw [if_neg]
 intro q
 obtain ⟨p,hp,e⟩:=List.any_eq_true.mp q
 exact h (List.mem_map.mpr ⟨p,hp,by simpa using e⟩)
theorem vn {I l d:Addr}{items:List Value}{ps:List (Str × Value)}{R:Result→Shared→Prop}(hA:A.handled=none) (hnd:(ps.map (·.1)).Nodup) (hz:ps.length≤sizeLine) (hlI:l≠I) (hdI:d≠I) (hdl:d≠l) (h0:Heap) (hp:nZ h0 items ps) (hI0:h0.get? I=none) (hd0:h0.get? d=none) :
  ∀(k i:Nat) (s:Shared) (n:Int) (u:Tok),ps.length-i=k→i≤ps.length→(∀b o,h0.get? b=some o→s.heap.get? b=some o)→s.heap.IsListIter I l i→s.heap.IsList l items.toArray→s.heap.DictOf (strKind prog w) d (ps.take i)→
   (∀h' tk,(∀b o,b≠I→b≠d→s.heap.get? b=some o→h'.get? b=some o)→h'.DictOf (strKind prog w) d ps→R (.ok (.ret .none)) { s with heap:=h',toks:=tk })→
   codeAny (model prog w) A (.builtin "dict.update.loop" ⟨[.ref d,.ref I,.int n u,.none],[]⟩) R s:=by
 have W:=Walks.list (prog:=prog) (w:=w) (A:=A.in1) hA I l hlI items.toArray
 have hsz:items.toArray.size=ps.length:=by rw [List.size_toArray];exact hp.1
 intro k
 induction k with
 | zero=>
  intro i s n u hk hi hb hit hli hdo hR
  have hin:i=ps.length:=Nat.le_antisymm hi (Nat.le_of_sub_eq_zero hk)
  subst hin
  refine codeAny_builtin mX ?_
  rw [Around.under_plainId gJ _]
  show wpAny _ A.in1 (pyNext (.ref I) >>= _) _ _ s
  refine wpAny_bind (W.done s _ _ ⟨by rw [hsz];exact hit,hli⟩ fun h' tk hk'=>?_)
  have hk2:∀b o,b≠I→s.heap.get? b=some o→h'.get? b=some o:=fun b o hb e=>hk' b o (fun q=>hb (List.mem_singleton.mp q)) e
  obtain ⟨o,es,ep,e,r⟩:=hdo
  rw [List.take_length] at r
  exact wpAny_bind (wpAny_pure (wpAny_pure (hR h' tk (fun b o h1 _ e=>hk2 b o h1 e) ⟨o,es,ep,hk2 _ _ hdI e,r⟩)))
 | succ k ih=>
  intro i s n u hk hi hb hit hli hdo hR
  have hlt:i<ps.length:=Nat.lt_of_sub_eq_succ hk
  obtain ⟨t,tk,c,e1,e2⟩:=hp.2 i ps[i] (List.getElem?_eq_getElem hlt)
  refine codeAny_builtin mX ?_
  rw [Around.under_plainId gJ _]
  show wpAny _ A.in1 (pyNext (.ref I) >>= _) _ _ s
  refine wpAny_bind (W.item i s _ _ (by rw [hsz];exact hlt) ⟨hit,hli⟩ fun v h' tk' hP hst hk'=>?_)
  have hk2:∀b o,b≠I→s.heap.get? b=some o→h'.get? b=some o:=fun b o hb e=>hk' b o (fun q=>hb (List.mem_singleton.mp q)) e
  have hv:v=.ref t:=by
   have:items.toArray[i]?=some v:=hP
   rw [List.getElem?_toArray,e1] at this
   exact (Option.some.inj this).symm
  subst hv
  have htI:t≠I:=fun q=>aO hI0 (q▸e2)
  have htd:t≠d:=fun q=>aO hd0 (q▸e2)
  have ht:=hk2 _ _ htI (hb _ _ e2)
  obtain ⟨o,es,ep,e,r⟩:=hdo
  have hdo':h'.DictOf (strKind prog w) d (ps.take i):=⟨o,es,ep,hk2 _ _ hdI e,r⟩
  have hlen:(ps.take i).length≤sizeLine:=Nat.le_trans (by rw [List.length_take];exact Nat.min_le_right ..) hz
  have hkey:ps[i].1∉(ps.take i).map (·.1):=fun hm=>by
   have hps:ps=ps.take i++ps[i]::ps.drop (i+1):=by
    rw [←List.drop_eq_getElem_cons hlt,List.take_append_drop]
   rw [hps,List.map_append] at hnd
   exact (List.nodup_append.mp hnd).2.2 _ hm _ (.head _) rfl
  show wpAny _ A.in1 (holding [Value.ref t] _ >>= fun _=>_) _ _ _
  refine wpAny_bind (wpAny_holding (wpAny_bind (wpAny_tryCatch ?_)))
  unfold Builtin.Dict.pairItems
  refine wpAny_bind (wpAny_typeOf (T:="tuple") ⟨_,ht,rfl⟩ ?_)
  rw [if_pos (by decide)]
  refine wpAny_bind (wpAny_seqItems ht rfl (wpAny_pure ?_))
  show wpAny _ A.in1 (holding [Value.str ps[i].1 tk,ps[i].2] (dictSet d (Value.str ps[i].1 tk) ps[i].2)) _ _ _
  refine wpAny_holding (wpAny_dictSet_pairs (knd:=PySem.strKind prog w) (dU _ _ _ _) hdo' (fun h2 hd2 hs2=>?_) hlen)
  rw [qE hkey] at hd2
  have hk3:∀b o,b≠I→b≠d→s.heap.get? b=some o→h2.get? b=some o:=fun b o h1 h2 e=>(hs2.2 b h2).trans (hk2 b o h1 e)
  have e5:ps.take i++[(ps[i].1,ps[i].2)]=ps.take (i+1):=by rw [List.take_add_one,List.getElem?_eq_getElem hlt];rfl
  rw [e5] at hd2
  refine wpAny_pure ⟨plainId_quiet gJ _,ih (i+1) _ _ _ (by rw [Nat.sub_succ,hk];rfl) hlt (fun b o e=>?_) ?_ ?_ hd2 fun h3 tk3 hk4 hd3=>?_⟩
  ·exact hk3 b o (fun q=>aO hI0 (q▸e)) (fun q=>aO hd0 (q▸e)) (hb b o e)
  ·exact hst.1.at fun o e=>(hs2.2 I (Ne.symm hdI)).trans e
  ·exact hst.2.at fun o e=>(hs2.2 l (Ne.symm hdl)).trans e
  ·exact hR h3 tk3 (fun b o h1 h2 e=>hk4 b o h1 h2 (hk3 b o h1 h2 e)) hd3
theorem ki {l:Addr}{items:List Value}{n:Nat}{ps:List (Str × Value)}{Q:Value→Shared→Prop}(hA:A.handled=none) (hl:s.heap.get? l=some (cR items n)) (hp:nZ s.heap items ps) (hnd:(ps.map (·.1)).Nodup) (hz:ps.length≤sizeLine)
  (h:∀h' tk,h'.DictOf (PySem.strKind prog w) s.heap.objs.size ps→(∀b o,s.heap.get? b=some o→h'.get? b=some o)→Q (.ref s.heap.objs.size) { s with heap:=h',toks:=tk }):wpAny (model prog w) A (call (.type "dict") [.ref l]) Q E s:=by
 refine callType_codes (Q₁:=fun obj s₁=>obj=.ref s.heap.objs.size∧s₁={ s with heap:=s.heap.push { cls:=.type "dict",data:=.dict #[] } }) F.kt_called_dict (F.kt_typeCall_dict_1 _) F.entry_dict_init (kt_code_dict_new _ ⟨rfl,rfl⟩) ?_
 rintro obj s₁ ⟨rfl,rfl⟩
 have hnew:(s.heap.push { cls:=.type "dict",data:=.dict #[] }).DictOf (PySem.strKind prog w) s.heap.objs.size []:=Heap.DictOf.new s.heap
 have hl':(s.heap.push { cls:=.type "dict",data:=.dict #[] }).get? l=some (cR items n):=Heap.get?_push_of_some _ hl
 have hdl:s.heap.objs.size≠l:=fun e=>absurd (Heap.lt_size hl) (by rw [e];exact Nat.lt_irrefl _)
 refine ⟨hnew.typeIs,F.args_dict_init_2 _ _,?_⟩
 unfold Builtin.«dict.__init__»
 refine wpAny_bind ?_
 unfold Builtin.Dict.selfAndRest
 refine wpAny_bind (wpAny_notOrdered_dict hnew.typeIs ?_)
 show wpAny _ _ (pure (s.heap.objs.size,[Value.ref l])) _ _ _
 refine wpAny_pure ?_
 show wpAny _ _ (Builtin.Dict.updateFrom "dict.__init__" s.heap.objs.size (.ref l) [] .none) _ _ _
 unfold Builtin.Dict.updateFrom
 refine wpAny_bind (wpAny_typeOf (T:="list") ⟨_,hl',rfl⟩ ?_)
 rw [if_pos (by decide)]
 refine wpAny_bind (yR hl' hA fun h2 tk2 hk2=>?_)
 rw [if_pos (by rfl)]
 refine wpAny_bind (wpAny_rule ?_)
 have hl2:h2.IsList l items.toArray:=⟨_,hk2 _ _ hl',rfl,_,rfl⟩
 have hn2:h2.DictOf (PySem.strKind prog w) s.heap.objs.size []:=let ⟨o,es,ep,e,r⟩:=hnew;⟨o,es,ep,hk2 _ _ e,r⟩
 have hsz:s.heap.objs.size<h2.objs.size:=by obtain ⟨_,_,_,e,_⟩:=hn2;exact Heap.lt_size e
 refine wpAny_bind (wpAny_pyIter_list hl2 ?_)
 have old:∀b o,s.heap.get? b=some o→(h2.push { cls:=.type "list_iterator",data:=.fields #[.ref l,.int 0 0] }).get? b=some o:=fun b o e=>Heap.get?_push_of_some _ (hk2 b o (Heap.get?_push_of_some _ e))
 refine wpAny_pure ⟨plainId_quiet gJ _,?_⟩
 refine vn (A:=A.in1) (prog:=prog) (w:=w) (show A.in1.handled=none from hA) hnd hz (l:=l) (I:=h2.objs.size) (items:=items) ?_ (Nat.ne_of_lt hsz) hdl s.heap hp ?_ (bo (Nat.le_refl _)) ps.length 0 _ 0 0 (rfl) (Nat.zero_le _) old ⟨_,Heap.get?_push_size _ rfl,rfl,rfl⟩ (hl2.push _) ?_ fun h3 tk3 hk3 hd3=>⟨rfl,?_⟩
 ·obtain ⟨_,e,_⟩:=hl2;exact Nat.ne_of_lt (Heap.lt_size e)
 ·exact bo (Nat.le_of_lt hsz)
 ·obtain ⟨o,es,ep,e,r⟩:=hn2;exact ⟨o,es,ep,Heap.get?_push_of_some _ e,r⟩
 ·refine h h3 tk3 hd3 fun b o e=>hk3 b o (fun q=>?_) (fun q=>?_) (old b o e)
  ·have:=Heap.lt_size e;rw [q] at this;exact Nat.lt_asymm hsz this
  ·have:=Heap.lt_size e;rw [q] at this;exact Nat.lt_irrefl _ this
end
section
variable {C:Glo}{F:Fm}{ρ:List Addr}{m:MS}{s:Shared}{Q:PQ}{E:Value→Shared→Prop}{A:Around}
theorem tK {es:List (List Nat × MV)}{items:List Value}{h:Heap}(l:aG C ρ h (es.map fun p=>.tup [.str p.1,p.2]) items):∃ps,nZ h items ps∧dS C ρ h es ps:=by
 induction es generalizing items with
 | nil=>obtain rfl:=l.inv;exact ⟨[],⟨rfl,fun j p e=>aB e⟩,.nil⟩
 | cons p es ih=>
  obtain ⟨v,ws,rfl,a,b⟩:=l.inv
  obtain ⟨ps,⟨h1,h2⟩,h3⟩:=ih b
  obtain ⟨ad,n,its,rfl,g,r,_⟩:=a.inv
  obtain ⟨u,w,rfl,r1,r2⟩:=r.two
  obtain ⟨t,rfl,z⟩:=r1.inv
  refine ⟨(str p.1,_)::ps,⟨congrArg (·+1) h1,fun j q e=>?_⟩,.cons z r2 h3⟩
  cases j with
  | zero=>obtain rfl:=Option.some.inj e;exact ⟨_,t,_,rfl,g⟩
  | succ j=>exact h2 j q e
theorem tL {es:List (List Nat × MV)}{kvs:List (Str × Value)}{h:Heap}(r:dS C ρ h es kvs):kvs.map (·.1)=(es.map (·.1)).map fun k=>(str k:Str):=by
 induction r with
 | nil=>rfl
 | cons _ _ _ ih=>rw [List.map_cons,ih];rfl
theorem n4 (hn:A.handled=none) (R:Rel C F ρ m s) (ok:aV F) {i:Nat}{xs:List MV}{v:Value}(hx:Rep C ρ s.heap (.ref i) v) (hi:m.heap[i]?=some (.list xs)) (h:uX xs fun es=>Q (.ref m.heap.length) (m.push (.dict es))):wpAny (mod C) A (call (.type "dict") [v]) (Out C F ρ s Q) E s:=by
 obtain ⟨_,es,rfl,hnd,hl,hq⟩:=h
 obtain ⟨a,rfl,g⟩:=hx.inv
 obtain ⟨items,n,gi,l,z⟩:=R.hp.objs _ _ _ hi g
 obtain ⟨ps,hp,rk⟩:=tK l
 have hnd':(ps.map (·.1)).Nodup:=by
  rw [tL rk]
  exact List.pairwise_map.mpr (hnd.imp fun hne e=>hne (iL e))
 have hz:ps.length≤line:=by rw [rk.length];exact Nat.le_trans (Nat.le_of_lt hl) (by unfold line;decide)
 refine ki hn gi hp hnd' hz fun h' tk hd hk=>?_
 obtain ⟨R',st⟩:=R.alloc (s':={ s with heap:=h',toks:=tk }) ok hk rfl rfl (o:=.dict es) (a:=s.heap.objs.size) (bo (Nat.le_refl _))
  ⟨ps,hd,rk.up (fun a o e _=>hk a o e) (List.prefix_append _ _),by rw [←rk.length];exact hz⟩
 exact ⟨_,_,_,st,R',.ref (qC R),hq⟩
end
end Internal
end
section
namespace Internal
open PySem PyProof.Rows
section
variable {C:Glo}{F:Fm}{X:XM}{ρ:List Addr}{m:MS}{s:Shared}{Q:PQ}{E:Value→Shared→Prop}{A:Around}
theorem EI (R:Rel C F ρ m s) (ok:aV F) {z:List Nat}{t:Tok}(h:fJ .int (.str z) Q m):wpAny (mod C) A (call (.type "int") [.str (str z) t]) (Out C F ρ s Q) E s:=by
 exact absurd (show AW=true∧_ from h).1 (by decide)
end
end Internal
end
section
namespace Internal
open PySem PyProof.Rows
section
variable {C:Glo}{F:Fm}{X:XM}{ρ:List Addr}{m:MS}{s:Shared}{Q:PQ}{E:Value→Shared→Prop}{A:Around}{h:Heap}{hp:List MO}
theorem tM (G:GOk C) (hn:A.handled=none) (R:Rel C F ρ m s) (ok:aV F) {x:MV}{v:Value}(hx:Rep C ρ s.heap x v) (h:oV x Q m):wpAny (mod C) A (call (.type "list") [v]) (Out C F ρ s Q) E s:=by
 have key:∀{a:Addr} {ys:List MV} {items:List Value} {k:Nat} {T:String},(T="list"∨T="tuple")→s.heap.get? a=some { cls:=.type T,dict:=none,data:=.seq items.toArray k,slots:=#[] }→aG C ρ s.heap ys items→ys.length≤line→Q (.ref m.heap.length) (m.push (.list ys))→wpAny (mod C) A (call (.type "list") [.ref a]) (Out C F ρ s Q) E s:=fun {a ys items k T} hT gi l z h=>by
  refine call_list_seq _ hT gi rfl rfl (fun h' c' hk hn=>?_) (by rw [List.size_toArray,l.length];exact z)
  obtain ⟨R',st⟩:=R.alloc (s':={ s with heap:=h' }) ok hk rfl rfl (o:=.list ys) (a:=s.heap.objs.size) (bo (Nat.le_refl _))
   ⟨items,c',hn,l.up (fun a o e _=>hk a o e) (List.prefix_append _ _),z⟩
  exact ⟨_,_,_,st,R',.ref (qC R),h⟩
 refine Classical.byContradiction fun hc=>?_
 cases x with
 | ref i=>
  obtain ⟨ys,hi,h⟩ | ⟨ys,hi,h⟩:=iK h
  ·obtain ⟨a,rfl,g⟩:=hx.inv
   obtain ⟨items,n,gi,l,z⟩:=R.hp.objs _ _ _ hi g
   exact hc (key (.inl rfl) gi l z h)
  ·exact hc (ph G hn R ok hx hi h.1 h.2)
 | tup ys=>
  obtain ⟨a,n,items,rfl,gi,l,z⟩:=hx.inv
  exact hc (key (.inr rfl) gi l z h)
 | _=>exact h
theorem vo (R:Rel C F ρ m s) (ok:aV F) {x:MV}{v:Value}(hx:Rep C ρ s.heap x v) (h:fJ .int x Q m):wpAny (mod C) A (call (.type "int") [v]) (Out C F ρ s Q) E s:=by
 refine Classical.byContradiction fun hn=>?_
 cases x with
 | bool c=>obtain rfl:=hx.inv;exact hn (call_int_bool (bD R ok (.int _ _) (by cases c<;>exact h)))
 | str z=>
  obtain ⟨t,rfl,_⟩:=hx.inv
  exact hn (EI R ok h)
 | _=>exact h
theorem vp (R:Rel C F ρ m s) (ok:aV F) {x:MV}{v:Value}(hx:Rep C ρ s.heap x v) (h:fJ .str x Q m):wpAny (mod C) A (call (.type "str") [v]) (Out C F ρ s Q) E s:=by
 refine Classical.byContradiction fun hn=>?_
 cases x with
 | str z=>obtain ⟨t,rfl,_⟩:=hx.inv;exact hn (PySem.P.str_of_str (bx R hx h))
 | int i=>
  obtain ⟨t,rfl⟩:=hx.inv
  refine hn (PySem.P.str_of_int (yP h.1) ?_)
  have e:(Str.ofString (toString i):Str)=str (dec i):=by rw [Str.ofString_eq_toList];rfl
  rw [e]
  exact bD R ok (.str _ _ (Nat.le_trans (rR h.1).2 (by decide))) h.2
 | _=>exact h
theorem Cg (G:GOk C) (R:Rel C F ρ m s) (ok:aV F) {b:Bi}(hh:ku b=true∨A.handled=none) {xs:List MV}{vs:List Value}(hl:aG C ρ s.heap xs vs) {n:Str}{f:Value}(hb:nY b=some (n,f)) (hns:b≠.sorted) (h:mT b xs Q m) :
  wpAny (mod C) A (call f vs) (Out C F ρ s Q) E s:=by
 have hf:∀{f':Value} {n':Str},some (n',f')=some (n,f)→wpAny (mod C) A (call f' vs) (Out C F ρ s Q) E s→wpAny (mod C) A (call f vs) (Out C F ρ s Q) E s:=fun e k=>by
  obtain rfl:_=f:=congrArg Prod.snd (Option.some.inj e);exact k
 obtain ⟨x,rfl,h⟩ | ⟨x,y,rfl,h⟩:=uV h
 ·obtain ⟨v,rfl,hx⟩:=hl.one
  refine Classical.byContradiction fun hn=>?_
  cases b with
  | len=>exact hn (hf hb (Cb G R ok hx h))
  | list=>exact hn (hf hb (tM G (hh.resolve_left (by decide)) R ok hx h))
  | all=>
   obtain ⟨i,rfl,h1⟩:=fb h
   exact hn (Ce (hh.resolve_left (by decide)) R ok hx hb h)
  | sum=>
   obtain ⟨i,rfl,h1⟩:=fb h
   exact hn (Cf (hh.resolve_left (by decide)) R ok hx hb h)
  | int=>exact hn (hf hb (vo R ok hx h))
  | str=>exact hn (hf hb (vp R ok hx h))
  | tuple=>
   obtain ⟨i,rfl,h1⟩:=fb h
   obtain ⟨ys,hi,h1⟩:=cD h1
   exact hn (hf hb (qD R ok hx hi h1))
  | dict=>
   obtain ⟨i,rfl,h1⟩:=fb h
   obtain ⟨ys,hi,h1⟩ | ⟨ys,hi,h1⟩:=iK h1
   ·exact hn (hf hb (n4 (hh.resolve_left (by decide)) R ok hx hi h1))
   ·exact hn (hf hb (tH G R ok hx hi h1))
  | min=>exact h
  | max=>exact h
  | sorted=>exact hns rfl
  | _=>exact aB hb
 ·obtain ⟨v,w,rfl,hx,hy⟩:=hl.two
  obtain ⟨i,j,t,u,rfl,rfl,h⟩:=gE hx hy h
  refine Classical.byContradiction fun hn=>?_
  cases b with
  | min=>exact hn (Cc (hh.resolve_left (by decide)) R ok hb h)
  | max=>exact hn (Cd (hh.resolve_left (by decide)) R ok hb h)
  | _=>exact h
end
end Internal
end
section
namespace Internal
open PySem PyProof.Rows
set_option genCtorIdx false in
structure Cx where
 kind:Str→Option NameKind
 nm:Nat→Option Str
 fn:Nat→Option Str
 gl:Nat→Option (Str × MV)
 wr:Bool
 fr:Nat→Bool
 nh:Bool
 hf:Nat→Bool
 cn:Nat→Option Str
 xn:Nat→Option Str
 mt:Nat→Option (Nat × Str)
 at_:Nat→Str→Bool
noncomputable def dbg (x:Str):Bool:=x==("__debug__":Str)
noncomputable def cdc (x:Str):Bool:=x==("__classdict__":Str)
noncomputable def ch:List (Str × Value):=[("len",.builtin "len"),("int",.type "int"),("str",.type "str"),("list",.type "list"),("tuple",.type "tuple"),("dict",.type "dict"),
 ("bool",.type "bool"),("isinstance",.builtin "isinstance"),("range",.type "range"),("enumerate",.type "enumerate"),("sorted",.builtin "sorted"),("set",.type "set"),("all",.builtin "all"),("min",.builtin "min"),("max",.builtin "max"),("ValueError",.type "ValueError"),("sum",.builtin "sum"),("reversed",.type "reversed")]
inductive vq (C:Glo) (g b:Addr) (fn:Nat→Option Str) (gl:Nat→Option (Str × MV)) (cn xn:Nat→Option Str):Prop
 | mk (mg mb:Str→Option Value) (h1:C.base.Ns g mg) (h2:C.base.Ns b mb) (hf:∀f x,fn f=some x→∃a,C.fa f=some a∧mg x=some (.ref a)) (hg:∀g x v,gl g=some (x,v)→∃w,mg x=some w∧∀ρ h,C.base.StaysIn h→Rep C ρ h v w)
   (hb:∀x v,(x,v)∈ch→mg x=none∧mb x=some v) (hc:∀k x,cn k=some x→∃K,C.ca k=some K∧mg x=some (.ref K)) (hx:∀k x,xn k=some x→∃K,C.xa k=some K∧mg x=some (.ref K))
structure ay (C:Glo) (c:Cx) (F:Fm) (n:Nat):Prop where
 fm:aV F
 kind:∀x,F.env.kindOf x=c.kind x
 nm:∀i x,c.nm i=some x→(F.env.kindOf x=some .local∧F.lay i=some (.nm F.env.locals x))∨
  (∃a,(F.env.kindOf x=some .cell∨(F.env.kindOf x=some .free∧cdc x=false))∧F.env.cells.lookup x=some a∧F.lay i=some (.cl a))
 glob:vq C F.env.globals F.env.builtins c.fn c.gl c.cn c.xn
 meth:∀f k x,c.mt f=some (k,x)→∃a,C.fa f=some a∧C.cm k x=some (.ref a)∧∃o,C.base.get? a=some o∧o.cls=.type "function"
 attr:∀k x,c.at_ k x=true→C.cm k x=none
 hn:c.nh=true→F.A.handled=none
 hf:c.hf=C.hf
 units:F.A.units≤3 * F.A.depth+4
 room:F.A.depth+n≤999
 inter:interactive F.env=false
 wr:∀i a,F.lay i=some (.cl a)→c.wr=true→a∈F.W
 fr:∀i,c.fr i=true→F.lay i=none
theorem ay.u {C:Glo}{c:Cx}{F:Fm}{n:Nat}(x:ay C c F n):F.A.units+1001<cLine:=by
 have:=x.units;have:=x.room;show _<9900;lia
section
variable {C:Glo}{F:Fm}{X:XM}{ρ:List Addr}{m:MS}{s:Shared}{Q:PQ}{E:Value→Shared→Prop}{A:Around}{c:Cx}{n:Nat}
theorem gK (H:Hp C ρ m.heap s.heap) {a:Addr}{f:Str→Option Value}(h:C.base.Ns a f):s.heap.Ns a f:=kr h fun o e=>⟨o,H.base a o e,rfl⟩
theorem vr (cx:ay C c F n) (R:Rel C F ρ m s) {i:Nat}{x:Str}(hx:c.nm i=some x) {v:MV}(hv:m.get i=some v) {p:Pos}(hd:dbg x=false) (hq:Q v m) :
  wpAny (mod C) A (eval (.Name x p) F.env) (Out C F ρ s Q) E s:=by
 obtain ⟨l,h1,h2⟩:=R.vars i v hv
 refine wpAny_Name ?_ hd
 rcases cx.nm i x hx with ⟨k,e⟩ | ⟨a,k,e1,e⟩
 ·obtain rfl:=same e h1
  obtain ⟨f,w,hn,hw,r⟩:=h2
  exact wpAny_loadName_local cx.fm.kind k hn hw (bx R r hq)
 ·obtain rfl:=same e h1
  obtain ⟨w,hc,r⟩:=h2
  rcases k with k | ⟨k,kd⟩
  ·exact wpAny_loadName_cell cx.fm.kind k e1 hc (bx R r hq)
  ·exact wpAny_loadName_free cx.fm.kind k e1 hc (bx R r hq) kd
theorem cF (cx:ay C c F n) (R:Rel C F ρ m s) {x:Str}{v:Value}(hm:(x,v)∈ch) (hk:c.kind x=some .globalImplicit) {p:Pos}(hd:dbg x=false) {P:Value→Shared→Prop}(h:P v s) :
  wpAny (mod C) A (eval (.Name x p) F.env) P E s:=by
 obtain ⟨mg,mb,h1,h2,_,_,h3,_⟩:=cx.glob
 exact Calls.Name_function_global cx.fm.kind ((cx.kind x).trans hk) (Calls.loadGlobal_builtin (gK R.hp h1) (h3 x v hm).1 (gK R.hp h2) (h3 x v hm).2 h) hd
theorem yS (cx:ay C c F n) (R:Rel C F ρ m s) {x:Str}{f:Nat}(hm:c.fn f=some x) (hk:c.kind x=some .globalImplicit) {p:Pos}(hd:dbg x=false) {P:Value→Shared→Prop}(h:∀a,C.fa f=some a→P (.ref a) s) :
  wpAny (mod C) A (eval (.Name x p) F.env) P E s:=by
 obtain ⟨mg,mb,h1,h2,h3,_⟩:=cx.glob
 obtain ⟨a,e1,e2⟩:=h3 f x hm
 exact Calls.Name_function_global cx.fm.kind ((cx.kind x).trans hk) (Calls.loadGlobal_global (gK R.hp h1) e2 (h a e1)) hd
theorem yT (cx:ay C c F n) (R:Rel C F ρ m s) {x:Str}{g:Nat}{v:MV}(hm:c.gl g=some (x,v)) (hk:c.kind x=some .globalImplicit) {p:Pos}(hd:dbg x=false) (hq:Q v m) :
  wpAny (mod C) A (eval (.Name x p) F.env) (Out C F ρ s Q) E s:=by
 obtain ⟨mg,mb,h1,h2,_,h3,_⟩:=cx.glob
 obtain ⟨w,e1,e2⟩:=h3 g x v hm
 exact Calls.Name_function_global cx.fm.kind ((cx.kind x).trans hk) (Calls.loadGlobal_global (gK R.hp h1) e1 (bx R (e2 ρ s.heap R.hp.base) hq)) hd
theorem vt (cx:ay C c F n) (R:Rel C F ρ m s) {x:Str}{k:Nat}(hm:c.cn k=some x) (hk:c.kind x=some .globalImplicit) {p:Pos}(hd:dbg x=false) {P:Value→Shared→Prop}(h:∀a,C.ca k=some a→P (.ref a) s) :
  wpAny (mod C) A (eval (.Name x p) F.env) P E s:=by
 obtain ⟨mg,mb,h1,h2,_,_,_,h3,_⟩:=cx.glob
 obtain ⟨a,e1,e2⟩:=h3 k x hm
 exact Calls.Name_function_global cx.fm.kind ((cx.kind x).trans hk) (Calls.loadGlobal_global (gK R.hp h1) e2 (h a e1)) hd
theorem vv (cx:ay C c F n) (R:Rel C F ρ m s) {x:Str}{k:Nat}(hm:c.xn k=some x) (hk:c.kind x=some .globalImplicit) {p:Pos}(hd:dbg x=false) {P:Value→Shared→Prop}(h:∀a,C.xa k=some a→P (.ref a) s) :
  wpAny (mod C) A (eval (.Name x p) F.env) P E s:=by
 obtain ⟨mg,mb,h1,h2,_,_,_,_,h3⟩:=cx.glob
 obtain ⟨a,e1,e2⟩:=h3 k x hm
 exact Calls.Name_function_global cx.fm.kind ((cx.kind x).trans hk) (Calls.loadGlobal_global (gK R.hp h1) e2 (h a e1)) hd
theorem gL (cx:ay C c F n) (R:Rel C F ρ m s) {i:Nat}{x:Str}(hx:c.nm i=some x) (hk:c.kind x=some .local∨(c.wr=true∧c.kind x≠some .free)) {v:MV}{w:Value}(hr:Rep C ρ s.heap v w) {P:Unit→Shared→Prop}
  (h:∀s',ax F.W ρ s ρ s'→Rel C F ρ (m.set i v) s'→P () s'):wpAny (mod C) A (storeName F.env x w) P E s:=by
 rcases cx.nm i x hx with ⟨k,e⟩ | ⟨a,k,e1,e⟩
 ·obtain ⟨f,hf⟩:=R.ns
  refine wpAny_storeName_local k hf (fun h' hn hs=>?_) (by rw [cx.fm.kind];rfl)
  obtain ⟨R',st⟩:=R.setName (s':={ s with heap:=h',toks:=s.toks+1 }) cx.fm e hf hn hs rfl rfl hr
  exact h _ st R'
 ·rcases k with k | ⟨k,_⟩
  ·obtain ⟨v₀,hc⟩:=R.cells i a e
   refine wpAny_storeName_cell cx.fm.kind k e1 hc fun h' hn hs=>?_
   have hwr:c.wr=true:=hk.elim (fun q=>absurd ((cx.kind x).symm.trans k) (by rw [q];decide)) (·.1)
   obtain ⟨R',st⟩:=R.setCell (s':={ s with heap:=h' }) cx.fm e (cx.wr i a e hwr) hc hn hs rfl rfl hr
   exact h _ st R'
  ·exact hk.elim (fun q=>absurd ((cx.kind x).symm.trans k) (by rw [q];decide)) fun q=>absurd ((cx.kind x).symm.trans k) q.2
noncomputable def vw:Me→Option Str
 | .append=>some "append"
 | .find=>some "find"
 | .extend=>some "extend"
 | .pop=>some "pop"
 | .split=>some "split"
 | .join=>some "join"
 | .count=>some "count"
 | .dpop=>some "pop"
 | .dclear=>some "clear"
 | .get=>some "get"
 | _=>none
inductive Fy (C:Glo) (ρ:List Addr) (hp:List MO) (h:Heap) (x:MV) (v:Value) (r:Nat) (xs:List MV):Prop
 | mk (a:Addr) (items:List Value) (k:Nat) (hv:v=.ref a) (hx:x=.ref r) (g:ρ[r]?=some a) (hi:hp[r]?=some (.list xs)) (gi:h.get? a=some (cR items k)) (rl:aG C ρ h xs items) (z:xs.length≤line)
inductive Fz (C:Glo) (ρ:List Addr) (hp:List MO) (h:Heap) (x:MV) (v:Value) (r:Nat) (es:List (List Nat × MV)):Prop
 | mk (a:Addr) (kvs:List (Str × Value)) (hv:v=.ref a) (hx:x=.ref r) (g:ρ[r]?=some a) (hi:hp[r]?=some (.dict es)) (dk:h.DictOf (strKind C.prog C.w) a kvs) (rk:dS C ρ h es kvs) (z:es.length≤line)
theorem iR (H:Hp C ρ m.heap s.heap) {x:MV}{v:Value}(hx:Rep C ρ s.heap x v) {r:Nat}{xs:List MV}(h:lst x m.heap=some (r,xs)):Fy C ρ m.heap s.heap x v r xs:=by
 obtain ⟨rfl,hi⟩:=yx h
 obtain ⟨a,rfl,g⟩:=hx.inv
 obtain ⟨items,k,gi,rl,z⟩:=H.objs _ _ _ hi g
 exact ⟨a,items,k,rfl,rfl,g,hi,gi,rl,z⟩
theorem vx {x:MV}{hp:List MO}(h:(lst x hp).isSome=true):∃r xs,lst x hp=some (r,xs):=by
 obtain ⟨⟨r,xs⟩,h⟩:=Option.isSome_iff_exists.mp h
 exact ⟨r,xs,h⟩
theorem lw (ok:aV F) {ρ₀:List Addr}{s₀:Shared}(st₀:ax F.W ρ₀ s₀ ρ s) (R:Rel C F ρ m s) {r:Nat}{a:Addr}{xs ys:List MV}{items:List Value}{k:Nat}(g:ρ[r]?=some a) (hi:m.heap[r]?=some (.list xs)) {h':Heap}{t:Nat}
  (hk:∀b ob,b≠a→s.heap.get? b=some ob→h'.get? b=some ob) (e:h'.get? a=some (cR items k)) (hr:aG C ρ s.heap ys items) (hz:ys.length≤line) {z:MV}{w:Value}(hw:Rep C ρ s.heap z w) (hq:Q z (m.put r (.list ys))) :
  Out C F ρ₀ s₀ Q w { s with heap:=h',toks:=t }:=by
 have hsol:ba s.heap h':=cq hk (bU (R.hp.objs _ _ _ hi g))
 obtain ⟨R₂,st₂⟩:=R.put (s':={ s with heap:=h',toks:=t }) ok g hi (o:=.list ys) hk rfl rfl ⟨items,k,e,hr.up hsol (List.prefix_refl _),hz⟩
 exact ⟨_,_,z,st₀.trans st₂,R₂,hw.up hsol (List.prefix_refl _),hq⟩
theorem jU {items ys:List Value}{f:Array Value→Array Value}{k:Nat}(e:f items.toArray=ys.toArray):∃k',Obj.mapSeq f (cR items k)=cR ys k':=
 ⟨if (f items.toArray).size==items.toArray.size then k else k+1,congrArg (fun z=>({ cls:=.type "list",data:=.seq z (if (f items.toArray).size==items.toArray.size then k else k+1) }:Obj)) e⟩
theorem vy {id:String}{v:Value}{trees:List (Bool × Sem Value)}{pos:Pos}{P:Value→Shared→Prop}(hp:trees.any (·.1)=false)
  (h:wpAny (mod C) A (spliced trees) (fun vs s₁=>wpAny (mod C) A (call (.builtin id) (v::vs)) P E s₁) E s):wpAny (mod C) A (callWith pos (.builtin id) [v] trees []) P E s:=by
 refine Calls.callWith_builtin hp ?_
 cases trees with
 | nil=>exact wpAny_bind (wpAny_mono h (fun vs s' h'=>wpAny_holding (wpAny_bind (wpAny_pure (wpAny_bind (wpAny_pure (wpAny_pure h')))))) fun _ _ x=>x)
 | cons q trees=>
  obtain ⟨b,t⟩:=q
  simp only [List.any_cons,Bool.or_eq_false_iff] at hp
  obtain ⟨rfl,_⟩:=hp
  exact Calls.evalArgs_plain h
end
end Internal
end
section
namespace Internal
open PySem PyProof.Rows
section
variable {C:Glo}{F:Fm}{X:XM}{ρ:List Addr}{m:MS}{s:Shared}{Q:PQ}{E:Value→Shared→Prop}{A:Around}{c:Cx}{n:Nat}
set_option tactic.hygienic true in
theorem qF {α:Type}(xs:List α):(xs.toArray.eraseIdxIfInBounds (xs.toArray.size-1))=xs.dropLast.toArray:=by
 rw [List.size_toArray]
 apply Array.ext'
 simp [Array.eraseIdxIfInBounds]
 split
 ·simp [List.dropLast_eq_take]
 ·rename_i h
  have:xs=[]:=by
   cases xs with
   | nil=>rfl
   | cons a r=>simp at h
  subst this;rfl
theorem Ci (ok:aV F) {x:MV}{v:Value}{ρ₀:List Addr}{s₀:Shared}(st₀:ax F.W ρ₀ s₀ ρ s) (R:Rel C F ρ m s) (hx:Rep C ρ s.heap x v) {xs:List MV}{vs:List Value}(rl:aG C ρ s.heap xs vs) (h:cY .pop x xs Q m) :
  wpAny (mod C) A (call (.builtin "list.pop") (v::vs)) (Out C F ρ₀ s₀ Q) E s:=by
 replace h:=h.2
 obtain ⟨r,ys,hl,rfl,j1⟩:=ko h
 obtain ⟨y,hy,j2⟩:=cj j1
 obtain ⟨a,items,k,rfl,rfl,g,hi,gi,ri,z⟩:=iR R.hp hx hl
 cases rl with | nil=>
 obtain ⟨w,hw,rw'⟩:=ri.get hy
 have hsz:items.toArray.size=ys.length:=by rw [List.size_toArray,ri.length]
 refine call_meets PySem.F.slot_list_pop ⟨_,gi,rfl⟩ PySem.F.entry_list_pop (PySem.F.args_list_pop_1 _) (PySem.MeetsSeq.list_pop_last a items.toArray k w (by rw [hsz];simpa using hw) (by rw [hsz];exact z)) ⟨gi,?_⟩
 have hs:=Heap.SameBut.update s.heap a (Obj.mapSeq fun xs=>xs.eraseIdxIfInBounds (items.toArray.size-1))
 have hg:=Heap.get?_update_self (Obj.mapSeq fun xs=>xs.eraseIdxIfInBounds (items.toArray.size-1)) gi rfl
 obtain ⟨k₂,e₂⟩:=jU (k:=k) (f:=fun xs=>xs.eraseIdxIfInBounds (items.toArray.size-1)) (qF items)
 refine lw ok st₀ R g hi (t:=s.toks) (fun b ob q e=>(hs.2 b q).trans e) (items:=items.dropLast) (k:=k₂) (hg.trans (congrArg some e₂)) ?_ (Nat.le_trans (by rw [List.length_dropLast];exact Nat.sub_le ..) z) rw' j2
 rw [List.dropLast_eq_take,List.dropLast_eq_take,ri.length]
 exact ri.take _
end
end Internal
end
section
namespace Internal
open PySem PyProof.Rows
section
variable {C:Glo}{F:Fm}{X:XM}{ρ:List Addr}{m:MS}{s:Shared}{Q:PQ}{E:Value→Shared→Prop}{A:Around}{c:Cx}{n:Nat}
theorem vz (ok:aV F) {x:List Nat}{t:Tok}{ρ₀:List Addr}{s₀:Shared}(st₀:ax F.W ρ₀ s₀ ρ s) (R:Rel C F ρ m s) {xs:List MV}{vs:List Value}(rl:aG C ρ s.heap xs vs) (h:cY .split (.str x) xs Q m) :
  wpAny (mod C) A (call (.builtin "str.split") (.str (str x) t::vs)) (Out C F ρ₀ s₀ Q) E s:=by
 exact absurd (show iI=true∧_ from h).1 (by decide)
theorem yU (ok:aV F) {x:List Nat}{t:Tok}{ρ₀:List Addr}{s₀:Shared}(st₀:ax F.W ρ₀ s₀ ρ s) (R:Rel C F ρ m s) {xs:List MV}{vs:List Value}(rl:aG C ρ s.heap xs vs) (h:cY .join (.str x) xs Q m) :
  wpAny (mod C) A (call (.builtin "str.join") (.str (str x) t::vs)) (Out C F ρ₀ s₀ Q) E s:=by
 exact absurd (show iI=true∧_ from h).1 (by decide)
end
end Internal
end
section
namespace Internal
open PySem PyProof.Rows
section
variable {C:Glo}{F:Fm}{X:XM}{ρ:List Addr}{m:MS}{s:Shared}{Q:PQ}{E:Value→Shared→Prop}{A:Around}{c:Cx}{n:Nat}
noncomputable def yV:Me→String
 | .append=>"list.append"
 | .extend=>"list.extend"
 | .pop=>"list.pop"
 | .find=>"str.find"
 | .count=>"list.count"
 | .dpop=>"dict.pop"
 | .dclear=>"dict.clear"
 | .get=>"dict.get"
 | .join=>"str.join"
 | _=>"str.split"
noncomputable def yW:Me→String
 | .dpop=>"dict"
 | .dclear=>"dict"
 | .get=>"dict"
 | .join=>"str"
 | .find=>"str"
 | .split=>"str"
 | _=>"list"
inductive MeF (T:String) (name:Str) (id:String):Prop
 | mk (pa:PlainAttrs T) (sl:Slot T name id) (ty:typeOf (.builtin id)=pure (.type "method_descriptor"))
noncomputable def MeP (k:Me):Prop:=match vw k with
 | some name=>MeF (yW k) name (yV k)
 | none=>True
theorem FA (k:Me):MeP k:=by
 cases k with
 | append=>exact ⟨PySem.F.plainAttrs_list,slot_list_append,rfl⟩
 | extend=>exact ⟨PySem.F.plainAttrs_list,PySem.F.slot_list_extend,rfl⟩
 | pop=>exact ⟨PySem.F.plainAttrs_list,PySem.F.slot_list_pop,rfl⟩
 | dpop=>exact ⟨PySem.F.plainAttrs_dict,PySem.F.slot_dict_pop,PySem.F.type_dict_pop⟩
 | dclear=>exact ⟨PySem.F.plainAttrs_dict,PySem.F.slot_dict_clear,PySem.F.type_dict_clear⟩
 | count=>exact ⟨PySem.F.plainAttrs_list,PySem.F.slot_list_count,PySem.F.type_list_count⟩
 | find=>exact ⟨PySem.F.plainAttrs_str,PySem.F.slot_str_find,PySem.F.type_str_find⟩
 | split=>exact ⟨PySem.F.plainAttrs_str,PySem.F.slot_str_split,PySem.F.type_str_split⟩
 | join=>exact ⟨PySem.F.plainAttrs_str,PySem.F.slot_str_join,PySem.F.type_str_join⟩
 | get=>exact ⟨PySem.F.plainAttrs_dict,PySem.F.slot_dict_get,PySem.F.type_dict_get⟩
 | _=>exact trivial
theorem Cj (ok:aV F) {x:MV}{v:Value}{ρ₀:List Addr}{s₀:Shared}(st₀:ax F.W ρ₀ s₀ ρ s) (R:Rel C F ρ m s) (hx:Rep C ρ s.heap x v) {xs:List MV}{vs:List Value}(rl:aG C ρ s.heap xs vs) (h:cY .append x xs Q m) :
  wpAny (mod C) A (call (.builtin "list.append") (v::vs)) (Out C F ρ₀ s₀ Q) E s:=by
 dsimp only [cY] at h
 obtain ⟨r,ys,hl,j1⟩:=ko h
 obtain ⟨y,rfl,h1,h2⟩:=kp j1
 obtain ⟨a,items,k,rfl,rfl,g,hi,gi,ri,z⟩:=iR R.hp hx hl
 obtain ⟨w1,rfl,ra⟩:=rl.one
 refine PySem.wpAny_list_append_plain ⟨_,gi⟩ (fun h' hl hs=>?_) (by rw [List.size_toArray,ri.length];exact z)
 obtain ⟨n,hl⟩:=hl
 exact lw ok st₀ R g hi (t:=s.toks) (fun b ob q e=>(hs.2 b q).trans e) (items:=items++[_]) (k:=n) (by rw [hl];simp) (ri.append (.cons ra .nil)) (by rw [List.length_append];exact h1) .none h2
theorem Ck (ok:aV F) {x:MV}{v:Value}{ρ₀:List Addr}{s₀:Shared}(st₀:ax F.W ρ₀ s₀ ρ s) (R:Rel C F ρ m s) (hx:Rep C ρ s.heap x v) {xs:List MV}{vs:List Value}(rl:aG C ρ s.heap xs vs) (h:cY .extend x xs Q m) :
  wpAny (mod C) A (call (.builtin "list.extend") (v::vs)) (Out C F ρ₀ s₀ Q) E s:=by
 dsimp only [cY] at h
 obtain ⟨r,ys,hl,j1⟩:=ko h
 obtain ⟨y,rfl,j2⟩:=kp j1
 obtain ⟨r',zs,hl',h1,h2⟩:=ko j2
 obtain ⟨a,items,k,rfl,rfl,g,hi,gi,ri,z⟩:=iR R.hp hx hl
 obtain ⟨w1,rfl,ra⟩:=rl.one
 obtain ⟨a',items',k',rfl,rfl,g',hi',gi',ri',z'⟩:=iR R.hp ra hl'
 have hlen:items.toArray.size+items'.toArray.size≤sizeLine:=by rw [List.size_toArray,List.size_toArray,ri.length,ri'.length];exact h1
 have hlong:¬(!items.toArray.isEmpty&&Builtin.List.listTooLong (items.toArray.size+items'.toArray.size))=true:=by
  have:Builtin.List.listTooLong (items.toArray.size+items'.toArray.size)=false:=by
   unfold Builtin.List.listTooLong
   simpa using hlen
  rw [this,Bool.and_false];decide
 refine call_meets PySem.F.slot_list_extend ⟨_,gi,rfl⟩ PySem.F.entry_list_extend (PySem.F.args_list_extend_2 _ _) (PySem.AutoSeq1.list_extend_list_list_0 a items.toArray k a' items'.toArray k' hlong (Nat.le_trans (Nat.le_add_right ..) hlen) (Nat.le_succ_of_le hlen)) ⟨gi,gi',?_⟩
 have hs:=Heap.SameBut.update s.heap a (Obj.mapSeq fun x=>x++items'.toArray)
 have hg:=Heap.get?_update_self (Obj.mapSeq fun x=>x++items'.toArray) gi rfl
 have e:items.toArray++items'.toArray=(items++items').toArray:=List.append_toArray ..
 obtain ⟨k₂,e₂⟩:=jU (k:=k) (f:=fun x=>x++items'.toArray) e
 exact lw ok st₀ R g hi (t:=s.toks) (fun b ob q e=>(hs.2 b q).trans e) (items:=items++items') (k:=k₂) (hg.trans (congrArg some e₂)) (ri.append ri') (by rw [List.length_append];exact h1) .none h2
theorem yX (ok:aV F) {x:List Nat}{t:Tok}{ρ₀:List Addr}{s₀:Shared}(st₀:ax F.W ρ₀ s₀ ρ s) (R:Rel C F ρ m s) {xs:List MV}{vs:List Value}(rl:aG C ρ s.heap xs vs) (h:cY .find (.str x) xs Q m) :
  wpAny (mod C) A (call (.builtin "str.find") (.str (str x) t::vs)) (Out C F ρ₀ s₀ Q) E s:=by
 dsimp only [cY] at h
 obtain ⟨y,rfl,j1⟩:=kp h
 obtain ⟨z,rfl,j2⟩:=kn j1
 obtain ⟨_,rfl,ra⟩:=rl.one
 obtain ⟨u,rfl,zu⟩:=ra.inv
 refine PySem.SC.find ?_
 obtain ⟨R₂,st₂⟩:=R.tok ok (s.toks+1)
 refine ⟨_,_,_,st₀.trans st₂,R₂,.int _ _,j2 _ ?_⟩
 unfold Txt.find
 split<;>exact Int.natCast_nonneg _
theorem rY (H:Hp C ρ m.heap s.heap) {x:MV}{v:Value}(hx:Rep C ρ s.heap x v) {r:Nat}{es:List (List Nat × MV)}(h:dct x m.heap=some (r,es)):Fz C ρ m.heap s.heap x v r es:=by
 obtain ⟨rfl,hi⟩:=yA h
 obtain ⟨a,rfl,g⟩:=hx.inv
 obtain ⟨kvs,dk,rk,z⟩:=H.objs _ _ _ hi g
 exact ⟨a,kvs,rfl,rfl,g,hi,dk,rk,z⟩
theorem v8 {x:MV}{hp:List MO}(h:(dct x hp).isSome=true):∃r xs,dct x hp=some (r,xs):=by
 obtain ⟨⟨r,xs⟩,h⟩:=Option.isSome_iff_exists.mp h
 exact ⟨r,xs,h⟩
theorem EJ (ok:aV F) {ρ₀:List Addr}{s₀:Shared}(st₀:ax F.W ρ₀ s₀ ρ s) (R:Rel C F ρ m s) {r:Nat}{a:Addr}{xs ys:List (List Nat × MV)}{kvs:List (Str × Value)}(g:ρ[r]?=some a) (hi:m.heap[r]?=some (.dict xs)) {h':Heap}{t:Nat}
  (hk:∀b ob,b≠a→s.heap.get? b=some ob→h'.get? b=some ob) (e:h'.DictOf (strKind C.prog C.w) a kvs) (hr:dS C ρ s.heap ys kvs) (hz:ys.length≤line) {z:MV}{w:Value}(hw:Rep C ρ s.heap z w) (hq:Q z (m.put r (.dict ys))) :
  Out C F ρ₀ s₀ Q w { s with heap:=h',toks:=t }:=by
 have hsol:ba s.heap h':=cq hk (bU (R.hp.objs _ _ _ hi g))
 obtain ⟨R₂,st₂⟩:=R.put (s':={ s with heap:=h',toks:=t }) ok g hi (o:=.dict ys) hk rfl rfl ⟨kvs,e,hr.up hsol (List.prefix_refl _),hz⟩
 exact ⟨_,_,z,st₀.trans st₂,R₂,hw.up hsol (List.prefix_refl _),hq⟩
theorem yY (G:GOk C) (ok:aV F) {x:MV}{v:Value}{ρ₀:List Addr}{s₀:Shared}(st₀:ax F.W ρ₀ s₀ ρ s) (R:Rel C F ρ m s) (hx:Rep C ρ s.heap x v) {xs:List MV}{vs:List Value}(rl:aG C ρ s.heap xs vs) (h:cY .get x xs Q m) :
  wpAny (mod C) A (call (.builtin "dict.get") (v::vs)) (Out C F ρ₀ s₀ Q) E s:=by
 dsimp only [cY] at h
 obtain ⟨r,es,hl,j1⟩:=yt h
 obtain ⟨y,d,rfl,j2⟩:=yu j1
 obtain ⟨k,rfl,j3⟩:=kn j2
 obtain ⟨a,kvs,rfl,rfl,g,hi,dk,rk,zl⟩:=rY R.hp hx hl
 obtain ⟨_,dv,rfl,ra,rd⟩:=rl.two
 obtain ⟨t,rfl,zt⟩:=ra.inv
 have hg:=rk.get k
 refine call_meetsIn PySem.F.slot_dict_get dk.typeIs PySem.F.entry_dict_get (PySem.F.args_dict_get_3 _ _ _) (meets_dict_get_default (strKind C.prog C.w) a (k:=str k) (dU C.prog C.w (str k) t) (kt G R.hp (List.mem_of_getElem? g)) dv) ⟨_,dk.mapOf,?_⟩
 obtain ⟨R₂,st₂⟩:=R.tok ok (s.toks+1)
 cases e:aE es k with
 | none=>
  rw [e] at hg j3
  rw [hg]
  exact ⟨_,_,_,st₀.trans st₂,R₂,rd,j3⟩
 | some z=>
  rw [e] at hg j3
  obtain ⟨w,e',rw'⟩:=hg
  rw [e']
  exact ⟨_,_,_,st₀.trans st₂,R₂,rw',j3⟩
end
end Internal
end
section
namespace Internal
open PySem PyProof.Rows
section
variable {C:Glo}{F:Fm}{X:XM}{ρ:List Addr}{m:MS}{s:Shared}{Q:PQ}{E:Value→Shared→Prop}{A:Around}{c:Cx}{n:Nat}
theorem yZ (ok:aV F) {x:MV}{v:Value}{ρ₀:List Addr}{s₀:Shared}(st₀:ax F.W ρ₀ s₀ ρ s) (R:Rel C F ρ m s) (hx:Rep C ρ s.heap x v) {xs:List MV}{vs:List Value}(rl:aG C ρ s.heap xs vs) (h:cY .dpop x xs Q m) :
  wpAny (mod C) A (call (.builtin "dict.pop") (v::vs)) (Out C F ρ₀ s₀ Q) E s:=by
 exact absurd (show ju=true∧_ from h).1 (by decide)
theorem tN (ok:aV F) {x:MV}{v:Value}{ρ₀:List Addr}{s₀:Shared}(st₀:ax F.W ρ₀ s₀ ρ s) (R:Rel C F ρ m s) (hx:Rep C ρ s.heap x v) {xs:List MV}{vs:List Value}(rl:aG C ρ s.heap xs vs) (h:cY .dclear x xs Q m) :
  wpAny (mod C) A (call (.builtin "dict.clear") (v::vs)) (Out C F ρ₀ s₀ Q) E s:=by
 exact absurd (show ju=true∧_ from h).1 (by decide)
theorem wa (ok:aV F) {x:MV}{v:Value}{ρ₀:List Addr}{s₀:Shared}(st₀:ax F.W ρ₀ s₀ ρ s) (R:Rel C F ρ m s) (hx:Rep C ρ s.heap x v) {xs:List MV}{vs:List Value}(rl:aG C ρ s.heap xs vs) (h:cY .count x xs Q m) :
  wpAny (mod C) A (call (.builtin "list.count") (v::vs)) (Out C F ρ₀ s₀ Q) E s:=by
 exact absurd (show ju=true∧_ from h).1 (by decide)
end
end Internal
end
section
namespace Internal
open PySem PyProof.Rows
section
variable {C:Glo}{F:Fm}{X:XM}{ρ:List Addr}{m:MS}{s:Shared}{Q:PQ}{E:Value→Shared→Prop}{A:Around}{c:Cx}{n:Nat}
theorem wb (G:GOk C) (ok:aV F) {k:Me}{x:MV}{v:Value}{ρ₀:List Addr}{s₀:Shared}(st₀:ax F.W ρ₀ s₀ ρ s) (R:Rel C F ρ m s) (hx:Rep C ρ s.heap x v) {xs:List MV}{vs:List Value}(rl:aG C ρ s.heap xs vs) (h:cY k x xs Q m) (hk:(vw k).isSome=true)
  (hs:meK k=.str→∃y,x=.str y) :
  wpAny (mod C) A (call (.builtin (yV k)) (v::vs)) (Out C F ρ₀ s₀ Q) E s:=by
 refine Classical.byContradiction fun hn=>?_
 cases k with
 | append=>exact hn (Cj ok st₀ R hx rl h)
 | extend=>exact hn (Ck ok st₀ R hx rl h)
 | pop=>exact hn (Ci ok st₀ R hx rl h)
 | dpop=>exact hn (yZ ok st₀ R hx rl h)
 | dclear=>exact hn (tN ok st₀ R hx rl h)
 | count=>exact hn (wa ok st₀ R hx rl h)
 | get=>exact hn (yY G ok st₀ R hx rl h)
 | find=>
  obtain ⟨y,rfl⟩:=hs rfl
  obtain ⟨t,rfl,_⟩:=hx.inv
  exact hn (yX ok st₀ R rl h)
 | split=>
  obtain ⟨y,rfl⟩:=hs rfl
  obtain ⟨t,rfl,_⟩:=hx.inv
  exact hn (vz ok st₀ R rl h)
 | join=>
  obtain ⟨y,rfl⟩:=hs rfl
  obtain ⟨t,rfl,_⟩:=hx.inv
  exact hn (yU ok st₀ R rl h)
 | _=>exact ff hk
theorem y0 (k:Me):yW k=match meK k with
  | .list=>"list"
  | .dict=>"dict"
  | .str=>"str":=by cases k<;>rfl
theorem Cm (G:GOk C) (ok:aV F) {k:Me}{x:MV}{v:Value}{name:Str}(hn:vw k=some name) {ρ₀:List Addr}{s₀:Shared}(st₀:ax F.W ρ₀ s₀ ρ s) (R:Rel C F ρ m s) (hx:Rep C ρ s.heap x v) (hm:kP k x m.heap=true) {trees:List (Bool × Sem Value)}{pos:Pos}
  (hp:trees.any (·.1)=false)
  (h:wpAny (mod C) F.A (spliced trees) (fun vs s₁=>∃ρ₁ m₁ xs,ax F.W ρ s ρ₁ s₁∧Rel C F ρ₁ m₁ s₁∧aG C ρ₁ s₁.heap xs vs∧cY k x xs Q m₁) E s) :
  MethodOn C.prog C.w F.A name pos v trees (Out C F ρ₀ s₀ Q) E s:=by
 have hk:(vw k).isSome=true:=by rw [hn];rfl
 have hf:=FA k
 unfold MeP at hf
 rw [hn] at hf
 obtain ⟨pa,sl,ty⟩:=hf
 have go:(meK k=.str→∃y,x=.str y)→wpAny (mod C) F.A (callWith pos (.builtin (yV k)) [v] trees []) (Out C F ρ₀ s₀ Q) E s:=fun hs=>vy hp (wpAny_mono h (fun vs s₁ hr=>by obtain ⟨ρ₁,m₁,xs,st,R₁,rl,hw⟩:=hr;exact wb G ok (st₀.trans st) R₁ (hx.step st) rl hw hk hs) fun _ _ e=>e)
 have key:s.TypeIs v (yW k)∧(∀a,v=.ref a→∃o,s.heap.get? a=some o∧o.dict=none)∧(meK k=.str→∃y,x=.str y):=by
  have ht:=y0 k
  unfold kP at hm
  cases q:meK k with
  | list=>
   rw [q] at hm ht
   obtain ⟨r,ys,e⟩:=vx hm
   obtain ⟨a,items,k,rfl,_,_,_,gi,_⟩:=iR R.hp hx e
   exact ⟨by rw [ht];exact ⟨_,gi,rfl⟩,fun b e=>(by cases e;exact ⟨_,gi,rfl⟩),fun q=>nomatch q⟩
  | dict=>
   rw [q] at hm ht
   obtain ⟨r,ys,e⟩:=v8 hm
   obtain ⟨a,kvs,rfl,_,_,_,dk,_⟩:=rY R.hp hx e
   exact ⟨by rw [ht];exact dk.typeIs,dk.mapOf.noDict,fun q=>nomatch q⟩
  | str=>
   rw [q] at hm ht
   obtain ⟨y,rfl⟩:=qq hm
   obtain ⟨t,rfl,_⟩:=hx.inv
   exact ⟨by rw [ht];exact typeIs_str _ _ _,fun a e=>(nomatch e),fun _=>⟨y,rfl⟩⟩
 exact ⟨yW k,yV k,pa,sl,ty,key.1,key.2.1,go key.2.2⟩
end
end Internal
end
section
namespace Internal
open PySem PyProof.Rows
noncomputable def EK (v:MV) (k:Const):Bool:=match v with
 | .none=>match k with
  | .none=>true
  | _=>false
 | .bool b=>match k with
  | .bool c=>b==c
  | _=>false
 | .int i=>match k with
  | .int j=>i==j
  | _=>false
 | .str s=>match k with
  | .str x=>x.cps.toList==s&&decide (s.length≤1000)
  | _=>false
 | _=>false
theorem ao {a b:Bool}(h:(a&&b)=true):a=true∧b=true:=by rwa [Bool.and_eq_true] at h
theorem Co {a b:Bool}(h:(!a||b)=true):¬ a=true∨b=true:=by
 cases a with
 | true=>exact .inr h
 | false=>exact .inl (by decide)
theorem jV {a:Bool}(h:(!a)=true):a=false:=by cases a with
 | true=>exact ff h
 | false=>rfl
noncomputable def cG (c:Cx) (x:Str):Bool:=c.kind x==some .globalImplicit&&!dbg x
noncomputable def lC (c:Cx) (t:TS) (e:Expr):Bool:=au (dW e) fun x=>au (kh t) fun T=>x==Str.ofString T&&c.kind x==some .globalImplicit&&!dbg x
noncomputable def mY (c:Cx) (x:Str):Bool:=c.kind x==some .local||(c.wr&&!(c.kind x==some .free))
theorem iU {c:Cx}{x:Str}(h:mY c x=true):c.kind x=some .local∨(c.wr=true∧c.kind x≠some .free):=by
 simpa [mY] using h
noncomputable def dB (c:Cx):List Nat→List Expr→Bool
 | [],xs=>xs.isEmpty
 | i::t,xs=>match xs with
  | []=>false
  | e::r=>au (dW e) (fun x=>c.nm i==some x&&mY c x)&&dB c t r
noncomputable def n5 (c:Cx) (t:List Nat) (many:Bool) (e:Expr):Bool:=match many with
 | false=>au (dW e) fun x=>au (one t) fun i=>c.nm i==some x&&mY c x
 | true=>au (qA e) (dB c t)
noncomputable def bO (e:Expr):List Str:=match qA e with
 | some elts=>elts.filterMap dW
 | none=>(dW e).toList
noncomputable def lD (kind:Str→Option NameKind) (names:List (Str × NameKind)):List (Str × NameKind):=names.map fun (n,k)=>if (k==.free&&kind n==some .cell) then (n,.cell) else (n,k)
noncomputable def Bh (c:Cx) (sc:Scope) (i:Nat):Option Str:=match c.nm i with
 | some x=>if sc.names.lookup x==some .free then some x else none
 | none=>none
noncomputable def eI (c:Cx) (sc:Scope) (t:List Nat) (tn:List Str):Cx where
 kind x:=(lD c.kind sc.names).lookup x
 nm i:=match (t.zip tn).lookup i with
  | some x=>some x
  | none=>Bh c sc i
 fn:=c.fn
 gl:=c.gl
 wr:=false
 fr i:=c.fr i&&!t.contains i
 nh:=c.nh
 hf:=c.hf
 cn:=c.cn
 xn:=c.xn
 mt:=c.mt
 at_:=c.at_
noncomputable def wc (c:Cx) (x:Str):Bool:=(List.range 64).any (fun i=>c.nm i==some x)&&c.kind x != some .local&&!cdc x
noncomputable def n6 (c:Cx) (sc:Scope) (t:List Nat) (tn:List Str):Bool:=
 sc.kind==.function&&sc.names.all (fun p=>p.2 != .cell&&(p.2 != .local||sc.names.lookup p.1==some .local)&&(p.2 != .free||wc c p.1))&&
  decide (t.length=tn.length)&&decide t.Nodup&&decide tn.Nodup&&t.all c.fr&&tn.all (fun x=>sc.names.lookup x==some .local)
noncomputable def we:IK→Str
 | .enum=>"enumerate"
 | _=>"range"
noncomputable def rZ:IK→Bool
 | .val=>true
 | _=>false
noncomputable def lE (c:Cx) (k:IK) (e:Expr):Option (List Expr):=if rZ k then some [e] else (xFn e).bind fun q=>if cG c q.1&&q.1==we k&&!q.2.1.isEmpty then some q.2.1 else none
noncomputable def Cp:Bi→Str→Str→Bool
 | .sortedSet,x,y=>Ep&&x==("sorted":Str)&&y==("set":Str)
 | .listRev,x,y=>BC&&x==("list":Str)&&y==("reversed":Str)
 | _,_,_=>false
noncomputable def xSS (c:Cx) (b:Bi) (e:Expr):Option Expr:=(xFn e).bind fun q=>(one q.2.1).bind fun y=>(xFn y).bind fun r=>if Cp b q.1 r.1&&cG c q.1&&cG c r.1 then one r.2.1 else none
noncomputable def y5:Bi→Bool
 | .sortedSet=>true
 | .listRev=>true
 | _=>false
noncomputable def lF:IK→Bool
 | .enum=>true
 | _=>false
noncomputable abbrev GV:=Nat × Int × List (List Nat) × List (List Nat × Int)
noncomputable def mvC (v:MV):Option GV:=match v with
 | .int i=>some (0,i,[],[])
 | .str s=>some (1,0,[s],[])
 | .gt ss=>some (2,0,ss,[])
 | .cdict es=>some (3,0,[],es)
 | _=>none
noncomputable def mvB (q:GV):MV:=match q.1 with
 | 0=>.int q.2.1
 | 1=>.str (q.2.2.1.headD [])
 | 2=>.gt q.2.2.1
 | _=>.cdict q.2.2.2
theorem pj {v:MV}{q:GV}(h:mvC v=some q):v=mvB q:=by
 cases v with
 | int i=>obtain rfl:=Option.some.inj h;rfl
 | str s=>obtain rfl:=Option.some.inj h;rfl
 | gt ss=>obtain rfl:=Option.some.inj h;rfl
 | cdict es=>obtain rfl:=Option.some.inj h;rfl
 | _=>exact aB h
noncomputable def EL (c:Cx) (g:Nat) (v:MV) (x:Str):Bool:=au (c.gl g) fun q=>q.1==x&&au (mvC q.2) fun a=>mvC v==some a
noncomputable def cW:List Str:=["opens","secrets","rows","numbers","turns","said"]
noncomputable def eJ:List Str:=["names","kind","told","block","many","do_rows","do_row","do_loop"]
noncomputable def Bj (c:Cx) (t:TS) (e:Expr):Bool:=match t with
 | .cls k=>au (dW e) fun x=>cG c x&&c.xn k==some x
 | .valueError=>au (dW e) fun x=>cG c x&&x==("ValueError":Str)
 | t=>lC c t e
noncomputable def FB:TS→Bool
 | .cls _=>true
 | .valueError=>true
 | _=>false
noncomputable def wf (c:Cx) (ts:List TS) (e:Expr):Bool:=match ts with
 | [t]=>Bj c t e
 | [t,u]=>au (qA e) fun us=>au (two us) fun w=>lC c t w.1&&lC c u w.2
 | _=>false
mutual
noncomputable def aP:Cx→ME→Expr→Bool
 | c,.cst v,e=>au (nS e) (EK v)
 | c,.var i,e=>au (dW e) fun x=>c.nm i==some x&&!dbg x
 | c,.glob g v,e=>au (dW e) fun x=>cG c x&&EL c g v x
 | c,.bin op a b,e=>au (EE e) fun p=>p.2.1==tx op&&aP c a p.1&&aP c b p.2.2
 | c,.neg a,e=>au (xUn e) fun p=>p.1==.USub&&aP c a p.2
 | c,.not a,e=>au (xUn e) fun p=>p.1==.Not&&aP c a p.2
 | c,.and es,e=>au (ve e) fun p=>p.1==.And&&bp c es p.2
 | c,.or es,e=>au (ve e) fun p=>p.1==.Or&&bp c es p.2
 | c,.cmp op a b,e=>au (yG e) fun p=>au (one p.2.1) fun o=>au (one p.2.2) fun r=>o==g9 op&&okX r&&aP c a p.1&&aP c b r
 | c,.cmp2 op op' a b d,e=>au (yG e) fun p=>au (two p.2.1) fun o=>au (two p.2.2) fun r=>o.1==g9 op&&o.2==g9 op'&&okX r.1&&okX r.2&&aP c a p.1&&aP c b r.1&&aP c d r.2
 | c,.isN q a,e=>au (yG e) fun p=>au (one p.2.1) fun o=>au (one p.2.2) fun r=>o==(if q then .Is else .IsNot)&&nS r==some .none&&aP c a p.1
 | c,.call f args,e=>au (xFn e) fun q=>cG c q.1&&c.fn f==some q.1&&!q.2.1.isEmpty&&(c.nh||c.hf f)&&bp c args q.2.1
 | c,.blt b args,e=>if y5 b then au (xSS c b e) fun z=>c.nh&&bp c args [z] else au (xFn e) fun q=>(c.nh||ku b)&&cG c q.1&&au (nY b) (fun p=>q.1==p.1)&&!q.2.1.isEmpty&&bp c args q.2.1
 | c,.mth k o args,e=>au (mW e) fun q=>vw k==some q.1.2.1&&li q.1.1&&(q.1.2.2.endLine==q.2.2.line)&&decide (q.2.1.length<20)&&aP c o q.1.1&&bp c args q.2.1
 | c,.umth k f x o args,e=>au (mW e) fun q=>q.1.2.1.cps.toList==x&&eJ.contains q.1.2.1&&c.mt f==some (k,q.1.2.1)&&(view q.1.1).tag==1&&(q.1.2.2.endLine==q.2.2.line)&&decide (q.2.1.length<20)&&(c.nh||c.hf f)&&aP c o q.1.1&&bp c args q.2.1
 | c,.new k f args,e=>au (xFn e) fun q=>cG c q.1&&c.cn k==some q.1&&c.mt f==some (k,("__init__":Str))&&!q.2.1.isEmpty&&c.nh&&bp c args q.2.1
 | c,.attr k o x,e=>au (rU e) fun q=>q.2.1.cps.toList==x&&cW.contains q.2.1&&c.at_ k q.2.1&&(view q.1).tag==1&&aP c o q.1
 | c,.idx o i,e=>au (yH e) fun p=>okX p.2&&aP c o p.1&&aP c i p.2
 | c,.sl o lo hi,e=>au (yH e) fun p=>au (vg p.2) fun q=>q.2.2.isNone&&aP c o p.1&&Cq c lo q.1&&Cq c hi q.2.1
 | c,.list es,e=>au (Bf e) fun xs=>decide (es.length≤1000)&&bp c es xs
 | c,.tup es,e=>au (qA e) fun xs=>decide (es.length≤1000)&&bp c es xs
 | c,.dict0,e=>au (Bg e) fun p=>p.1.isEmpty&&p.2.isEmpty
 | c,.comp elt t many k src ifs,e=>au (xLC e) fun p=>au (one p.2.1) fun g=>c.nh&&g.is_async==0&&okX g.iter&&(!lF k||many)&&n6 c p.2.2 t (bO g.target)&&au (lE c k g.iter) (fun xs=>bp c src xs)&&
   n5 (eI c p.2.2 t (bO g.target)) t many g.target&&bp (eI c p.2.2 t (bO g.target)) ifs g.ifs&&aP (eI c p.2.2 t (bO g.target)) elt p.1
 | c,.isi a ts,e=>au (xFn e) fun q=>au (two q.2.1) fun v=>cG c q.1&&q.1==("isinstance":Str)&&okX v.1&&aP c a v.1&&wf c ts v.2
noncomputable def bp:Cx→List ME→List Expr→Bool
 | c,[],xs=>xs.isEmpty
 | c,e::es,xs=>match xs with
  | []=>false
  | x::xs=>okX x&&aP c e x&&bp c es xs
noncomputable def Cq:Cx→Option ME→Option Expr→Bool
 | c,none,x=>x.isNone
 | c,some e,x=>match x with
  | some x=>aP c e x
  | none=>false
end
noncomputable def Call (C:Glo):KT:=fun n f vs Q X h=>∀(F:Fm) (m:MS) (s:Shared) (ρ:List Addr) (ws:List Value) (a:Addr),aV F→(F.A.handled=none∨C.hf f=true)→m.heap=h→Rel C F ρ m s→aG C ρ s.heap vs ws→
 F.A.depth+n≤999→F.A.units≤3 * F.A.depth+4→C.fa f=some a→
  wpAny (mod C) F.A (call (.ref a) ws) (Out C F ρ s (fun v m'=>m'.vars=m.vars∧Q v m'.heap)) (Er C F (fun c m'=>m'.vars=m.vars∧X c m'.heap) ρ s) s
section
variable {C:Glo}{F:Fm}{X:XM}{ρ ρ₀:List Addr}{m:MS}{s s₀:Shared}{Q:PQ}{E:Value→Shared→Prop}{A:Around}{c:Cx}{n:Nat}
theorem WPv.go {t:Sem Value}{P:Value→Shared→Prop}(h:WPv C F X t Q m) (R:Rel C F ρ m s) (st₀:ax F.W ρ₀ s₀ ρ s)
  (k:∀ρ₁ s₁ m₁ x v,ax F.W ρ s ρ₁ s₁→ax F.W ρ₀ s₀ ρ₁ s₁→Rel C F ρ₁ m₁ s₁→Rep C ρ₁ s₁.heap x v→Q x m₁→P v s₁):wpAny (mod C) F.A t P (Er C F X ρ₀ s₀) s:=
 wpAny_mono (h s ρ R) (fun v s₁ ⟨ρ₁,m₁,x,a,b,c,d⟩=>k ρ₁ s₁ m₁ x v a (st₀.trans a) b c d) (Er.back st₀)
inductive EM (C:Glo) (F:Fm) (k:Nat) (ρ:List Addr) (s:Shared) (Q:List MV→MS→Prop) (vs:List Value) (s':Shared):Prop
 | mk (ρ':List Addr) (m':MS) (xs:List MV) (st:ax F.W ρ s ρ' s') (R:Rel C F ρ' m' s') (rl:aG C ρ' s'.heap xs vs) (hl:xs.length=k) (hq:Q xs m'):EM C F k ρ s Q vs s'
noncomputable def WPl (C:Glo) (F:Fm) (X:XM) (k:Nat) (t:Sem (List Value)) (Q:List MV→MS→Prop) (m:MS):Prop:=
 ∀s ρ,Rel C F ρ m s→wpAny (mod C) F.A t (EM C F k ρ s Q) (Er C F X ρ s) s
theorem WPl.go {t:Sem (List Value)}{P:List Value→Shared→Prop}{Q:List MV→MS→Prop}{l:Nat}(h:WPl C F X l t Q m) (R:Rel C F ρ m s) (st₀:ax F.W ρ₀ s₀ ρ s)
  (k:∀ρ₁ s₁ m₁ xs vs,ax F.W ρ s ρ₁ s₁→ax F.W ρ₀ s₀ ρ₁ s₁→Rel C F ρ₁ m₁ s₁→aG C ρ₁ s₁.heap xs vs→xs.length=l→Q xs m₁→P vs s₁):wpAny (mod C) F.A t P (Er C F X ρ₀ s₀) s:=
 wpAny_mono (h s ρ R) (fun v s₁ ⟨ρ₁,m₁,x,a,b,c,e,d⟩=>k ρ₁ s₁ m₁ x v a (st₀.trans a) b c e d) (Er.back st₀)
inductive Cr (C:Glo) (F:Fm) (ρ:List Addr) (s:Shared) (Q:Bool→MS→Prop) (b:Bool) (s':Shared):Prop
 | mk (ρ':List Addr) (m':MS) (st:ax F.W ρ s ρ' s') (R:Rel C F ρ' m' s') (hq:Q b m'):Cr C F ρ s Q b s'
noncomputable def WPt (C:Glo) (F:Fm) (X:XM) (t:Sem Bool) (Q:Bool→MS→Prop) (m:MS):Prop:=
 ∀s ρ,Rel C F ρ m s→wpAny (mod C) F.A t (Cr C F ρ s Q) (Er C F X ρ s) s
theorem WPt.go {t:Sem Bool}{P:Bool→Shared→Prop}{Q:Bool→MS→Prop}(h:WPt C F X t Q m) (R:Rel C F ρ m s) (st₀:ax F.W ρ₀ s₀ ρ s)
  (k:∀ρ₁ s₁ m₁ b,ax F.W ρ s ρ₁ s₁→ax F.W ρ₀ s₀ ρ₁ s₁→Rel C F ρ₁ m₁ s₁→Q b m₁→P b s₁):wpAny (mod C) F.A t P (Er C F X ρ₀ s₀) s:=
 wpAny_mono (h s ρ R) (fun v s₁ ⟨ρ₁,m₁,a,b,d⟩=>k ρ₁ s₁ m₁ v a (st₀.trans a) b d) (Er.back st₀)
theorem wg (R:Rel C F ρ m s) (ok:aV F) {P:Bool→MS→Prop}{v:Value}{s':Shared}(h:fM s (fun b=>P b m) v s'):∃b,v=.bool b∧∃m',ax F.W ρ s ρ s'∧Rel C F ρ m' s'∧P b m':=by
 obtain ⟨b,t,rfl,rfl,h⟩:=h
 obtain ⟨R',st⟩:=R.tok ok t
 exact ⟨b,rfl,m,st,R',h⟩
theorem wi (R:Rel C F ρ m s) (ok:aV F) {v:MV}{k:Const}(hc:EK v k=true) (hq:Q v m) {env:Env}{kd:Nat}{p:Pos}:wpAny (mod C) A (eval (.Constant k kd p) env) (Out C F ρ s Q) E s:=by
 refine Classical.byContradiction fun hn=>?_
 cases v with
 | none=>
  cases k with
  | none=>exact hn (wpAny_Constant_none (bx R .none hq))
  | _=>exact ff hc
 | bool b=>
  cases k with
  | bool c=>obtain rfl:=eq_of_beq hc;exact hn (wpAny_Constant_bool (bx R (.bool _) hq))
  | _=>exact ff hc
 | int i=>
  cases k with
  | int j=>obtain rfl:=eq_of_beq hc;exact hn (wpAny_Constant_int (bD R ok (.int _ _) hq))
  | _=>exact ff hc
 | str s'=>
  cases k with
  | str x=>
   obtain ⟨e,hl⟩:=ao hc
   obtain rfl:x=str s':=by rw [←eq_of_beq e]
   exact hn (wpAny_Constant_str (bD R ok (.str _ _ (Nat.le_trans (of_decide_eq_true hl) (by decide))) hq))
  | _=>exact ff hc
 | _=>exact ff hc
theorem br {p:Str × Value}(i:Nat) (h:ch[i]?=some p):p∈ch:=List.mem_of_getElem? h
theorem Cs {b:Bi}{x:Str}{f:Value}(h:nY b=some (x,f)):(x,f)∈ch:=by
 cases b<;>cases h<;>first | exact br 0 rfl | exact br 1 rfl | exact br 2 rfl | exact br 3 rfl | exact br 4 rfl | exact br 5 rfl | exact br 12 rfl | exact br 13 rfl | exact br 14 rfl | exact br 16 rfl | exact br 10 rfl
theorem qG {t:TS}{T:String}(h:kh t=some T):(Str.ofString T,Value.type T)∈ch:=by
 cases t<;>(first | exact aB h | obtain rfl:=Option.some.inj h)<;>first | exact br 1 rfl | exact br 2 rfl | exact br 3 rfl | exact br 4 rfl | exact br 5 rfl | exact br 6 rfl
theorem aN {x:Str}(h:cG c x=true):c.kind x=some .globalImplicit∧dbg x=false:=by
 obtain ⟨h1,h2⟩:=ao h
 exact ⟨eq_of_beq h1,by cases e:dbg x with
  | true=>rw [e] at h2;exact ff h2
  | false=>rfl⟩
theorem Ct {b:Bi}{x:Str}{f:Value}(h:nY b=some (x,f)):(∃id,f=.builtin id)∨∃T,f=.type T:=by
 cases b<;>cases h<;>first | exact .inl ⟨_,rfl⟩ | exact .inr ⟨_,rfl⟩
theorem bV {es:List ME}{xs:List Expr}(h:bp c es xs=true) (pos:Pos) (env:Env):(backTo pos (starEach xs env)).any (·.1)=false:=by
 induction es generalizing xs with
 | nil=>cases xs with
  | nil=>rfl
  | cons=>exact ff h
 | cons e es ih=>
  cases xs with
  | nil=>exact ff h
  | cons x xs=>
   obtain ⟨h1,h2⟩:=Bool.and_eq_true_iff.mp h
   rw [bv (Bool.and_eq_true_iff.mp h1).1]
   show (false||(backTo pos (starEach xs env)).any (·.1))=false
   rw [ih h2];rfl
theorem eM {f:Value}{trees:List (Bool × Sem Value)}{pos:Pos}{s:Shared}{A:Around}{E:Value→Shared→Prop}{P:Value→Shared→Prop}(hf:(∃id,f=.builtin id)∨∃T,f=.type T) (hp:trees.any (·.1)=false) (hne:trees≠[])
  (h:wpAny (mod C) A (spliced trees) (fun vs s₁=>wpAny (mod C) A (call f vs) P E s₁) E s):wpAny (mod C) A (callWith pos f [] trees []) P E s:=by
 obtain ⟨⟨b,t⟩,trees,rfl⟩:=List.exists_cons_of_ne_nil hne
 simp only [List.any_cons,Bool.or_eq_false_iff] at hp
 obtain ⟨rfl,hp⟩:=hp
 rcases hf with ⟨id,rfl⟩ | ⟨T,rfl⟩
 ·exact Calls.callWith_builtin (by simp [hp]) (Calls.evalArgs_plain h)
 ·exact PyProof.Rows.callWith_type (by simp [hp]) (Calls.evalArgs_plain h)
end
end Internal
end
section
namespace Internal
open PySem PyProof.Rows
noncomputable def Shp (h:Heap) (a:Addr):Prop:=∃o,h.get? a=some o∧¬ g7 o∧¬ IsD o
noncomputable def cS (C:Glo) (F:Fm) (ρ:List Addr) (h:Heap) (S:List Addr):Prop:=
 ∀a∈S,a∉ρ∧a∉F.W++F.V∧C.base.get? a=none∧Shp h a
noncomputable def fN (S:List Addr) (s s':Shared):Prop:=(∀b o,b∉S→s.heap.get? b=some o→s'.heap.get? b=some o)∧s'.gens=s.gens∧s'.os=s.os
section
variable {C:Glo}{F:Fm}{X:XM}{c:Cx}{n:Nat}{ρ ρ' ρ₀:List Addr}{m:MS}{s s' s₀:Shared}{S:List Addr}{A:Around}
theorem ax.side {W:List Addr}(x:ax W ρ₀ s₀ ρ s) (y:fN S s s') (hS:∀a∈S,s₀.heap.get? a=none):ax W ρ₀ s₀ ρ s' where
 pre:=x.pre
 new:=x.new
 keep:=fun a o e h1 h2=>by
  have ha:a∉S:=fun h=>by rw [hS a h] at e;exact aB e
  rcases x.keep a o e h1 h2 with e1 | ⟨hc,sl,e1⟩
  ·exact .inl (y.1 a _ ha e1)
  ·exact .inr ⟨hc,sl,y.1 a _ ha e1⟩
 solid:=fun a o e h=>y.1 a o (fun q=>by rw [hS a q] at e;exact aB e) (x.solid a o e h)
 alive:=fun a o e=>let ⟨o',e'⟩:=x.alive a o e;⟨o',y.1 a o' (fun q=>by rw [hS a q] at e;exact aB e) e'⟩
 gens:=y.2.1.trans x.gens
 os:=y.2.2.trans x.os
theorem dC (x:∀a∈S,Shp s.heap a) (y:fN S s s'):ba s.heap s'.heap:=fun a o e h=>y.1 a o (fun q=>by
 obtain ⟨o',e',h',_⟩:=x a q
 obtain rfl:=same e e';exact h' h) e
theorem cS.solids (x:cS C F ρ s.heap S) (y:fN S s s'):ba s.heap s'.heap:=dC (fun a ha=>(x a ha).2.2.2) y
theorem Rel.side0 (R:Rel C F ρ m s) (ok:aV F) (hs:ba s.heap s'.heap) (x:∀a∈S,a∉ρ∧a∉F.W++F.V∧C.base.get? a=none) (hout:∀L∈F.frs,L∉S) (y:fN S s s'):Rel C F ρ m s':=
 R.up ok hs (List.prefix_refl _) (R.hp.up hs (fun a ha o e=>y.1 a o (fun q=>(x a q).1 ha) e) fun b o e=>y.1 b o (fun q=>by rw [(x b q).2.2] at e;exact aB e) (R.hp.base b o e)) (fun a h=>.inl h)
  (fun a ha o e=>⟨o,y.1 a o (fun q=>(x a q).2.1 ha) e,rfl,rfl⟩) (fun L hL o eo=>⟨o,y.1 L o (hout L hL) eo,rfl,rfl⟩) y.2.1
theorem tP (R:Rel C F ρ m s) (x:∀a∈S,Shp s.heap a):∀L∈F.frs,L∉S:=fun L hL q=>by
 obtain ⟨_,_,o,h1,h2⟩:=R.out L hL
 obtain ⟨o2,g1,_,g2⟩:=x L q
 obtain rfl:=same h1 g1
 exact g2 h2
theorem Rel.side (R:Rel C F ρ m s) (ok:aV F) (x:cS C F ρ s.heap S) (y:fN S s s'):Rel C F ρ m s':=
 R.side0 ok (x.solids y) (fun a ha=>⟨(x a ha).1,(x a ha).2.1,(x a ha).2.2.1⟩) (tP R fun a ha=>(x a ha).2.2.2) y
theorem cS.step (x:cS C F ρ s.heap S) (st:ax F.W ρ s ρ' s'):cS C F ρ' s'.heap S∧∀a∈S,∀o,s.heap.get? a=some o→s'.heap.get? a=some o:=by
 have keep:∀a∈S,∀o,s.heap.get? a=some o→s'.heap.get? a=some o:=fun a ha o e=>by
  obtain ⟨h1,h2,h3,o',e',h4,h6⟩:=x a ha
  obtain rfl:=same e e'
  rcases st.keep a o e h1 (fun q=>h2 (List.mem_append_left _ q)) with q | ⟨q,_⟩
  ·exact q
  ·exact absurd q h6
 refine ⟨fun a ha=>?_,keep⟩
 obtain ⟨h1,h2,h3,o',e',h4,h6⟩:=x a ha
 refine ⟨fun q=>(st.new a q).elim h1 fun q=>?_,h2,h3,o',keep a ha _ e',h4,h6⟩
 exact aO q e'
theorem cS.shape {h h':Heap}(x:cS C F ρ h S) (y:∀a∈S,Shp h' a):cS C F ρ h' S:=fun a ha=>⟨(x a ha).1,(x a ha).2.1,(x a ha).2.2.1,y a ha⟩
structure n7 (C:Glo) (A:Around) (target:Expr) (itv:Value) (items:List MV) (g:Option (Nat × List MV)) (S:List Addr) (It:Nat→List Addr→Shared→Prop):Prop where
 shape:∀i ρ s,It i ρ s→∀a∈S,Shp s.heap a
 keep:∀i ρ ρ' s s',It i ρ s→ρ<+:ρ'→ba s.heap s'.heap→(∀a∈S,∀o,s.heap.get? a=some o→s'.heap.get? a=some o)→It i ρ' s'
 item:∀i ρ hp s x,Hp C ρ hp s.heap→aW g hp→It i ρ s→items[i]?=some x→∀(E:Value→Shared→Prop) (N:Shared→Prop) (P:Value→Shared→Prop),
  (∀v s₂,fN S s s₂→It (i+1) ρ s₂→Rep C ρ s₂.heap x v→P v s₂)→
   wpAny (mod C) A (pyNext itv) (fun r s₁=>match r with
    | none=>N s₁
    | some v=>wpAny (mod C) A (letOwnedTupleGo target itv v) (fun _ s₂=>P v s₂) E s₁) E s
 done:∀i ρ hp s,Hp C ρ hp s.heap→aW g hp→It i ρ s→items[i]?=none→∀(E:Value→Shared→Prop) (P:Shared→Prop),
  (∀s₂,fN S s s₂→P s₂)→wpAny (mod C) A (pyNext itv) (fun r s₁=>r=none∧P s₁) E s
 self:∀i ρ s,It i ρ s→∀(E:Value→Shared→Prop) (P:Value→Shared→Prop),P itv s→wpAny (mod C) A (pyIter itv) P E s
theorem mZ {h:Heap}{o:Obj}{a:Addr}(R:Rel C F ρ m s) (ha:s.heap.get? a=none) (e:h.get? a=some o) (h1:¬ g7 o) (h3:¬ IsD o) :
  a∉ρ∧a∉F.W++F.V∧C.base.get? a=none∧Shp h a:=by
 refine ⟨fun q=>?_,fun q=>?_,bT R.hp ha,o,e,h1,h3⟩
 ·obtain ⟨o',e'⟩:=R.hp.there q;exact aO ha e'
 ·obtain ⟨_,_,o',e',_⟩:=R.w a q;exact aO ha e'
theorem eN {T:String}{o:Obj}(hc:o.cls=.type T) (hT:T≠"tuple"):¬ g7 o:=fun h=>by
 unfold g7 at h
 rw [hc] at h
 have hs:∀d,ip (.type T) d=true→T="tuple":=fun d h=>by
  cases d with
  | seq=>exact eq_of_beq h
  | _=>exact ff h
 exact hT (hs _ h)
theorem cH {h:Heap}{a:Addr}{o:Obj}{T:String}(e:h.get? a=some o) (hc:o.cls=.type T) (hT:T≠"tuple") (hF:¬ IsD o):∀b∈[a],Shp h b:=by
 intro b hb
 have:b=a:=by exact List.mem_singleton.mp hb
 subst this
 exact ⟨o,e,eN hc hT,hF⟩
noncomputable def Cu (it l:Addr) (r:Nat):Nat→List Addr→Shared→Prop:=fun i ρ s=>s.heap.IsListIter it l i∧ρ[r]?=some l
theorem gM {a:Addr}{h':Heap}{t:Nat}(hs:Heap.SameBut a s.heap h'):fN [a] s { s with heap:=h',toks:=t }:=⟨fun b o hb e=>(hs.2 b (by exact fun q=>hb (List.mem_singleton.mpr q))).trans e,rfl,rfl⟩
theorem iV {a:Addr}{h':Heap}{t:Nat}(hs:Heap.ExtBut a s.heap h'):fN [a] s { s with heap:=h',toks:=t }:=⟨fun b o hb e=>hs b o (by exact fun q=>hb (List.mem_singleton.mpr q)) e,rfl,rfl⟩
noncomputable def bB (e:Expr):Bool:=(dW e).isSome||(qA e).isSome
theorem dY {target:Expr}(ht:bB target=true) {it:Addr}{v:Value}{o:Obj}{A:Around}{E:Value→Shared→Prop}{P:Unit→Shared→Prop}(e:s.heap.get? it=some o) {T:String}(hc:o.cls=.type T)
  (hT:(["enumerate","zip","dict_itemiterator","dict_reverseitemiterator","odict_iterator","itertools.zip_longest","itertools.pairwise"].contains T)=false) (h:P () s):wpAny (mod C) A (letOwnedTupleGo target (.ref it) v) P E s:=by
 unfold bB at ht
 rw [Bool.or_eq_true,Option.isSome_iff_exists,Option.isSome_iff_exists] at ht
 rcases ht with ⟨x,hx⟩ | ⟨xs,hx⟩
 ·obtain ⟨p,rfl⟩:=cg hx
  exact wpAny_pure h
 ·obtain ⟨k,p,rfl⟩:=iP hx
  unfold letOwnedTupleGo
  cases v with
  | ref a=>
   refine wpAny_bind (wpAny_load e ?_)
   rw [hc]
   cases o.data with
   | fields vs=>
    simp only [hT,Bool.false_and,Bool.false_eq_true,if_false]
    exact wpAny_pure h
   | _=>exact wpAny_pure h
  | _=>exact wpAny_pure h
theorem tQ (hn:A.handled=none) {target:Expr}(ht:bB target=true) {it l:Addr}{r:Nat}{xs:List MV}:n7 C A target (.ref it) xs (some (r,xs)) [it] (Cu it l r) where
 shape:=fun i ρ s h=>by obtain ⟨⟨o,e,hc,hd⟩,_⟩:=h;exact cH e hc (by decide) (fun ⟨_,_,q⟩=>by rw [hd] at q;cases q)
 keep:=fun i ρ ρ' s s' h hp hs k=>by
  obtain ⟨⟨o,e,r1,r2⟩,e2⟩:=h
  exact ⟨⟨o,k it (by exact List.mem_singleton.mpr rfl) o e,r1,r2⟩,gD hp e2⟩
 item:=fun i ρ hp s x R hg h hx E N P k=>by
  obtain ⟨hit,e2⟩:=h
  obtain ⟨items,c,gi,rl,z⟩:=R.objs _ _ _ hg e2
  obtain ⟨v,hv,rv⟩:=rl.get hx
  have sh:∀a∈[it],Shp s.heap a:=by obtain ⟨o,e,hc,hd⟩:=id hit;exact cH e hc (by decide) (fun ⟨_,_,q⟩=>by rw [hd] at q;cases q)
  refine wpAny_pyNext_list_item hit ⟨_,gi,rfl,_,rfl⟩ (by exact (List.getElem?_toArray ..).trans hv) fun h' hit' hs=>?_
  have sd:=gM (t:=s.toks) hs
  obtain ⟨o,eo,hc,hd⟩:=id hit'
  refine dY ht (s:={ s with heap:=h' }) eo hc (by decide) (k v _ sd ⟨hit',e2⟩ (rv.up (dC sh sd) (List.prefix_refl _)))
 done:=fun i ρ hp s R hg h hx E P k=>by
  obtain ⟨hit,e2⟩:=h
  obtain ⟨items,c,gi,rl,z⟩:=R.objs _ _ _ hg e2
  refine wpAny_pyNext_list_end hn hit ⟨_,gi,rfl,_,rfl⟩ (i:=i) ?_ fun h' he=>⟨rfl,k _ (iV (t:=s.toks) he)⟩
  rw [List.getElem?_eq_none_iff] at hx
  simp [rl.length,hx]
 self:=fun i ρ s h E P hp=>wpAny_pyIter_listiter h.1 hp
noncomputable def EN (C:Glo) (it t:Addr) (xs:List MV):Nat→List Addr→Shared→Prop:=
 fun i ρ s=>s.heap.IsTupleIter it t i∧∃items n,s.heap.get? t=some (mK items n)∧aG C ρ s.heap xs items
theorem wj (hn:A.handled=none) {target:Expr}(ht:bB target=true) {it t:Addr}{xs:List MV}:n7 C A target (.ref it) xs none [it] (EN C it t xs) where
 shape:=fun i ρ s h=>by obtain ⟨⟨o,e,hc,hd⟩,_⟩:=h;exact cH e hc (by decide) (fun ⟨_,_,q⟩=>by rw [hd] at q;cases q)
 keep:=fun i ρ ρ' s s' h hp hs k=>by
  obtain ⟨⟨o,e,r1,r2⟩,items,n,e2,rl⟩:=h
  exact ⟨⟨o,k it (by exact List.mem_singleton.mpr rfl) o e,r1,r2⟩,items,n,hs _ _ e2 gC,rl.up hs hp⟩
 item:=fun i ρ hp s x R hg h hx E N P k=>by
  obtain ⟨hit,items,n,e2,rl⟩:=h
  obtain ⟨v,hv,rv⟩:=rl.get hx
  have sh:∀a∈[it],Shp s.heap a:=by obtain ⟨o,e,hc,hd⟩:=id hit;exact cH e hc (by decide) (fun ⟨_,_,q⟩=>by rw [hd] at q;cases q)
  refine wpAny_pyNext_tuple_item hit ⟨_,e2,rfl,_,rfl⟩ (by exact (List.getElem?_toArray ..).trans hv) fun h' hit' hs=>?_
  have sd:=gM (t:=s.toks) hs
  have hsol:=dC sh sd
  obtain ⟨o,eo,hc,hd⟩:=id hit'
  refine dY ht (s:={ s with heap:=h' }) eo hc (by decide) (k v _ sd ⟨hit',items,n,hsol _ _ e2 gC,rl.up hsol (List.prefix_refl _)⟩ (rv.up hsol (List.prefix_refl _)))
 done:=fun i ρ hp s R hg h hx E P k=>by
  obtain ⟨hit,items,n,e2,rl⟩:=h
  refine wpAny_pyNext_tuple_end hn hit ⟨_,e2,rfl,_,rfl⟩ (i:=i) ?_ fun h' he=>⟨rfl,k _ (iV (t:=s.toks) he)⟩
  rw [List.getElem?_eq_none_iff] at hx
  simp [rl.length,hx]
 self:=fun i ρ s h E P hp=>wpAny_pyIter_tupleiter h.1 hp
noncomputable def y7 (it:Addr) (a:Int) (k:Nat):Nat→List Addr→Shared→Prop:=fun i ρ s=>IsRangeIter s.heap it (a+i) ((k:Int)-i) 1
theorem qH (hn:A.handled=none) {target:Expr}(ht:bB target=true) {it:Addr}{a:Int}{k:Nat}:n7 C A target (.ref it) ((List.range k).map (fun (i:Nat)=>.int (a+i))) none [it] (y7 it a k) where
 shape:=fun i ρ s h=>cH h rfl (by decide) (fun ⟨_,_,q⟩=>by cases q)
 keep:=fun i ρ ρ' s s' h hp hs k=>k it (by exact List.mem_singleton.mpr rfl) _ h
 item:=fun i ρ hp s x R hg hit hx E N P kk=>by
  simp only [List.getElem?_map,Option.map_eq_some_iff] at hx
  obtain ⟨j,hj,rfl⟩:=hx
  obtain ⟨hlt,hj⟩:=List.getElem?_eq_some_iff.mp hj
  simp at hj hlt;subst hj
  refine wpAny_pyNext_range_item hit (by lia) fun h' hit' hs=>?_
  have sd:=gM (t:=s.toks+1) hs
  have hit'':IsRangeIter h' it (a+((i+1:Nat):Int)) ((k:Int)-((i+1:Nat):Int)) 1:=by
   have e1:a+((i+1:Nat):Int)=a+i+1:=by lia
   have e2:(k:Int)-((i+1:Nat):Int)=k-i-1:=by lia
   rw [e1,e2];exact hit'
  exact dY ht (s:={ s with heap:=h',toks:=s.toks+1 }) hit' rfl (by decide) (kk _ _ sd hit'' (.int _ _))
 done:=fun i ρ hp s R hg hit hx E P kk=>by
  have hit:IsRangeIter s.heap it (a+i) ((k:Int)-i) 1:=hit
  rw [List.getElem?_eq_none_iff] at hx
  simp at hx
  exact wpAny_pyNext_range_end hn hit (by lia) fun h' he=>⟨rfl,kk _ (iV (t:=s.toks) he)⟩
 self:=fun i ρ s h E P hp=>wpAny_pyIter_rangeiter h hp
noncomputable def Cv (e it l:Addr) (r:Nat):Nat→List Addr→Shared→Prop:=
 fun i ρ s=>(∃old,IsEnum s.heap e it i old)∧s.heap.IsListIter it l i∧ρ[r]?=some l
theorem n8 {h':Heap}{e it l:Addr}{i:Nat}{j:Int}{old:Value}(h1:IsEnum h' e it j old) (h2:h'.IsListIter it l i):∀a∈[e,it],Shp h' a:=by
 intro a ha
 have:a=e∨a=it:=by simpa using ha
 rcases this with rfl | rfl
 ·exact cH h1 rfl (by decide) (fun ⟨_,_,q⟩=>by cases q) a (by exact List.mem_singleton.mpr rfl)
 ·obtain ⟨o,e1,e2,e3⟩:=h2
  exact cH e1 e2 (by decide) (fun ⟨_,_,q⟩=>by rw [e3] at q;cases q) a (by exact List.mem_singleton.mpr rfl)
theorem tR (hn:A.handled=none) {elts:List Expr} {x1}{pos:Pos}{e it l:Addr}{r:Nat}{xs:List MV}(hne:e≠it):n7 C A (.Tuple elts x1 pos) (.ref e) (xs.zipIdx.map (fun p=>.tup [.int p.2,p.1])) (some (r,xs)) [e,it] (Cv e it l r) where
 shape:=fun i ρ s h=>by obtain ⟨⟨old,h1⟩,h2,_⟩:=h;exact n8 h1 h2
 keep:=fun i ρ ρ' s s' h hp hs k=>by
  obtain ⟨⟨old,h1⟩,⟨o,e',r1,r2⟩,e2⟩:=h
  exact ⟨⟨old,k e (by exact List.mem_cons_self ..) _ h1⟩,⟨o,k it (by exact List.mem_cons_of_mem _ (List.mem_cons_self ..)) o e',r1,r2⟩,gD hp e2⟩
 item:=fun i ρ hp s x R hg h hx E N P kk=>by
  obtain ⟨⟨old,h1⟩,hit,e2⟩:=h
  have sh:=n8 h1 hit
  obtain ⟨items,c,gi,rl,z⟩:=R.objs _ _ _ hg e2
  simp only [List.getElem?_map,Option.map_eq_some_iff] at hx
  obtain ⟨⟨y,j⟩,hj,rfl⟩:=hx
  rw [List.getElem?_zipIdx] at hj
  simp only [Option.map_eq_some_iff,Nat.zero_add] at hj
  obtain ⟨y',hy,hj⟩:=hj
  cases hj
  obtain ⟨v,hv,rv⟩:=rl.get hy
  refine wpAny_pyNext_enum_item h1 hit ⟨_,gi,rfl,_,rfl⟩ (by exact (List.getElem?_toArray ..).trans hv) hne fun h' he hit' ht hsz hk=>?_
  refine wpAny_letOwnedTupleGo_enum (s:={ s with heap:=h',toks:=s.toks+1 }) he fun h2 he2 hs2=>?_
  have hlt:s.heap.objs.size≠e:=fun q=>absurd (Heap.lt_size h1) (by rw [←q];exact Nat.lt_irrefl _)
  have ht2:h2.get? s.heap.objs.size=some (mK [.int i s.toks,v] 0):=(hs2.2 _ hlt).trans ht
  have hit2:h2.IsListIter it l (i+1):=by
   obtain ⟨o,e1,r⟩:=hit'
   exact ⟨o,(hs2.2 it (fun q=>hne q.symm)).trans e1,r⟩
  have sd:fN [e,it] s { s with heap:=h2,toks:=s.toks+1 }:=⟨fun b o hb eb=>by
   simp at hb
   exact (hs2.2 b hb.1).trans (hk b o hb.1 hb.2 eb),rfl,rfl⟩
  refine kk _ _ sd ⟨⟨v,?_⟩,hit2,e2⟩ (.tup ht2 (.cons (.int _ _) (.cons (rv.up (dC sh sd) (List.prefix_refl _)) .nil)) (by unfold line;simp))
  have:(((i+1:Nat)):Int)=(i:Int)+1:=rfl
  rw [this];exact he2
 done:=fun i ρ hp s R hg h hx E P kk=>by
  obtain ⟨⟨old,h1⟩,hit,e2⟩:=h
  obtain ⟨items,c,gi,rl,z⟩:=R.objs _ _ _ hg e2
  rw [List.getElem?_eq_none_iff] at hx
  simp at hx
  refine wpAny_pyNext_enum_end hn h1 hit ⟨_,gi,rfl,_,rfl⟩ (by simp [rl.length,hx]) fun h' he=>⟨rfl,kk _ ⟨fun b o hb eb=>he b o (by simp at hb;exact hb.2) eb,rfl,rfl⟩⟩
 self:=fun i ρ s h E P hp=>by obtain ⟨⟨old,h1⟩,_⟩:=h;exact wpAny_pyIter_enum h1 hp
noncomputable def EO (it:Addr) (x:List Nat) (t:Tok):Nat→List Addr→Shared→Prop:=fun i ρ s=>s.heap.IsStrIter it "str_ascii_iterator" (str x) t i
theorem wl (hn:A.handled=none) {target:Expr}(ht:bB target=true) {it:Addr}{x:List Nat}{t:Tok}:n7 C A target (.ref it) (x.map (fun c=>.str [c])) none [it] (EO it x t) where
 shape:=fun i ρ s h=>by obtain ⟨o,e,hc,hd⟩:=h;exact cH e hc (by decide) (fun ⟨_,_,q⟩=>by rw [hd] at q;cases q)
 keep:=fun i ρ ρ' s s' h hp hs k=>by
  obtain ⟨o,e,r⟩:=h
  exact ⟨o,k it (by exact List.mem_singleton.mpr rfl) _ e,r⟩
 item:=fun i ρ hp s y R hg hit hx E N P kk=>by
  simp only [List.getElem?_map,Option.map_eq_some_iff] at hx
  obtain ⟨j,hj,rfl⟩:=hx
  refine wpAny_pyNext_ascii_item hit (c:=j) (by exact (List.getElem?_toArray ..).trans hj) fun h' hit' hs=>?_
  have sd:=gM (t:=s.toks+1) hs
  obtain ⟨o,eo,hc,hd⟩:=id hit'
  exact dY ht (s:={ s with heap:=h',toks:=s.toks+1 }) eo hc (by decide) (kk _ _ sd hit' (.str [j] _ (by unfold line;simp)))
 done:=fun i ρ hp s R hg hit hx E P kk=>by
  rw [List.getElem?_eq_none_iff] at hx
  simp at hx
  exact wpAny_pyNext_ascii_end hn hit (by simp [hx]) fun h' he=>⟨rfl,kk _ (iV (t:=s.toks) he)⟩
 self:=fun i ρ s h E P hp=>wpAny_pyIter_striter_ascii h hp
end
end Internal
end
section
namespace Internal
open PySem PyProof.Rows
noncomputable def SV (C:Glo) (X:XM) (n:Nat) (c:Cx) (F:Fm) (me:ME):Prop:=
 ∀(e:Expr),aP c me e=true→∀(Q:PQ) (m:MS),wpE (Call C) n me Q X m→WPv C F X (eval e F.env) Q m
section
variable {C:Glo}{F:Fm}{X:XM}{c:Cx}{n:Nat}{ρ ρ' ρ₀:List Addr}{m:MS}{s s' s₀:Shared}{A:Around}{E:Value→Shared→Prop}
theorem jW {t:List Nat}{many:Bool}{e:Expr}(h:n5 c t many e=true):bB e=true:=by
 unfold bB
 cases many with
 | false=>obtain ⟨x,hx,_⟩:=ae h;rw [hx];rfl
 | true=>obtain ⟨x,hx,_⟩:=ae h;rw [hx];exact Bool.or_true _
theorem gN {t:List Nat}{e:Expr}(h:n5 c t true e=true):∃elts k p,e=.Tuple elts k p∧dB c t elts=true:=by
 obtain ⟨elts,hx,h⟩:=ae h
 obtain ⟨k,p,e⟩:=iP hx
 exact ⟨elts,k,p,e,h⟩
theorem pk {t:List Nat}{e:Expr}(h:n5 c t false e=true):∃i x p,t=[i]∧e=.Name x p∧c.nm i=some x∧mY c x=true:=by
 obtain ⟨x,hx,h⟩:=ae h
 obtain ⟨i,hi,h⟩:=ae h
 obtain ⟨p,e⟩:=cg hx
 rw [Bool.and_eq_true,beq_iff_eq] at h
 exact ⟨i,x,p,cb hi,e,h.1,h.2⟩
inductive n9 (C:Glo) (F:Fm) (target:Expr) (ρ:List Addr) (s:Shared) (P:List MV→Option (Nat × List MV)→MS→Prop) (itv:Value) (s₂:Shared):Prop
 | mk (ρ₂:List Addr) (m₂:MS) (items:List MV) (g:Option (Nat × List MV)) (S:List Addr) (It:Nat→List Addr→Shared→Prop) (st:ax F.W ρ s ρ₂ s₂) (R:Rel C F ρ₂ m₂ s₂) (wk:n7 C F.A target itv items g S It) (h0:It 0 ρ₂ s₂) (as:cS C F ρ₂ s₂.heap S) (hS:∀a∈S,s.heap.get? a=none) (hl:items.length≤line) (hp:P items g m₂):n9 C F target ρ s P itv s₂
theorem cX {W:List Addr}(st:ax W ρ s ρ' s') {a:Addr}(h:s'.heap.get? a=none):s.heap.get? a=none:=by
 cases e:s.heap.get? a with
 | none=>rfl
 | some o=>obtain ⟨o',e'⟩:=st.alive a o e;exact aO h e'
theorem y8 {target:Expr}{P:List MV→Option (Nat × List MV)→MS→Prop}{o:Obj}{items:List MV}{g:Option (Nat × List MV)}{It:Nat→List Addr→Shared→Prop}{T:String}(cx:ay C c F n) (R:Rel C F ρ m s) (st₀:ax F.W ρ₀ s₀ ρ s)
  (hc:o.cls=.type T) (hT:T≠"tuple") (hF:¬ IsD o) (hf:o.isFreed=false) (wk:n7 C F.A target (.ref s.heap.objs.size) items g [s.heap.objs.size] It) (h0:∀s₂:Shared,s₂.heap=s.heap.push o→It 0 ρ s₂) (hl:items.length≤line) (hp:P items g m) {tk:Nat} :
  n9 C F target ρ₀ s₀ P (.ref s.heap.objs.size) { s with heap:=s.heap.push o,toks:=tk }:=by
 have hk:∀q ob,s.heap.get? q=some ob→(s.heap.push o).get? q=some ob:=fun q ob e=>Heap.get?_push_of_some _ e
 obtain ⟨R',st⟩:=R.grow (s':={ s with heap:=s.heap.push o,toks:=tk }) cx.fm hk rfl rfl
 have hnew:s.heap.get? s.heap.objs.size=none:=bo (Nat.le_refl _)
 refine ⟨ρ,m,items,g,_,It,st₀.trans st,R',wk,h0 _ rfl,?_,fun q hq=>?_,hl,hp⟩
 ·intro q hq
  have:q=s.heap.objs.size:=by exact List.mem_singleton.mp hq
  subst this
  exact mZ R hnew (Heap.get?_push_size _ hf) (eN hc hT) hF
 ·have:q=s.heap.objs.size:=by exact List.mem_singleton.mp hq
  subst this
  exact cX st₀ hnew
theorem wm (cx:ay C c F n) (hnh:c.nh=true) (R:Rel C F ρ m s) (st₀:ax F.W ρ₀ s₀ ρ s) {target:Expr}(ht:bB target=true) {a b:Int}{r:Addr}{t u v:Tok}(hr:IsRange s.heap r a b 1 t u v)
  (h1:-16777216≤a) (h2:a≤16777216) (h3:-16777216≤b) (h4:b≤16777216) (h5:(b-a).toNat≤line) {P:List MV→Option (Nat × List MV)→MS→Prop}(h:P ((List.range (b-a).toNat).map (fun (i:Nat)=>.int (a+i))) none m) :
  wpAny (mod C) A (pyIter (.ref r)) (n9 C F target ρ₀ s₀ P) E s:=by
 refine wpAny_pyIter_range hr (small_one (by lia) (by lia) (by lia) (by lia)) ?_
 refine y8 cx R st₀ (T:="range_iterator") rfl (by decide) (fun ⟨_,_,q⟩=>by cases q) rfl (qH (a:=a) (k:=(b-a).toNat) (cx.hn hnh) ht) (fun s₂ e=>?_) (by simpa using h5) h
 have e1:a+((0:Nat):Int)=a:=by lia
 have e2:(((b-a).toNat:Nat):Int)-((0:Nat):Int)=Builtin.Range.rangeSize a b 1:=by rw [rangeSize_one];split<;>lia
 show IsRangeIter _ _ _ _ _
 rw [e1,e2,e]
 exact Heap.get?_push_size _ rfl
theorem bb {e:ME}{es:List ME}{x:Expr}{xs:List Expr}(h:bp c (e::es) (x::xs)=true):(okX x=true∧aP c e x=true)∧bp c es xs=true:=by
 have h:(okX x&&aP c e x&&bp c es xs)=true:=h
 rwa [Bool.and_eq_true,Bool.and_eq_true] at h
theorem wn {src:List ME}{y:Expr}(h:bp c src [y]=true):∃a,src=[a]∧okX y=true∧aP c a y=true:=by
 cases src with
 | nil=>exact ff h
 | cons a r=>
  have h:=bb h
  cases r with
  | nil=>exact ⟨a,rfl,h.1⟩
  | cons=>cases h.2
theorem oa (G:GOk C) (cx:ay C c F n):∀{es:List ME},(∀a∈es,SV C X n c F a)→∀(xs:List Expr),bp c es xs=true→∀(Q:List MV→MS→Prop) (m:MS),gY (Call C) n es Q X m→∀pos,WPl C F X es.length (spliced (backTo pos (starEach xs F.env))) Q m
 | [],ih,xs,hc,Q,m,h,pos=>by
  cases xs with
  | nil=>intro s ρ R;exact wpAny_items_nil ⟨_,_,_,.refl _ _ _,R,.nil,rfl,h⟩
  | cons=>exact ff hc
 | e::es,ih,xs,hc,Q,m,h,pos=>by
  cases xs with
  | nil=>exact ff hc
  | cons x xs=>
   obtain ⟨⟨hx,he⟩,hes⟩:=bb hc
   intro s ρ R
   refine wpAny_items_cons ((ih e (by exact List.mem_cons_self ..) x he _ m h).go R (.refl _ _ _) fun ρ₁ s₁ m₁ x v st t1 R₁ rx h₁=>?_) (bv hx _ _)
   refine (oa G cx (fun a ha=>ih a (List.mem_cons_of_mem _ ha)) xs hes _ m₁ h₁ pos).go R₁ t1 fun ρ₂ s₂ m₂ ys vs st2 t2 R₂ rl el h₂=>?_
   exact ⟨_,_,_,t2,R₂,.cons (rx.step st2) rl,by simp [el],h₂⟩
theorem gO {es:List ME}{xs:List Expr}(h:bp c es xs=true) (hn:xs.isEmpty=false) (pos:Pos) (env:Env):backTo pos (starEach xs env)≠[]:=by
 cases xs with
 | nil=>exact tf hn
 | cons x xs=>
  cases es with
  | nil=>exact ff h
  | cons e es=>
   rw [bv (bb h).1.1]
   exact List.cons_ne_nil _ _
theorem m0 {hp:List MO}{r:Nat}{f:List MV→Its}{q:List MV × Option (Nat × List MV)}(h:(match hp[r]? with
  | some (.list xs)=>f xs
  | _=>none)=some q):∃xs,hp[r]?=some (.list xs)∧f xs=some q:=by
 cases e:hp[r]? with
 | none=>rw [e] at h;exact aB h
 | some o=>
  rw [e] at h
  cases o with
  | list xs=>exact ⟨xs,rfl,h⟩
  | _=>exact aB h
theorem m3 {α:Type}{b:Bool}{x y:α}(h:(match b with
  | true=>some x
  | false=>none)=some y):b=true∧x=y:=by
 cases b with
 | true=>exact ⟨rfl,Option.some.inj h⟩
 | false=>exact aB h
theorem wo (cx:ay C c F n) (hnh:c.nh=true) (R:Rel C F ρ m s) (st₀:ax F.W ρ₀ s₀ ρ s) {target:Expr}(ht:bB target=true) {x:MV}{v:Value}(rx:Rep C ρ s.heap x v) {items:List MV}{g:Option (Nat × List MV)}(hi:Bc m.heap x=some (items,g))
  {P:List MV→Option (Nat × List MV)→MS→Prop}(h:P items g m):wpAny (mod C) A (pyIter v) (n9 C F target ρ₀ s₀ P) E s:=by
 have noD:∀{o:Obj} {vs:Array Value},o.data=.fields vs→¬ IsD o:=fun e ⟨_,_,q⟩=>nomatch e.symm.trans q
 refine Classical.byContradiction fun hn=>?_
 cases x with
 | ref r=>
  obtain ⟨la,rfl,gr⟩:=rx.inv
  obtain ⟨xs,hj,e⟩:=m0 (r:=r) (f:=fun xs=>some (xs,some (r,xs))) hi
  cases e
  obtain ⟨items,n',gi,rl,z⟩:=R.hp.objs _ _ _ hj gr
  refine hn (wpAny_pyIter_list ⟨_,gi,rfl,_,rfl⟩ ?_)
  exact y8 cx R st₀ (T:="list_iterator") rfl (by decide) (noD rfl) rfl (tQ (cx.hn hnh) ht) (fun s₂ e=>⟨⟨_,by rw [e];exact Heap.get?_push_size _ rfl,rfl,rfl⟩,gr⟩) z h
 | tup xs=>
  obtain ⟨ta,k,its,rfl,gi,rl,z⟩:=rx.inv
  cases hi
  refine hn (wpAny_pyIter_tuple ⟨_,gi,rfl,_,rfl⟩ ?_)
  have hk:∀q ob,s.heap.get? q=some ob→(s.heap.push { cls:=.type "tuple_iterator",data:=.fields #[.ref ta,.int 0 0] }).get? q=some ob:=fun q o e=>Heap.get?_push_of_some _ e
  exact y8 cx R st₀ (T:="tuple_iterator") rfl (by decide) (noD rfl) rfl (wj (cx.hn hnh) ht) (fun s₂ e=>⟨⟨_,by rw [e];exact Heap.get?_push_size _ rfl,rfl,rfl⟩,_,_,by rw [e];exact hk _ _ gi,by rw [e];exact rl.up (fun a o e _=>hk a o e) (List.prefix_refl _)⟩) z h
 | str y=>
  obtain ⟨u,rfl,z⟩:=rx.inv
  obtain ⟨ha,e⟩:=m3 hi
  cases e
  refine hn (wpAny_pyIter_ascii (by rw [←ha];simp) ?_)
  exact y8 cx R st₀ (T:="str_ascii_iterator") rfl (by decide) (noD rfl) rfl (wl (cx.hn hnh) ht) (fun s₂ e=>⟨_,by rw [e];exact Heap.get?_push_size _ rfl,rfl,rfl⟩) (by rw [List.length_map];exact z) h
 | _=>exact aB hi
noncomputable def qI:IK→Value
 | .enum=>.type "enumerate"
 | _=>.type "range"
theorem wq {x:MV}{q:List MV × Option (Nat × List MV)}(h:BO x=some q):∃i,x=.int i:=by
 cases x with
 | int i=>exact ⟨i,rfl⟩
 | _=>exact aB h
theorem y9 (cx:ay C c F n) (hnh:c.nh=true) (R:Rel C F ρ m s) (st₀:ax F.W ρ₀ s₀ ρ s) {target:Expr}(ht:bB target=true) {x:MV}{v:Value}(rx:Rep C ρ s.heap x v) {items:List MV}{g:Option (Nat × List MV)}(hi:BO x=some (items,g))
  {P:List MV→Option (Nat × List MV)→MS→Prop}(h:P items g m):wpAny (mod C) A (call (.type "range") [v]) (fun xv s₁=>wpAny (mod C) A (pyIter xv) (n9 C F target ρ₀ s₀ P) E s₁) E s:=by
 obtain ⟨i,rfl⟩:=wq hi
 obtain ⟨t,rfl⟩:=rx.inv
 obtain ⟨hd,e⟩:=m3 hi
 cases e
 have hd:=of_decide_eq_true hd
 refine call_range_1 ?_
 have hk:∀q o,s.heap.get? q=some o→(s.heap.push { cls:=.type "range",data:=.fields #[.int 0 s.toks,.int i t,.int 1 (s.toks+1)] }).get? q=some o:=fun q o e=>Heap.get?_push_of_some _ e
 obtain ⟨R',st'⟩:=R.grow (s':={ s with heap:=s.heap.push { cls:=.type "range",data:=.fields #[.int 0 s.toks,.int i t,.int 1 (s.toks+1)] },toks:=s.toks+1+1 }) cx.fm hk rfl rfl
 refine wm cx hnh R' (st₀.trans st') ht (IsRange.new _ _ _ _ _ _ _) (by decide) (by decide) hd.1 hd.2 (by unfold line;lia) ?_
 simpa using h
theorem qJ {hp:List MO}{x:MV}{q:List MV × Option (Nat × List MV)}(h:qr hp x=some q):∃i,x=.ref i:=by
 cases x with
 | ref i=>exact ⟨i,rfl⟩
 | _=>exact aB h
theorem tS (cx:ay C c F n) (hnh:c.nh=true) (R:Rel C F ρ m s) (st₀:ax F.W ρ₀ s₀ ρ s) {elts:List Expr}{k':Nat}{p':Pos}{x:MV}{v:Value}(rx:Rep C ρ s.heap x v) {items:List MV}{g:Option (Nat × List MV)}(hi:qr m.heap x=some (items,g))
  {P:List MV→Option (Nat × List MV)→MS→Prop}(h:P items g m):wpAny (mod C) A (call (.type "enumerate") [v]) (fun xv s₁=>wpAny (mod C) A (pyIter xv) (n9 C F (.Tuple elts k' p') ρ₀ s₀ P) E s₁) E s:=by
 have hnew:s.heap.get? s.heap.objs.size=none:=bo (Nat.le_refl _)
 have hnew':s.heap.get? (s.heap.objs.size+1)=none:=bo (Nat.le_succ _)
 obtain ⟨r,rfl⟩:=qJ hi
 obtain ⟨la,rfl,gr⟩:=rx.inv
 obtain ⟨xs,hj,e⟩:=m0 (r:=r) (f:=fun xs=>some (xs.zipIdx.map (fun (p:MV × Nat)=>.tup [.int p.2,p.1]),some (r,xs))) hi
 cases e
 obtain ⟨items,n',gi,rl,z⟩:=R.hp.objs _ _ _ hj gr
 refine call_enumerate_1 gi fun h' he hit hsz hk=>?_
 obtain ⟨R',st'⟩:=R.grow (s':={ s with heap:=h' }) cx.fm hk rfl rfl
 refine wpAny_pyIter_enum he ?_
 have hne:s.heap.objs.size+1≠s.heap.objs.size:=Nat.succ_ne_self _
 have hmem:∀q∈[s.heap.objs.size+1,s.heap.objs.size],s.heap.get? q=none:=fun q hq=>by
  rcases List.mem_cons.mp hq with rfl | hq
  ·exact hnew'
  ·rw [List.mem_singleton.mp hq];exact hnew
 refine ⟨ρ,m,_,_,_,_,st₀.trans st',R',tR (e:=s.heap.objs.size+1) (it:=s.heap.objs.size) (cx.hn hnh) hne,⟨⟨_,he⟩,hit,gr⟩,fun q hq=>?_,fun q hq=>cX st₀ (hmem q hq),by rw [List.length_map,List.length_zipIdx];exact z,h⟩
 obtain ⟨o,e1,e2,e3⟩:=n8 he hit q hq
 exact mZ R (hmem q hq) e1 e2 e3
end
end Internal
end
section
namespace Internal
open PySem PyProof.Rows
section
variable {C:Glo}{F:Fm}{X:XM}{c:Cx}{n:Nat}{ρ ρ' ρ₀:List Addr}{m:MS}{s s' s₀:Shared}{A:Around}{E:Value→Shared→Prop}
theorem za (cx:ay C c F n) (hnh:c.nh=true) (R:Rel C F ρ m s) (st₀:ax F.W ρ₀ s₀ ρ s) {target:Expr}(ht:bB target=true) {x y:MV}{v w:Value}(rx:Rep C ρ s.heap x v) (ry:Rep C ρ s.heap y w) {items:List MV}{g:Option (Nat × List MV)}(hi:En x y=some (items,g))
  {P:List MV→Option (Nat × List MV)→MS→Prop}(h:P items g m):wpAny (mod C) A (call (.type "range") [v,w]) (fun xv s₁=>wpAny (mod C) A (pyIter xv) (n9 C F target ρ₀ s₀ P) E s₁) E s:=by
 exact aB hi
end
end Internal
end
section
namespace Internal
open PySem PyProof.Rows
section
variable {C:Glo}{F:Fm}{X:XM}{c:Cx}{n:Nat}{ρ ρ' ρ₀:List Addr}{m:MS}{s s' s₀:Shared}{A:Around}{E:Value→Shared→Prop}
theorem tT (cx:ay C c F n) (hnh:c.nh=true) (R:Rel C F ρ m s) (st₀:ax F.W ρ₀ s₀ ρ s) {k:IK}(hk:rZ k=false) {target:Expr}(ht:bB target=true) (hm:lF k=true→∃elts k p,target=.Tuple elts k p∧True) {xs:List MV}{vs:List Value}(rl:aG C ρ s.heap xs vs) {items:List MV}{g:Option (Nat × List MV)}
  (hi:d9 k xs m.heap=some (items,g)) {P:List MV→Option (Nat × List MV)→MS→Prop}(h:P items g m):wpAny (mod C) A (call (qI k) vs) (fun xv s₁=>wpAny (mod C) A (pyIter xv) (n9 C F target ρ₀ s₀ P) E s₁) E s:=by
 refine Classical.byContradiction fun hn=>?_
 rcases xs with _ | ⟨x,_ | ⟨y,_ | ⟨z,r⟩⟩⟩
 ·exact aB hi
 ·obtain ⟨v,rfl,rx⟩:=rl.one
  cases k with
  | val=>exact tf hk
  | range1=>exact hn (y9 cx hnh R st₀ ht rx hi h)
  | range2=>exact aB hi
  | enum=>obtain ⟨_,_,_,rfl,_⟩:=hm rfl;exact hn (tS cx hnh R st₀ rx hi h)
 ·obtain ⟨v,w,rfl,rx,ry⟩:=rl.two
  cases k with
  | range2=>exact hn (za cx hnh R st₀ ht rx ry hi h)
  | _=>exact aB hi
 ·exact aB hi
theorem Cw {k:IK}(hk:rZ k=false):(we k,qI k)∈ch:=by
 cases k with
 | val=>exact tf hk
 | range1=>exact br 8 rfl
 | range2=>exact br 8 rfl
 | enum=>exact br 9 rfl
theorem zb (k:IK):∃T,qI k=.type T:=by
 cases k<;>exact ⟨_,rfl⟩
set_option tactic.hygienic true in
theorem sa (G:GOk C) (cx:ay C c F n) (hnh:c.nh=true) {k:IK}{src:List ME}{e target:Expr}(hsrc:∀a∈src,SV C X n c F a) {xs:List Expr}(hxs:lE c k e=some xs) (hc:bp c src xs=true) (htt:bB target=true)
  (hm:lF k=true→∃elts k p,target=.Tuple elts k p∧True)
  {P:List MV→Option (Nat × List MV)→MS→Prop}(h:gY (Call C) n src (fun vs m=>u0 (d9 k vs m.heap) fun items g=>P items g m) X m) (R:Rel C F ρ m s) :
  wpAny (mod C) F.A (eval e F.env) (fun xv s₁=>wpAny (mod C) F.A (pyIter xv) (n9 C F target ρ s P) (Er C F X ρ s) s₁) (Er C F X ρ s) s:=by
 unfold lE at hxs
 cases hv:rZ k with
 | true=>
  have hk:k=.val:=by cases k<;>first | rfl | exact ff hv
  subst hk
  obtain rfl:=Option.some.inj hxs
  obtain ⟨a,rfl,hx,hc⟩:=wn hc
  refine (hsrc a (.head _) e hc _ m h).go R (.refl _ _ _) fun ρ₁ s₁ m₁ x v st t1 R₁ rx h₁=>?_
  obtain ⟨items,g,hi,hp⟩:=oW h₁
  exact wo cx hnh R₁ t1 htt rx hi hp
 | false=>
  rw [hv] at hxs
  obtain ⟨⟨x,ys,pos⟩,hx,hq⟩:=Option.bind_eq_some_iff.mp hxs
  obtain ⟨px,rfl⟩:=iq hx
  split at hq
  ·rename_i hg
   obtain rfl:=Option.some.inj hq
   simp only [Bool.and_eq_true,beq_iff_eq,Bool.not_eq_true'] at hg
   obtain ⟨⟨hg,rfl⟩,hne⟩:=hg
   refine PyProof.Rows.Call_Name rfl (cF cx R (Cw hv) (aN hg).1 (aN hg).2 ?_)
   refine eM (.inr (zb k)) (bV hc _ _) (gO hc hne _ _) ?_
   refine (oa G cx hsrc _ hc _ m h pos).go R (.refl _ _ _) fun ρ₁ s₁ m₁ xs vs st t1 R₁ rl el h₁=>?_
   obtain ⟨items,g,hi,hp⟩:=oW h₁
   exact tT cx hnh R₁ t1 hv htt hm rl hi hp
  ·exact aB hq
end
end Internal
end
section
set_option backward.match.sparseCases true
namespace Internal
open PySem PyProof.Rows
section
variable {C:Glo}{F:Fm}{X:XM}{c:Cx}{n:Nat}
theorem fh {Q:Bool→MS→Prop}{x:MV}{m:MS}(h:bF Q x m):∃b,x=.bool b∧Q b m:=by
 cases x with
 | bool b=>exact ⟨b,rfl,h⟩
 | _=>exact h.elim
theorem zc {K:KT}{i:Nat}{Q:PQ}{m:MS}(h:wpE K n (.var i) Q X m):∃v,m.get i=some v∧Q v m:=by
 have h:(match m.get i with | some v=>Q v m | none=>False):=h
 cases hv:m.get i with
 | some v=>rw [hv] at h;exact ⟨v,rfl,h⟩
 | none=>rw [hv] at h;exact h.elim
theorem svO (G:GOk C) (cx:ay C c F n):∀{o:Option ME},(∀a,o=some a→SV C X n c F a)→∀(x:Option Expr),Cq c o x=true→∀(Q:Option MV→MS→Prop) (m:MS),wpO (Call C) n o Q X m→∀(s:Shared) (ρ:List Addr),Rel C F ρ m s→
  ∀(s₀:Shared) (ρ₀:List Addr) (P:Value→Shared→Prop),ax F.W ρ₀ s₀ ρ s→(∀ρ₁ s₁ m₁ x v,ax F.W ρ s ρ₁ s₁→ax F.W ρ₀ s₀ ρ₁ s₁→Rel C F ρ₁ m₁ s₁→iQ C ρ₁ s₁.heap x v→Q x m₁→P v s₁)→
   wpAny (mod C) F.A (evalPart x F.env) P (Er C F X ρ₀ s₀) s
 | none,ih,x,hc,Q,m,h,s,ρ,R,s₀,ρ₀,P,st,k=>by
  cases x with
  | none=>rw [evalPart_none];exact wpAny_pure (k ρ s m none .none (.refl _ _ _) st R rfl h)
  | some=>exact ff hc
 | some e,ih,x,hc,Q,m,h,s,ρ,R,s₀,ρ₀,P,st,k=>by
  cases x with
  | some x=>
   rw [evalPart_some]
   exact (ih e rfl _ hc _ m h).go R st fun ρ₁ s₁ m₁ x v st1 t1 R₁ rx h₁=>k ρ₁ s₁ m₁ (some x) v st1 t1 R₁ rx h₁
  | none=>exact ff hc
theorem Bl (G:GOk C) (cx:ay C c F n):∀{es:List ME},(∀a∈es,SV C X n c F a)→∀(xs:List Expr),bp c es xs=true→∀(Q:PQ) (m:MS),rP (Call C) n es Q X m→∀pos,WPv C F X (boolOp pos .And (evalEach xs F.env)) Q m
 | [],ih,xs,hc,Q,m,h,pos=>h.elim
 | [e],ih,xs,hc,Q,m,h,pos=>by
  cases xs with
  | nil=>exact ff hc
  | cons x xs=>
   replace hc:=bb hc
   cases xs with
   | nil=>exact ih e (by simp) x hc.1.2 Q m h
   | cons=>cases hc.2
 | e::e'::es,ih,xs,hc,Q,m,h,pos=>by
  cases xs with
  | nil=>exact ff hc
  | cons x xs=>
   replace hc:=bb hc
   cases xs with
   | nil=>cases hc.2
   | cons x' xs=>
    intro s ρ R
    show wpAny (mod C) F.A (do let v ←eval x F.env;standAt pos;let t ←holding [v] (truthy v);match BoolOp.And,t with | .And,false | .Or,true=>pure v | _,_=>boolOp pos .And (evalEach (x'::xs) F.env)) _ _ s
    refine wpAny_bind ((ih e (by simp) x hc.1.2 _ m h).go R (.refl _ _ _) fun ρ₁ s₁ m₁ y v st t1 R₁ rx h₁=>?_)
    obtain ⟨b,rfl,h₁⟩:=fh h₁
    ·obtain rfl:=rx.inv
     refine wpAny_bind (wpAny_standAt (wpAny_bind (wpAny_holding (wpAny_truthy_bool ?_))))
     cases b with
     | true=>exact wpAny_mono (Bl G cx (fun a ha=>ih a (List.mem_cons_of_mem _ ha)) (x'::xs) hc.2 Q m₁ h₁ pos s₁ ρ₁ R₁) (Out.back t1) (Er.back t1)
     | false=>exact wpAny_pure (Out.back t1 _ _ (bx R₁ (.bool _) h₁))
theorem EP (G:GOk C) (cx:ay C c F n):∀{es:List ME},(∀a∈es,SV C X n c F a)→∀(xs:List Expr),bp c es xs=true→∀(Q:PQ) (m:MS),yD (Call C) n es Q X m→∀pos,WPv C F X (boolOp pos .Or (evalEach xs F.env)) Q m
 | [],ih,xs,hc,Q,m,h,pos=>h.elim
 | [e],ih,xs,hc,Q,m,h,pos=>by
  cases xs with
  | nil=>exact ff hc
  | cons x xs=>
   replace hc:=bb hc
   cases xs with
   | nil=>exact ih e (by simp) x hc.1.2 Q m h
   | cons=>cases hc.2
 | e::e'::es,ih,xs,hc,Q,m,h,pos=>by
  cases xs with
  | nil=>exact ff hc
  | cons x xs=>
   replace hc:=bb hc
   cases xs with
   | nil=>cases hc.2
   | cons x' xs=>
    intro s ρ R
    show wpAny (mod C) F.A (do let v ←eval x F.env;standAt pos;let t ←holding [v] (truthy v);match BoolOp.Or,t with | .And,false | .Or,true=>pure v | _,_=>boolOp pos .Or (evalEach (x'::xs) F.env)) _ _ s
    refine wpAny_bind ((ih e (by simp) x hc.1.2 _ m h).go R (.refl _ _ _) fun ρ₁ s₁ m₁ y v st t1 R₁ rx h₁=>?_)
    obtain ⟨b,rfl,h₁⟩:=fh h₁
    ·obtain rfl:=rx.inv
     refine wpAny_bind (wpAny_standAt (wpAny_bind (wpAny_holding (wpAny_truthy_bool ?_))))
     cases b with
     | false=>exact wpAny_mono (EP G cx (fun a ha=>ih a (List.mem_cons_of_mem _ ha)) (x'::xs) hc.2 Q m₁ h₁ pos s₁ ρ₁ R₁) (Out.back t1) (Er.back t1)
     | true=>exact wpAny_pure (Out.back t1 _ _ (bx R₁ (.bool _) h₁))
theorem Cy (G:GOk C) (cx:ay C c F n) {v:MV} :SV C X n c F (.cst v):=by
 intro e hc Q m h
 replace hc:=ae hc
 obtain ⟨k,hx,hc⟩:=hc
 obtain ⟨_,_,rfl⟩:=jA hx
 intro s ρ R;exact wi R cx.fm hc h
theorem Cz (G:GOk C) (cx:ay C c F n) {i:Nat} :SV C X n c F (.var i):=by
 intro e hc Q m h
 replace hc:=ae hc
 obtain ⟨x,hx,hc⟩:=hc
 obtain ⟨_,rfl⟩:=cg hx
 simp only [Bool.and_eq_true,beq_iff_eq,Bool.not_eq_true'] at hc
 obtain ⟨v,hv,h⟩:=zc h
 intro s ρ R;exact vr cx R hc.1 hv hc.2 h
theorem zd (G:GOk C) (cx:ay C c F n) {g:Nat}{v:MV} :SV C X n c F (.glob g v):=by
 intro e hc Q m h
 replace hc:=ae hc
 obtain ⟨x,hx,hc⟩:=hc
 obtain ⟨_,rfl⟩:=cg hx
 simp only [Bool.and_eq_true] at hc
 obtain ⟨h1,h2⟩:=hc
 unfold EL at h2
 replace h2:=ae h2
 obtain ⟨⟨y,w⟩,hg,h2⟩:=h2
 rw [Bool.and_eq_true] at h2
 obtain ⟨h3,h4⟩:=h2
 obtain ⟨a,ha,h4⟩:=ae h4
 cases eq_of_beq h3
 have e:v=w:=(pj (eq_of_beq h4)).trans (pj ha).symm
 subst e
 intro s ρ R;exact yT cx R hg (aN h1).1 (aN h1).2 h
theorem CA (G:GOk C) (cx:ay C c F n) {op:Op}{a:ME}{b:ME}(ia:SV C X n c F a) (ib:SV C X n c F b):SV C X n c F (.bin op a b):=by
 intro e hc Q m h
 replace hc:=ae hc
 obtain ⟨⟨l,o,r⟩,hx,hc⟩:=hc
 obtain ⟨p,rfl⟩:=yI hx
 simp only [Bool.and_eq_true,beq_iff_eq] at hc
 obtain ⟨⟨rfl,ha⟩,hb⟩:=hc
 intro s ρ R
 refine wpAny_BinOp ((ia l ha _ m h).go R (.refl _ _ _) fun ρ₁ s₁ m₁ x v st t1 R₁ rx h₁=>?_)
 refine (ib r hb _ m₁ h₁).go R₁ t1 fun ρ₂ s₂ m₂ y w st' t2 R₂ ry h₂=>?_
 exact wpAny_mono (BW R₂ cx.fm (rx.step st') ry h₂) (Out.back t2) fun _ _ x=>x
theorem CB (G:GOk C) (cx:ay C c F n) {a:ME}(ia:SV C X n c F a):SV C X n c F (.neg a):=by
 intro e hc Q m h
 replace hc:=ae hc
 obtain ⟨⟨o,x⟩,hx,hc⟩:=hc
 obtain ⟨p,rfl⟩:=nT hx
 simp only [Bool.and_eq_true,beq_iff_eq] at hc
 obtain ⟨rfl,hc⟩:=hc
 intro s ρ R
 refine wpAny_UnaryOp ((ia _ hc _ m h).go R (.refl _ _ _) fun ρ₁ s₁ m₁ x v st t1 R₁ rx h₁=>?_)
 obtain ⟨i,rfl,h₁⟩:=nL h₁
 obtain ⟨t,rfl⟩:=rx.inv
 exact PyProof.Rows.neg_int (Out.back t1 _ _ (bD R₁ cx.fm (.int _ _) h₁))
theorem CC (G:GOk C) (cx:ay C c F n) {a:ME}(ia:SV C X n c F a):SV C X n c F (.not a):=by
 intro e hc Q m h
 replace hc:=ae hc
 obtain ⟨⟨o,x⟩,hx,hc⟩:=hc
 obtain ⟨p,rfl⟩:=nT hx
 simp only [Bool.and_eq_true,beq_iff_eq] at hc
 obtain ⟨rfl,hc⟩:=hc
 intro s ρ R
 refine wpAny_UnaryOp ((ia _ hc _ m h).go R (.refl _ _ _) fun ρ₁ s₁ m₁ x v st t1 R₁ rx h₁=>?_)
 obtain ⟨b,rfl,h₁⟩:=fh h₁
 obtain rfl:=rx.inv
 exact not_value (wpAny_truthy_bool (Out.back t1 _ _ (bx R₁ (.bool _) h₁)))
theorem CD (G:GOk C) (cx:ay C c F n) {es:List ME}(ies:∀a∈es,SV C X n c F a):SV C X n c F (.and es):=by
 intro e hc Q m h
 replace hc:=ae hc
 obtain ⟨⟨o,xs⟩,hx,hc⟩:=hc
 obtain ⟨p,rfl⟩:=iM hx
 simp only [Bool.and_eq_true,beq_iff_eq] at hc
 obtain ⟨rfl,hc⟩:=hc
 exact Bl G cx ies _ hc Q m h _
theorem ER (G:GOk C) (cx:ay C c F n) {es:List ME}(ies:∀a∈es,SV C X n c F a):SV C X n c F (.or es):=by
 intro e hc Q m h
 replace hc:=ae hc
 obtain ⟨⟨o,xs⟩,hx,hc⟩:=hc
 obtain ⟨p,rfl⟩:=iM hx
 simp only [Bool.and_eq_true,beq_iff_eq] at hc
 obtain ⟨rfl,hc⟩:=hc
 exact EP G cx ies _ hc Q m h _
theorem oc (G:GOk C) (cx:ay C c F n) {op:Cmp}{x y:MV}{v w:Value}{ρ ρ₀:List Addr}{s s₀:Shared}{m:MS}{A:Around}(hA:A.units+1001<cLine) {E:Value→Shared→Prop}{P:Bool→MS→Prop}{Q:Value→Shared→Prop}(R:Rel C F ρ m s) (t:ax F.W ρ₀ s₀ ρ s) (rx:Rep C ρ s.heap x v) (ry:Rep C ρ s.heap y w) (h:jS op x y P m)
  (k:∀b ρ' m' s',ax F.W ρ s ρ' s'→ax F.W ρ₀ s₀ ρ' s'→Rel C F ρ' m' s'→P b m'→Q (.bool b) s'):wpAny (mod C) A (compareOp (g9 op) v w) Q E s:=
 wpAny_mono (B2 G R.hp rx ry hA h) (fun v s' hv=>by
  obtain ⟨b,rfl,m',st,R',hq⟩:=wg R cx.fm hv
  exact k b _ m' s' st (t.trans st) R' hq) fun _ _ x=>x
theorem m6 (G:GOk C) (cx:ay C c F n) {op:Cmp}{a b:ME}(ia:SV C X n c F a) (ib:SV C X n c F b) {l r:Expr}(ha:aP c a l=true) (hb:aP c b r=true) {P:Bool→MS→Prop}{m:MS}{s:Shared}{ρ:List Addr}(R:Rel C F ρ m s)
  (h:wpE (Call C) n a (fun x m=>wpE (Call C) n b (fun y m=>jS op x y P m) X m) X m) {Q:Value→Shared→Prop}(k:∀b ρ' m' s',ax F.W ρ s ρ' s'→Rel C F ρ' m' s'→P b m'→Q (.bool b) s') :
  wpAny (mod C) F.A (eval l F.env) (fun v s₁=>wpAny (mod C) F.A (eval r F.env) (fun w s₂=>wpAny (mod C) F.A (compareOp (g9 op) v w) Q (Er C F X ρ s) s₂) (Er C F X ρ s) s₁) (Er C F X ρ s) s:=by
 refine (ia l ha _ m h).go R (.refl _ _ _) fun ρ₁ s₁ m₁ x v st t1 R₁ rx h₁=>?_
 refine (ib r hb _ m₁ h₁).go R₁ t1 fun ρ₂ s₂ m₂ y w st' t2 R₂ ry h₂=>?_
 exact oc G cx cx.u R₂ t2 (rx.step st') ry h₂ fun b ρ' m' s' _ st R' hq=>k b ρ' m' s' st R' hq
theorem CE (G:GOk C) (cx:ay C c F n) {op:Cmp}{a:ME}{b:ME}(ia:SV C X n c F a) (ib:SV C X n c F b):SV C X n c F (.cmp op a b):=by
 intro e hc Q m h
 replace hc:=ae hc
 obtain ⟨⟨l,os,rs⟩,hxx,hc⟩:=hc
 replace hc:=ae hc
 obtain ⟨o,ho,hc⟩:=hc
 replace hc:=ae hc
 obtain ⟨r,hr,hc⟩:=hc
 cases cb ho
 cases cb hr
 obtain ⟨p,rfl⟩:=iO hxx
 simp only [Bool.and_eq_true,beq_iff_eq] at hc
 obtain ⟨⟨⟨rfl,hx⟩,ha⟩,hb⟩:=hc
 intro s ρ R
 exact wpAny_Compare1 (m6 G cx ia ib ha hb R h fun b ρ' m' s' st R' hq=>⟨_,_,_,st,R',.bool b,hq⟩) (gF hx _)
theorem ze {p:Bool}{ρ:List Addr}{h:Heap}{x:MV}{v:Value}(rx:Rep C ρ h x v):u3 p x=(if p then (v==Value.none) else !(v==Value.none)):=by
 cases p with
 | true=>exact Rep.casesOn (motive_1:=fun x v _=>u3 true x=(v==Value.none)) rx rfl (fun _=>rfl) (fun _ _=>rfl) (fun _ _ _=>rfl) (fun _ _ _=>rfl) (fun _=>rfl) (fun _ _ _=>rfl) (fun _ _ _ _=>rfl) (fun _ _ _=>rfl) (fun _ _ _=>rfl)
 | false=>exact Rep.casesOn (motive_1:=fun x v _=>u3 false x=!(v==Value.none)) rx rfl (fun _=>rfl) (fun _ _=>rfl) (fun _ _ _=>rfl) (fun _ _ _=>rfl) (fun _=>rfl) (fun _ _ _=>rfl) (fun _ _ _ _=>rfl) (fun _ _ _=>rfl) (fun _ _ _=>rfl)
theorem pn (G:GOk C) (cx:ay C c F n) {p:Bool}{a:ME}(ia:SV C X n c F a) {l:Expr}(ha:aP c a l=true) {P:Bool→MS→Prop}{m:MS}{s:Shared}{ρ:List Addr}(R:Rel C F ρ m s) (h:wpE (Call C) n a (fun x m=>P (u3 p x) m) X m) {Q:Value→Shared→Prop}
  (k:∀b ρ' m' s',ax F.W ρ s ρ' s'→Rel C F ρ' m' s'→P b m'→Q (.bool b) s') {j:Nat}{q:Pos} :
  wpAny (mod C) F.A (eval l F.env) (fun v s₁=>wpAny (mod C) F.A (eval (.Constant .none j q) F.env) (fun w s₂=>wpAny (mod C) F.A (compareOp (if p then .Is else .IsNot) v w) Q (Er C F X ρ s) s₂) (Er C F X ρ s) s₁) (Er C F X ρ s) s:=by
 refine (ia l ha _ m h).go R (.refl _ _ _) fun ρ₁ s₁ m₁ x v st t1 R₁ rx h₁=>wpAny_Constant_none ?_
 rw [ze rx] at h₁
 have h₂:=k _ ρ₁ m₁ s₁ t1 R₁ h₁
 cases p with
 | true=>exact is_none h₂
 | false=>exact isNot_none h₂
theorem CF (G:GOk C) (cx:ay C c F n) {p:Bool}{a:ME}(ia:SV C X n c F a):SV C X n c F (.isN p a):=by
 intro e hc Q m h
 replace hc:=ae hc
 obtain ⟨⟨l,os,rs⟩,hxx,hc⟩:=hc
 replace hc:=ae hc
 obtain ⟨o,ho,hc⟩:=hc
 replace hc:=ae hc
 obtain ⟨r,hr,hc⟩:=hc
 cases cb ho
 cases cb hr
 obtain ⟨p2,rfl⟩:=iO hxx
 simp only [Bool.and_eq_true,beq_iff_eq] at hc
 obtain ⟨⟨rfl,hn⟩,ha⟩:=hc
 obtain ⟨_,_,rfl⟩:=jA hn
 intro s ρ R
 exact wpAny_Compare1 (pn (P:=fun b m=>Q (.bool b) m) G cx ia ha R h fun b ρ' m' s' st R' hq=>⟨_,_,_,st,R',.bool b,hq⟩) rfl
theorem zf (G:GOk C) (cx:ay C c F n) {f:Nat}{args:List ME}(iargs:∀a∈args,SV C X n c F a):SV C X n c F (.call f args):=by
 intro e hc Q m h
 replace hc:=ae hc
 obtain ⟨⟨x,ys,pos⟩,hx,hc⟩:=hc
 obtain ⟨px,rfl⟩:=iq hx
 simp only [Bool.and_eq_true,beq_iff_eq,Bool.not_eq_true'] at hc
 obtain ⟨⟨⟨⟨hg,hf⟩,hne⟩,hnh⟩,ha⟩:=hc
 have hh:F.A.handled=none∨C.hf f=true:=by
  rcases Bool.or_eq_true_iff.mp hnh with q | q
  ·exact .inl (cx.hn q)
  ·exact .inr (cx.hf▸q)
 intro s ρ R
 refine PyProof.Rows.Call_Name rfl (yS cx R hf (aN hg).1 (aN hg).2 fun a hfa=>?_)
 have ha':=oa G cx iargs ys ha _ m h pos
 have hp:=bV ha pos F.env
 have hn:=gO ha hne pos F.env
 obtain ⟨⟨b,t⟩,trees,et⟩:=List.exists_cons_of_ne_nil hn
 rw [et] at ha' hp ⊢
 simp only [List.any_cons,Bool.or_eq_false_iff] at hp
 obtain ⟨rfl,hp⟩:=hp
 obtain ⟨o,fd,ho,hd⟩:=G.fns f a hfa
 refine Calls.callWith_function (o:=o) (fd:=fd) (Calls.evalArgs_plain (ha'.go R (.refl _ _ _) fun ρ₁ s₁ m₁ xs vs st t1 R₁ rl el h₁=>⟨⟨R₁.hp.base _ _ ho,hd⟩,?_⟩))
 refine wpAny_mono (h₁ F m₁ s₁ ρ₁ vs a cx.fm hh rfl R₁ rl cx.room cx.units hfa) (fun v s₂ hv=>?_) fun e s' x=>Er.back t1 e s' (Er.mono (fun k m' ⟨q1,q2⟩=>by rw [←q1] at q2;exact q2) e s' x)
 obtain ⟨ρ₂,m₂,x,st2,R₂,rx,e,hq⟩:=hv
 refine ⟨ρ₂,m₂,x,t1.trans st2,R₂,rx,?_⟩
 rw [←e] at hq;exact hq
theorem CG (G:GOk C) (cx:ay C c F n) {k:Me}{o:ME}{args:List ME}(io:SV C X n c F o) (iargs:∀a∈args,SV C X n c F a):SV C X n c F (.mth k o args):=by
 intro e hc Q m h
 replace hc:=ae hc
 obtain ⟨⟨⟨ov,name,apos⟩,ys,pos⟩,hx,hc⟩:=hc
 have ee:=o9 hx
 subst ee
 simp only [Bool.and_eq_true,beq_iff_eq,decide_eq_true_eq] at hc
 obtain ⟨⟨⟨⟨⟨hn,h0⟩,hl⟩,hz⟩,ho⟩,ha⟩:=hc
 intro s ρ R
 have hp:=bV ha pos F.env
 refine wpAny_Call_method_late (mL h0 _ _) ?_ (by simp [hl]) rfl ((io ov ho _ m h).go R (.refl _ _ _) fun ρ₁ s₁ m₁ x v st t1 R₁ rx h₁=>?_)
 ·rw [Bool.and_eq_true,Bool.and_eq_true]
  refine ⟨⟨?_,rfl⟩,?_⟩
  ·rw [List.all_eq_true];intro q hq
   rw [List.any_eq_false] at hp
   simpa using hp q hq
  ·simp;exact Nat.le_trans hz (nb rfl)
 ·obtain ⟨hm,h₁⟩:=iJ h₁
  refine Cm G cx.fm hn t1 R₁ rx hm hp ?_
  exact (oa G cx iargs ys ha _ m₁ h₁ pos).go R₁ t1 fun ρ₂ s₂ m₂ xs vs st2 t2 R₂ rl _ h₂=>⟨ρ₂,m₂,xs,st2,R₂,rl,h₂⟩
theorem CH (G:GOk C) (cx:ay C c F n) {o:ME}{i:ME}(io:SV C X n c F o) (ii:SV C X n c F i):SV C X n c F (.idx o i):=by
 intro e hc Q m h
 replace hc:=ae hc
 obtain ⟨⟨v,sl⟩,hxx,hc⟩:=hc
 obtain ⟨p,rfl⟩:=nU hxx
 simp only [Bool.and_eq_true] at hc
 obtain ⟨⟨hx,ho⟩,hi⟩:=hc
 intro s ρ R
 refine PyProof.Rows.Subscript_ ((io v ho _ m h).go R (.refl _ _ _) fun ρ₁ s₁ m₁ x v st t1 R₁ rx h₁=>?_)
 refine (ii sl hi _ m₁ h₁).go R₁ t1 fun ρ₂ s₂ m₂ y w st' t2 R₂ ry h₂=>?_
 exact wpAny_mono (B4 G R₂ cx.fm (rx.step st') ry hx h₂) (Out.back t2) fun _ _ x=>x
theorem ET (G:GOk C) (cx:ay C c F n) {o:ME}{lo:Option ME}{hi:Option ME}(io:SV C X n c F o) (ilo:∀a,lo=some a→SV C X n c F a) (ihi:∀a,hi=some a→SV C X n c F a):SV C X n c F (.sl o lo hi):=by
 intro e hc Q m h
 replace hc:=ae hc
 obtain ⟨⟨v,sl⟩,hxx,hc⟩:=hc
 replace hc:=ae hc
 obtain ⟨⟨l,u,stp⟩,hx,hc⟩:=hc
 obtain ⟨p1,rfl⟩:=tC hx
 obtain ⟨p2,rfl⟩:=nU hxx
 simp only [Bool.and_eq_true] at hc
 obtain ⟨⟨⟨hs,ho⟩,hlo⟩,hhi⟩:=hc
 cases stp with
 | some=>exact ff hs
 | none=>
 intro s ρ R
 refine PyProof.Rows.Subscript_ ((io v ho _ m h).go R (.refl _ _ _) fun ρ₁ s₁ m₁ x v st t1 R₁ rx h₁=>?_)
 refine wpAny_Slice ?_
 refine (svO G cx ilo l hlo _ m₁ h₁) s₁ ρ₁ R₁ _ _ _ t1 fun ρ₂ s₂ m₂ a va st2 t2 R₂ ra h₂=>?_
 refine (svO G cx ihi u hhi _ m₂ h₂) s₂ ρ₂ R₂ _ _ _ t2 fun ρ₃ s₃ m₃ b vb st3 t3 R₃ rb h₃=>?_
 rw [evalPart_none]
 refine wpAny_pure ?_
 have ra':iQ C ρ₃ s₃.heap a va:=by
  cases a with
  | none=>exact ra
  | some a=>exact ra.step st3
 exact wpAny_mono (EF R₃ cx.fm ((rx.step st2).step st3) ra' rb h₃) (Out.back t3) fun _ _ x=>x
theorem zg (G:GOk C) (cx:ay C c F n) {es:List ME}(ies:∀a∈es,SV C X n c F a):SV C X n c F (.list es):=by
 intro e hc Q m h
 replace hc:=ae hc
 obtain ⟨xs,hxx,hc⟩:=hc
 obtain ⟨p,rfl⟩:=vh hxx
 simp only [Bool.and_eq_true,decide_eq_true_eq] at hc
 intro s ρ R
 refine wpAny_List ((oa G cx ies xs hc.2 _ m h _).go R (.refl _ _ _) fun ρ₁ s₁ m₁ xs vs st t1 R₁ rl el h₁=>?_)
 have hz:xs.length≤line:=el▸Nat.le_trans hc.1 (by decide)
 exact ⟨by rw [rl.length];exact hz,Out.back t1 _ _ (nQ R₁ cx.fm rl hz h₁)⟩
theorem CI (G:GOk C) (cx:ay C c F n) {es:List ME}(ies:∀a∈es,SV C X n c F a):SV C X n c F (.tup es):=by
 intro e hc Q m h
 replace hc:=ae hc
 obtain ⟨xs,hxx,hc⟩:=hc
 obtain ⟨k,p,rfl⟩:=iP hxx
 simp only [Bool.and_eq_true,decide_eq_true_eq] at hc
 intro s ρ R
 refine wpAny_Tuple ((oa G cx ies xs hc.2 _ m h _).go R (.refl _ _ _) fun ρ₁ s₁ m₁ xs vs st t1 R₁ rl el h₁=>?_)
 have hz:xs.length≤line:=el▸Nat.le_trans hc.1 (by decide)
 exact ⟨by rw [rl.length];exact hz,Out.back t1 _ _ (nP R₁ cx.fm rl hz h₁)⟩
theorem wu (G:GOk C) (cx:ay C c F n)  :SV C X n c F (.dict0):=by
 intro e hc Q m h
 replace hc:=ae hc
 obtain ⟨⟨ks,vs⟩,hxx,hc⟩:=hc
 obtain ⟨p,rfl⟩:=vi hxx
 simp only [Bool.and_eq_true,List.isEmpty_iff] at hc
 obtain ⟨rfl,rfl⟩:=hc
 intro s ρ R
 refine wpAny_Dict_empty ?_
 have hk:∀a o,s.heap.get? a=some o→(s.heap.push { cls:=.type "dict",data:=.dict #[] }).get? a=some o:=fun a o e=>Heap.get?_push_of_some _ e
 obtain ⟨R',st⟩:=R.alloc (s':={ s with heap:=s.heap.push { cls:=.type "dict",data:=.dict #[] } }) cx.fm hk rfl rfl (o:=.dict []) (a:=s.heap.objs.size) (bo (Nat.le_refl _))
  ⟨[],Heap.DictOf.new _,.nil,Nat.zero_le _⟩
 exact ⟨_,_,_,st,R',.ref (i:=m.heap.length) (by rw [←R.hp.len,List.getElem?_append_right (Nat.le_refl _)];simp),h⟩
end
end Internal
end
section
namespace Internal
theorem ky:∀(a b:List Nat),slt a b=true↔a<b
 | [],[]=>⟨fun h=>ff h,fun h=>absurd h (List.lt_irrefl _)⟩
 | [],_::_=>⟨fun _=>List.nil_lt_cons ..,fun _=>rfl⟩
 | _::_,[]=>⟨fun h=>ff h,fun h=>absurd h (List.not_lt_nil _)⟩
 | a::x,b::y=>by
  rw [List.cons_lt_cons_iff]
  show (match decide (a<b),a==b with
   | true,_=>true
   | false,true=>slt x y
   | false,false=>false)=true↔_
  by_cases h:a<b
  ·rw [decide_eq_true h];exact ⟨fun _=>.inl h,fun _=>rfl⟩
  ·rw [decide_eq_false h]
   by_cases e:a=b
   ·subst e
    rw [beq_self_eq_true]
    exact ⟨fun q=>.inr ⟨rfl,(ky x y).mp q⟩,fun q=>q.elim (fun q=>absurd q h) fun q=>(ky x y).mpr q.2⟩
   ·rw [beq_false_of_ne e]
    exact ⟨fun q=>ff q,fun q=>q.elim (fun q=>absurd q h) fun q=>absurd q.1 e⟩
theorem lG {s x:List Nat}:∀{l:List (List Nat)},x∈qn s l↔x=s∨x∈l
 | []=>⟨fun h=>.inl (List.mem_singleton.mp h),fun h=>h.elim (fun h=>List.mem_singleton.mpr h) fun h=>aX h⟩
 | t::r=>by
  show x∈(match slt s t,s==t with
   | true,_=>s::t::r
   | false,true=>t::r
   | false,false=>t::qn s r)↔_
  cases h1:slt s t with
  | true=>simp
  | false=>
   cases h2:s==t with
   | true=>
    have:s=t:=by simpa using h2
    subst this
    simp
   | false=>
    simp only [List.mem_cons,lG (l:=r)]
    constructor
    ·rintro (h | h | h)
     ·exact .inr (.inl h)
     ·exact .inl h
     ·exact .inr (.inr h)
    ·rintro (h | h | h)
     ·exact .inr (.inl h)
     ·exact .inl h
     ·exact .inr (.inr h)
theorem aA {x:List Nat}:∀{l:List (List Nat)},x∈aC l↔x∈l
 | []=>Iff.rfl
 | s::r=>by show x∈qn s (aC r)↔_;rw [lG,aA,List.mem_cons]
theorem si {s:List Nat}:∀{l:List (List Nat)},l.Pairwise (· < ·)→(qn s l).Pairwise (· < ·)
 | [],_=>List.pairwise_singleton _ _
 | t::r,h=>by
  obtain ⟨h1,h2⟩:=List.pairwise_cons.mp h
  show (match slt s t,s==t with
   | true,_=>s::t::r
   | false,true=>t::r
   | false,false=>t::qn s r).Pairwise (· < ·)
  cases e1:slt s t with
  | true=>
   have hst:=(ky s t).mp e1
   exact List.pairwise_cons.mpr ⟨fun x hx=>by
    rcases List.mem_cons.mp hx with rfl | hx
    ·exact hst
    ·exact List.lt_trans hst (h1 x hx),h⟩
  | false=>
   cases e2:s==t with
   | true=>exact h
   | false=>
    have hne:s≠t:=by simpa using e2
    have hle:¬ s<t:=fun q=>by rw [(ky s t).mpr q] at e1;exact tf e1
    have hts:t<s:=by
     rcases Classical.em (t<s) with q | q
     ·exact q
     ·exact absurd (List.le_antisymm (List.not_lt.mp q) (List.not_lt.mp hle)) hne
    refine List.pairwise_cons.mpr ⟨fun x hx=>?_,si h2⟩
    rcases lG.mp hx with rfl | hx
    ·exact hts
    ·exact h1 x hx
theorem kz:∀(l:List (List Nat)),(aC l).Pairwise (· < ·)
 | []=>.nil
 | s::r=>si (kz r)
theorem Bm:∀{l m:List (List Nat)},l.Pairwise (· < ·)→m.Pairwise (· < ·)→(∀x,x∈l↔x∈m)→l=m
 | [],[],_,_,_=>rfl
 | [],b::m,_,_,h=>by have:=(h b).mpr (List.mem_cons_self ..);exact aX this
 | a::l,[],_,_,h=>by have:=(h a).mp (List.mem_cons_self ..);exact aX this
 | a::l,b::m,hl,hm,h=>by
  obtain ⟨l1,l2⟩:=List.pairwise_cons.mp hl
  obtain ⟨m1,m2⟩:=List.pairwise_cons.mp hm
  have hab:a=b:=by
   rcases List.mem_cons.mp ((h a).mp (List.mem_cons_self ..)) with q | q
   ·exact q
   ·rcases List.mem_cons.mp ((h b).mpr (List.mem_cons_self ..)) with q' | q'
    ·exact q'.symm
    ·exact absurd (List.lt_trans (m1 a q) (l1 b q')) (List.lt_irrefl _)
  subst hab
  congr 1
  refine Bm l2 m2 fun x=>⟨fun hx=>?_,fun hx=>?_⟩
  ·rcases List.mem_cons.mp ((h x).mp (List.mem_cons_of_mem _ hx)) with q | q
   ·subst q;exact absurd (l1 _ hx) (List.lt_irrefl _)
   ·exact q
  ·rcases List.mem_cons.mp ((h x).mpr (List.mem_cons_of_mem _ hx)) with q | q
   ·subst q;exact absurd (m1 _ hx) (List.lt_irrefl _)
   ·exact q
end Internal
end
section
set_option maxRecDepth 100000
namespace Internal
open PySem PyProof.Rows
noncomputable abbrev fO (es:Array (Int × Value)) (ep:Nat) (t:SetTable):Obj:={ cls:=.type "set",dict:=none,data:=.set es ep t,slots:=#[] }
noncomputable abbrev cc (w:World):Bool:=w.params.followText "set-order"
theorem tU (t:SetTable) (j:Nat):(t.put j).1.led=t.led∧(t.put j).1.plain=t.plain:=by cases t;exact ⟨rfl,rfl⟩
theorem bE (t:SetTable) (n:Nat):(t.standIn n).led=t.led∧(t.standIn n).plain=false:=by cases t;exact ⟨rfl,rfl⟩
theorem kj (t:SetTable) (n:Nat):(t.orStandIn n).led=t.led∧((t.orStandIn n).plain=true→t.plain=true):=by
 unfold SetTable.orStandIn
 split
 ·exact ⟨rfl,id⟩
 ·exact ⟨(bE t n).1,fun h=>by rw [(bE t n).2] at h;exact ff h⟩
set_option tactic.hygienic true in
theorem qK (t:SetTable) (es:Array (Int × Value)) (h:Int) (x:Value):(layNew t es h x).2.1.led=t.led:=by
 unfold layNew
 split
 ·rename_i slot wd _
  show ((t.put slot).1.orStandIn _).led=_
  rw [(kj _ _).1,(tU t slot).1]
 ·exact (bE t _).1
theorem od {t t':SetTable}{hs:Array Int}{w:Nat}{o:Array Nat}(h:t.relaid hs w=some (t',o)):t'.led=t.led∧t'.plain=t.plain:=by
 unfold SetTable.relaid SetTable.laid at h
 simp only [Option.bind_eq_bind,Option.bind_eq_some_iff,Option.pure_def,Option.some.injEq,Prod.mk.injEq] at h
 obtain ⟨_,_,rfl,_⟩:=h
 exact ⟨rfl,rfl⟩
set_option tactic.hygienic true in
theorem lH (t:SetTable) (es:Array (Int × Value)) (n:Nat):(relayAll t es n).2.1.led=t.led∧((relayAll t es n).2.1.plain=true→t.plain=true):=by
 unfold relayAll
 split
 ·rename_i t' order h
  obtain ⟨h1,h2⟩:=od h
  dsimp only
  split
  ·exact ⟨h1,fun h=>by rw [←h2];exact h⟩
  ·exact ⟨(bE t _).1,fun h=>by rw [show _=false from (bE t _).2] at h;exact ff h⟩
 ·exact ⟨(bE t _).1,fun h=>by rw [show _=false from (bE t _).2] at h;exact ff h⟩
noncomputable def ir (prog:Program) (w:World) (h:Heap) (a:Addr) (ks:List Str):Prop:=
 ∃es ep t,h.get? a=some (fO es ep t)∧t.fits es.size=true∧t.led=!cc w∧(es.size=0∨t.plain=false)∧ElemsOf (PySem.strKind prog w) es.toList∧(es.toList.map (fun e=>strOf e.2)).Perm ks∧ks.Nodup
noncomputable def iW (ks:List Str) (k:Str):List Str:=if k∈ks then ks else ks++[k]
theorem wv (ks:List Str) (k:Str):(iW ks k).length≤ks.length+1:=by unfold iW;split<;>simp
section
variable {prog:Program}{w:World}{A:Around}{E:Value→Shared→Prop}{s:Shared}{a:Addr}
theorem po {l:List (Int × Value)}(h:ElemsOf (PySem.strKind prog w) l):∀e∈l,∃k t,e.2=.str k t:=fun e he=>by
 obtain ⟨⟨k,hk,_⟩,_⟩:=h e he
 obtain ⟨t,ht⟩:=Value.isStrOf_shape hk
 exact ⟨k,t,ht⟩
theorem pq {l:List (Int × Value)}(h:ElemsOf (PySem.strKind prog w) l) (k:Str):(∃e∈l,(PySem.strKind prog w).is k e.2=true)↔k∈l.map (fun e=>strOf e.2):=by
 constructor
 ·rintro ⟨e,he,hk⟩
  obtain ⟨t,ht⟩:=Value.isStrOf_shape hk
  exact List.mem_map.mpr ⟨e,he,by rw [ht];rfl⟩
 ·intro hk
  obtain ⟨e,he,hk⟩:=List.mem_map.mp hk
  obtain ⟨x,t,ht⟩:=po h e he
  refine ⟨e,he,?_⟩
  rw [ht] at hk ⊢
  subst hk
  exact strKind_is _ _ _ _
theorem sj {es:Array (Int × Value)}{ep:Nat}{t:SetTable}{es':Array (Int × Value)}{t':SetTable}(ho:s.heap.get? a=some (fO es ep t)) :
  (s.heap.update a (Obj.putSet es' t')).get? a=some (fO es' (ep+1) t'):=by
 have:=Heap.get?_update_self (Obj.putSet es' t') ho (by rw [putSet_of es' t' rfl];rfl)
 rw [putSet_of es' t' rfl] at this;exact this
theorem m7 {g:Bool→Sem Unit}(hg:∀(b:Bool) (s₁:Shared) (Q':Unit→Shared→Prop),Q' () s₁→wpAny (model prog w) A (g b) Q' E s₁)
  {es:Array (Int × Value)}{ep:Nat}{t:SetTable}(ho:s.heap.get? a=some (fO es ep t)) {es1:Array (Int × Value)}{t2:SetTable}{ks:List Str}(hel1:ElemsOf (PySem.strKind prog w) es1.toList) (hb1:es1.size<scanBound) (hf2:t2.fits es1.size=true)
  (hled:t2.led=!cc w) (hpl:t2.plain=false) (hp1:(es1.toList.map (fun e=>strOf e.2)).Perm ks) (hn:ks.Nodup) {wasDummy:Bool}{R:Option Bool→Shared→Prop}
  (h:∀h',Heap.SameBut a s.heap h'→ir prog w h' a ks→R (some true) { s with heap:=h' }) :
  wpAny (model prog w) A (do
    storeSet a es1 t2
    if (!wasDummy&&t2.tooFull)=true then do
      g (relayAll t2 es1 (SetTable.grown es1.size)).2.2
      storeSet a (relayAll t2 es1 (SetTable.grown es1.size)).1 (relayAll t2 es1 (SetTable.grown es1.size)).2.1
      pure (some true)
     else pure (some true)) R E s:=by
 refine wpAny_bind (wpAny_storeSet_of ho rfl ?_ (fits_of_scanBound hb1))
 have ho1:=sj (s:=s) (es':=es1) (t':=t2) ho
 have hsb1:=Heap.SameBut.update s.heap a (Obj.putSet es1 t2)
 split
 ·have hp:=relayAll_perm t2 es1 (SetTable.grown es1.size)
  have hfr:=relayAll_fits t2 es1 (SetTable.grown es1.size)
  have hmk:=lH t2 es1 (SetTable.grown es1.size)
  generalize relayAll t2 es1 (SetTable.grown es1.size)=Rl at hp hfr hmk ⊢
  obtain ⟨es2,t3,gave2⟩:=Rl
  dsimp only at hp hfr hmk ⊢
  have hsz:es2.size=es1.size:=by rw [←Array.length_toList,hp.length_eq,Array.length_toList]
  refine wpAny_bind (hg _ _ _ (wpAny_bind (wpAny_storeSet_of ho1 rfl ?_ (fits_of_scanBound (by rw [hsz];exact hb1)))))
  have ho2:=sj (s:={ s with heap:=s.heap.update a (Obj.putSet es1 t2) }) (es':=es2) (t':=t3) ho1
  refine wpAny_pure (h _ (hsb1.trans (Heap.SameBut.update _ a _)) ⟨es2,_,t3,ho2,hfr,hmk.1.trans hled,.inr ?_,hel1.perm hp,(hp.map _).trans hp1,hn⟩)
  cases q:t3.plain with
  | false=>rfl
  | true=>rw [hpl] at hmk;exact absurd (hmk.2 q) (by decide)
 ·exact wpAny_pure (h _ hsb1 ⟨es1,_,t2,ho1,hf2,hled,.inr hpl,hel1,hp1,hn⟩)
set_option tactic.hygienic true in
theorem EU {ks:List Str}{k:Str}{tk:Tok}{Q:Bool→Shared→Prop}(hS:ir prog w s.heap a ks) (hroom:ks.length+1<scanBound)
  (h:∀b h',Heap.SameBut a s.heap h'→ir prog w h' a (iW ks k)→Q b { s with heap:=h' }):wpAny (model prog w) A (setAddHashed a (.str k tk) ((PySem.strKind prog w).hash k)) Q E s:=by
 obtain ⟨es,ep,t,ho,hf,hled,hpl,hel,hp,hn⟩:=hS
 have hlen:es.size=ks.length:=by rw [←hp.length_eq,List.length_map,Array.length_toList]
 have hb:es.size<scanBound:=by rw [hlen];exact n1 hroom (by simp +arith only)
 have hkey:(PySem.strKind prog w).is k (.str k tk)=true:=strKind_is _ _ _ _
 unfold setAddHashed setAddHashedIn
 refine wpAny_holding (wpAny_bind (wpAny_setState_of ho rfl hf ?_))
 dsimp only
 rw [byScan_of (knd:=PySem.strKind prog w) (x:=.str k tk) rfl hb hel]
 simp only [↓reduceIte]
 unfold setAddByScan
 refine wpAny_bind (wpAny_bind (wpAny_rule (wpAny_bind (wpAny_setScan_of hkey ho rfl hf hel ?_))))
 cases hr:List.findIdx? (fun e=>(PySem.strKind prog w).is k e.2) es.toList with
 | some j=>
  dsimp only
  obtain ⟨hj,hpj,_⟩:=List.findIdx?_eq_some_iff_getElem.mp hr
  have hk:k∈ks:=hp.mem_iff.mp ((pq hel k).mp ⟨_,List.getElem_mem hj,hpj⟩)
  refine wpAny_pure (wpAny_pure ?_)
  have:=h false s.heap (Heap.SameBut.refl a s.heap) (by rw [iW,if_pos hk];exact ⟨es,ep,t,ho,hf,hled,hpl,hel,hp,hn⟩)
  cases s;exact this
 | none=>
  dsimp only
  have hk:k∉ks:=fun q=>by
   obtain ⟨e,he,hpe⟩:=(pq hel k).mpr (hp.mem_iff.mpr q)
   have:=List.findIdx?_eq_none_iff.mp hr e he
   rw [hpe] at this;cases this
  have hgw:∀(b:Bool) {s₁:Shared} {Q':Unit→Shared→Prop},Q' () s₁→wpAny (model prog w) A (match b with | true=>rule "set.scan.the-table-gave-way" | false=>pure ()) Q' E s₁:=
   fun b s₁ Q' hq=>by cases b<;>first | exact wpAny_pure hq | exact wpAny_rule hq
  have hperm:=layNew_perm t es ((PySem.strKind prog w).hash k) (.str k tk)
  have hfits:=layNew_fits t es ((PySem.strKind prog w).hash k) (.str k tk)
  have hll:=qK t es ((PySem.strKind prog w).hash k) (.str k tk)
  generalize layNew t es ((PySem.strKind prog w).hash k) (.str k tk)=L at hperm hfits hll ⊢
  obtain ⟨es1,t1,wasDummy,gave⟩:=L
  dsimp only at hperm hfits hll ⊢
  rw [Array.toList_push] at hperm
  have hel1:ElemsOf (PySem.strKind prog w) es1.toList:=(hel.push hkey rfl).perm hperm
  have hb1':es1.size<scanBound:=by rw [←Array.length_toList,hperm.length_eq,List.length_append,Array.length_toList,hlen];exact hroom
  have hp1:(es1.toList.map (fun e=>strOf e.2)).Perm (ks++[k]):=(hperm.map _).trans (by rw [List.map_append];exact hp.append_right _)
  have hn1:(ks++[k]).Nodup:=by
   rw [List.nodup_append]
   exact ⟨hn,by simp,fun x hx y hy=>by
    have:y=k:=by exact List.mem_singleton.mp hy
    subst this;intro q;subst q;exact hk hx⟩
  have hend:∀h',Heap.SameBut a s.heap h'→ir prog w h' a (ks++[k])→Q true { s with heap:=h' }:=fun h' hsb hS'=>h true h' hsb (by rw [iW,if_neg hk];exact hS')
  refine wpAny_bind (hgw _ ?_)
  split
  ·refine wpAny_bind ?_
   rw [hashByValue_scannable 8 rfl]
   refine wpAny_pure ?_
   refine m7 (t2:={ t1 with plain:=false }) ?_ ho hel1 hb1' (SetTable.fits_plain_off hfits) (hll.trans hled) rfl hp1 hn1 ?_
   ·intro b s₁ Q' hq;cases b<;>first | exact wpAny_pure hq | exact wpAny_rule hq
   ·intro h' hsb hS';dsimp only;exact wpAny_pure (hend h' hsb hS')
  ·rename_i hpf
   refine wpAny_bind (wpAny_pure ?_)
   simp only [↓reduceIte]
   refine m7 ?_ ho hel1 hb1' hfits (hll.trans hled) (by simpa using hpf) hp1 hn1 ?_
   ·intro b s₁ Q' hq;cases b<;>first | exact wpAny_pure hq | exact wpAny_rule hq
   ·intro h' hsb hS';dsimp only;exact wpAny_pure (hend h' hsb hS')
end
end Internal
end
section
set_option maxRecDepth 100000
namespace Internal
open PySem PyProof.Rows
noncomputable def bW (ss:List Str):List Str:=ss.foldl iW []
set_option tactic.hygienic true in
theorem ww {ks:List Str}{k x:Str}:x∈iW ks k↔x∈ks∨x=k:=by
 unfold iW
 split
 ·rename_i h
  exact ⟨.inl,fun q=>q.elim id fun e=>e▸h⟩
 ·simp
theorem m8 {x:Str}:∀{ss ks:List Str},x∈ss.foldl iW ks↔x∈ks∨x∈ss
 | [],ks=>by simp
 | s::r,ks=>by
  rw [List.foldl_cons,m8,ww,List.mem_cons,or_assoc]
theorem dD {x:Str}{ss:List Str}:x∈bW ss↔x∈ss:=by unfold bW;rw [m8];simp
theorem m9:∀(ss ks:List Str),(ss.foldl iW ks).length≤ks.length+ss.length
 | [],ks=>by simp
 | s::r,ks=>by
  rw [List.foldl_cons]
  have:=m9 r (iW ks s)
  have:=wv ks s
  simp only [List.length_cons];lia
section
variable {prog:Program}{w:World}{A:Around}{R:Result→Shared→Prop}{E:Value→Shared→Prop}{s:Shared}
theorem lI {h h':Heap}{S:Addr}{ks:List Str}(x:ir prog w h S ks) (k:∀o,h.get? S=some o→h'.get? S=some o):ir prog w h' S ks:=by
 obtain ⟨es,ep,t,ho,r⟩:=x
 exact ⟨es,ep,t,k _ ho,r⟩
theorem pt {I:Addr}{fp wr:List Addr}{G:Array GenState→Array GenState→Prop}{n:Nat}{P:Nat→Value→Prop}{St:Nat→Shared→Prop}(W:WalksS prog w A.in1 I fp wr G n P St) (S:Addr) (hSf:S∉fp)
  (ss:List Str) (hlen:ss.length=n) (hval:∀i v,P i v→∃x t,ss[i]?=some x∧v=.str x t) (hb:n+1<scanBound) :
  ∀(k i:Nat) (s:Shared),n-i=k→i≤n→St i s→ir prog w s.heap S (bW (ss.take i))→
   (∀s',Moved (S::wr) G s s'→ir prog w s'.heap S (bW ss)→R (.ok (.ret .none)) s')→
   codeAny (model prog w) A (.builtin "set.update.loop" ⟨[.ref S,.ref I],[]⟩) R s:=by
 have hSw:S∉wr:=fun h=>hSf (W.sub _ h)
 have hsub:∀b∈wr,b∈S::wr:=fun b hb=>List.mem_cons_of_mem _ hb
 intro k
 induction k with
 | zero=>
  intro i s hk hi hst hS hR
  have hin:i=n:=Nat.le_antisymm hi (Nat.le_of_sub_eq_zero hk)
  subst hin
  refine codeAny_builtin PyProof.Rows.F.entry_set_update_loop ?_
  rw [Around.under_plainId PyProof.Rows.F.plain_set_update_loop _]
  show wpAny _ A.in1 (pyNext (.ref I) >>= _) _ _ s
  refine wpAny_bind (W.done s _ _ hst fun s' hm=>?_)
  show wpAny _ A.in1 (ret Value.none) _ _ s'
  rw [List.take_of_length_le (n1 (Nat.le_of_eq hlen) (by simp +arith only))] at hS
  exact wpAny_pure (hR s' (hm.mono hsub) (lI hS fun o e=>hm.heap S _ hSw e))
 | succ k ih=>
  intro i s hk hi hst hS hR
  have hlt:i<n:=Nat.lt_of_sub_eq_succ hk
  refine codeAny_builtin PyProof.Rows.F.entry_set_update_loop ?_
  rw [Around.under_plainId PyProof.Rows.F.plain_set_update_loop _]
  show wpAny _ A.in1 (pyNext (.ref I) >>= _) _ _ s
  refine wpAny_bind (W.item i s _ _ hlt hst fun v s' hP hst' hm=>?_)
  obtain ⟨x,t,hx,rfl⟩:=hval i v hP
  have hS':=lI (h':=s'.heap) hS fun o e=>hm.heap S _ hSw e
  show wpAny _ A.in1 (holding [Value.str x t] (setAdd S (.str x t)) >>= _) _ _ s'
  refine wpAny_bind (wpAny_holding ?_)
  unfold setAdd
  refine wpAny_holding (wpAny_bind ((PySem.strKind prog w).pyHash (k:=x) (strKind_is _ _ _ _) ?_))
  have hroom:(bW (ss.take i)).length+1<scanBound:=by
   have:=m9 (ss.take i) []
   unfold bW
   rw [List.length_take] at this
   simp at this;lia
  refine EU (s:={ s' with toks:=s'.toks+1 }) hS' hroom fun b h' hsb hS2=>?_
  have e:iW (bW (ss.take i)) x=bW (ss.take (i+1)):=by
   obtain ⟨hl,hx⟩:=List.getElem?_eq_some_iff.mp hx
   unfold bW
   rw [List.take_succ_eq_append_getElem hl,List.foldl_append,hx];rfl
  rw [e] at hS2
  refine wpAny_pure ⟨plainId_quiet PyProof.Rows.F.plain_set_update_loop _,ih (i+1) _ (by rw [Nat.sub_succ,hk];rfl) hlt (W.frame _ s' _ _ hst' (Nat.le_succ _) fun b hb o e=>?_) hS2 fun s'' hm'' hS''=>?_⟩
  ·rw [hsb.2 b (fun h:b=S=>hSf (by rw [←h];exact hb))];exact e
  ·refine hR s'' (Moved.trans W.gtrans ((hm.mono hsub).then_heap (Nat.le_succ _) fun b o hb e=>?_) hm'') hS''
   rw [hsb.2 b (fun h:b=S=>hb (by rw [h];exact List.mem_cons_self))];exact e
theorem EV (a:Value) {Q₁:Value→Shared→Prop}
  (h:Q₁ (.ref s.heap.objs.size) { s with heap:=s.heap.push { cls:=.type "set",dict:=none,data:=.set #[] 0 (.fresh 0 0 (!cc w)) } }) :
  codeAny (model prog w) A (.call (.builtin "set.__new__") ⟨[.type "set",a],[]⟩) (wants Q₁ E) s:=by
 refine codeAny_of_tree ?_
 show wpAny _ A.in1 (do checkBuiltinCall "set.__new__" ⟨[.type "set",a],[]⟩;again (.builtin "set.__new__" ⟨[.type "set",a],[]⟩)) _ _ s
 refine wpAny_bind (wpAny_of_eq (PySem.F.newCall_set_1 a) (wpAny_pure ⟨plainId_quiet PySem.F.plain_set_new _,codeAny_builtin PySem.F.entry_set_new ?_⟩))
 rw [Around.under_plainId PySem.F.plain_set_new _]
 unfold Builtin.«set.__new__» Builtin.Frozenset.newClass
 have hsub:=sub_set_self
 obtain ⟨hp,g,d,tk,os⟩:=s
 dsimp only
 wp_walk
 refine wpAny_askSetting (wpAny_pure ?_)
 dsimp only
 simp only [newObj]
 refine wpAny_bind (wpAny_alloc (wpAny_pure ?_))
 exact wpAny_pure h
end
end Internal
end
section
namespace Internal
open PySem PyProof.Rows
section
variable {prog:Program}{w:World}{A:Around}{E:Value→Shared→Prop}{s:Shared}
theorem zh {vs:List Value}{ss:List Str}(r:StrsAre vs ss) (i:Nat) (v:Value) (h:vs[i]?=some v):∃x t,ss[i]?=some x∧v=.str x t:=by
 induction r generalizing i with
 | nil=>exact aB h
 | cons x t r ih=>
  cases i with
  | zero=>exact ⟨x,t,rfl,(Option.some.inj h).symm⟩
  | succ i=>exact ih i h
theorem lJ {vs:List Value}{ss:List Str}(r:StrsAre vs ss):ss.length=vs.length:=by
 induction r with
 | nil=>rfl
 | cons x t r ih=>exact congrArg (·+1) ih
theorem qL {l S:Addr}{items:Array Value}{ss:List Str}{Q:Fin→Shared→Prop}(hh:A.handled=none) (hl:s.heap.IsList l items) (hi:StrsAre items.toList ss) (hb:items.size+1<scanBound) (hSe:s.heap.get? S=some (fO #[] 0 (.fresh 0 0 (!cc w))))
  (h:∀h' tk,ir prog w h' S (bW ss)→(∀b o,b≠S→s.heap.get? b=some o→h'.get? b=some o)→Q (.done (.ret .none)) { s with heap:=h',toks:=tk }) :
  wpAny (model prog w) A.in1 (Builtin.«set.__init__» ⟨[.ref S,.ref l],[]⟩) Q E s:=by
 obtain ⟨ol,hol,hcl,nl,hdl⟩:=id hl
 obtain ⟨ocls,odict,odata,oslots⟩:=ol
 simp only at hcl hdl
 subst hcl;subst hdl
 have hsls:=PySem.F.sub_list_set
 have hslf:=PySem.F.sub_list_frozenset
 have hne:(Value.type "list"==Value.type "dict")=false:=by decide
 have hT:s.TypeIs (.ref S) "set":=⟨_,hSe,rfl⟩
 unfold Builtin.«set.__init__» noKeywords Builtin.Frozenset.updateFrom
 generalize hPI:pyIter=PI
 wp_walk
 subst hPI
 refine wpAny_pyIter_list hl ?_
 refine wpAny_bind (wpAny_runValue ?_)
 have hlS:l<s.heap.objs.size:=Heap.lt_size hol
 have hSS:S<s.heap.objs.size:=Heap.lt_size hSe
 have hlneS:l≠S:=fun q=>by
  rw [q,hSe] at hol
  have:=congrArg Obj.cls (Option.some.inj hol)
  simp at this
 have hh3:A.in1.in1.handled=none:=by simp [hh]
 have hSf:S∉[s.heap.objs.size,l]:=by
  simp only [List.mem_cons,List.not_mem_nil,or_false,not_or]
  exact ⟨Nat.ne_of_lt hSS,fun q=>hlneS q.symm⟩
 have hk:∀b o,s.heap.get? b=some o→(s.heap.push { cls:=.type "list_iterator",data:=.fields #[.ref l,.int 0 0] }).get? b=some o:=fun b o e=>Heap.get?_push_of_some _ e
 refine pt ((Walks.list hh3 _ l (Nat.ne_of_lt hlS) items).toS) S hSf ss (by rw [lJ hi,Array.length_toList]) (fun i v hv=>zh hi i v (by rw [Array.getElem?_toList];exact hv)) hb (items.size-0) 0 { s with heap:=s.heap.push { cls:=.type "list_iterator",data:=.fields #[.ref l,.int 0 0] } } (rfl) (Nat.zero_le _)
  ⟨⟨_,Heap.get?_push_size _ rfl,rfl,rfl⟩,hl.push _⟩ ?hS0 ?hR
 case hS0=>exact ⟨#[],0,_,hk _ _ hSe,rfl,rfl,.inl rfl,fun e he=>(by simp at he),List.Perm.refl _,List.nodup_nil⟩
 case hR=>
  intro s' hm hS'
  obtain ⟨h',g',d',tk',os'⟩:=s'
  have eg:g'=s.gens:=hm.gens
  have ed:d'=s.drawn:=hm.drawn
  have eo:os'=s.os:=hm.os
  subst eg;subst ed;subst eo
  show wpAny _ _ _ _ _ _
  refine wpAny_pure ?_
  show wpAny _ _ (ret Value.none) _ _ _
  refine wpAny_pure (h h' tk' hS' fun b o hb e=>hm.heap b o ?_ (hk b o e))
  simp only [List.mem_cons,List.not_mem_nil,or_false,not_or]
  exact ⟨hb,Nat.ne_of_lt (Heap.lt_size e)⟩
set_option maxRecDepth 100000 in
set_option maxHeartbeats 3200000 in
theorem qM {l:Addr}{items:Array Value}{ss:List Str}{Q:Value→Shared→Prop}(hh:A.handled=none) (hl:s.heap.IsList l items) (hi:StrsAre items.toList ss) (hb:items.size+1<scanBound)
  (h:∀h' tk,ir prog w h' s.heap.objs.size (bW ss)→(∀b o,s.heap.get? b=some o→h'.get? b=some o)→Q (.ref s.heap.objs.size) { s with heap:=h',toks:=tk }) :
  wpAny (model prog w) A (call (.type "set") [.ref l]) Q E s:=by
 obtain ⟨c,tl,hmro⟩:=PySem.F.called_set.mro
 have hmade:=PySem.F.called_set.made
 have hsub:=PySem.F.called_set.sub
 refine wpAny_call (codeAny_of_tree ?_)
 show wpAny _ _ (callAny (.type "set") _) _ _ _
 refine wpAny_pure ⟨Code.quiet_builtin _ (by decide +kernel),codeAny_builtin PySem.F.entry_type_call ?_⟩
 rw [Around.under_plain (weight_type_call_type "set" [.ref l] []) rfl]
 have h1:=PySem.F.called_set.notType
 have h2:=PySem.F.called_set.canCreate
 have hct:=PySem.F.typeCall_set_1 (.ref l)
 repeat (any_goals (first | assumption | wp_step))
 refine codeAny_mono (EV (w:=w) (.ref l) (E:=E) (Q₁:=fun obj s₁=>obj=.ref s.heap.objs.size∧s₁={ s with heap:=s.heap.push { cls:=.type "set",dict:=none,data:=.set #[] 0 (.fresh 0 0 (!cc w)) } }) ⟨rfl,rfl⟩) fun r s₁ hr=>?_
 cases r with
 | error e=>exact hr
 | ok fl=>
  cases fl with
  | ret obj=>
   obtain ⟨rfl,rfl⟩:=hr
   have hS:(s.heap.push { cls:=.type "set",dict:=none,data:=.set #[] 0 (.fresh 0 0 (!cc w)) }).get? s.heap.objs.size=some (fO #[] 0 (.fresh 0 0 (!cc w))):=Heap.get?_push_size _ rfl
   have hT:Shared.TypeIs { s with heap:=s.heap.push { cls:=.type "set",dict:=none,data:=.set #[] 0 (.fresh 0 0 (!cc w)) } } (.ref s.heap.objs.size) "set":=⟨_,hS,rfl⟩
   have hli:=PySem.F.called_set.init.lookup
   have hbi:=PySem.F.called_set.init.bind (.ref s.heap.objs.size)
   repeat (any_goals (first | assumption | wp_step))
   refine codeAny_mono (codeAny_call_builtin (R:=wants (fun r s₂=>r=.none∧∃h' tk,s₂={ s with heap:=h',toks:=tk }∧ir prog w h' s.heap.objs.size (bW ss)∧(∀b o,s.heap.get? b=some o→h'.get? b=some o)) E)
    PySem.F.called_set.init.plain PySem.F.entry_set_init (check_set_init_1 hT ?_)) fun r₂ s₂ hr₂=>?_
   ·refine qL (by simp [hh]) (hl.push _) hi hb hS fun h' tk hS' hk'=>⟨rfl,h',tk,rfl,hS',fun b o e=>hk' b o (Nat.ne_of_lt (Heap.lt_size e)) (Heap.get?_push_of_some _ e)⟩
   ·cases r₂ with
    | error e=>exact hr₂
    | ok fl₂=>
     cases fl₂ with
     | ret r=>
      obtain ⟨rfl,h',tk,rfl,hS',hk'⟩:=hr₂
      repeat (any_goals (first | assumption | wp_step))
      exact h _ _ hS' hk'
     | _=>exact hr₂.elim
  | _=>exact hr.elim
end
end Internal
end
section
set_option maxRecDepth 100000
namespace Internal
open PySem
theorem aI:Slot "set_iterator" "__next__" "set_iterator.__next__":=
 .of (owner:="set_iterator") (n:="__next__") (by rw [typeLookup_type,builtinLookup_eq_fast];kernel_rfl) (by decide +kernel) (by decide +kernel) (by decide +kernel)
  (by first | exact .inl (by decide +kernel) | exact .inr (by decide +kernel)) (by rw [isSubtype_type];kernel_rfl)
theorem dZ:Slot "set_iterator" "__iter__" "set_iterator.__iter__":=
 .of (owner:="set_iterator") (n:="__iter__") (by rw [typeLookup_type,builtinLookup_eq_fast];kernel_rfl) (by decide +kernel) (by decide +kernel) (by decide +kernel)
  (by first | exact .inl (by decide +kernel) | exact .inr (by decide +kernel)) (by rw [isSubtype_type];kernel_rfl)
theorem bJ:entryFor table "set_iterator.__next__"=some Builtin.«set_iterator.__next__»:=entryFor_of_tree (by kernel_rfl)
theorem iu:entryFor table "set_iterator.__iter__"=some Builtin.«dict_keyiterator.__iter__»:=
 entryFor_alias (id':="dict_keyiterator.__iter__") (by kernel_rfl) rfl (by decide +kernel) (by kernel_rfl)
theorem lK:entryFor table "set.__iter__"=some Builtin.«frozenset.__iter__»:=
 entryFor_alias (id':="frozenset.__iter__") (by kernel_rfl) rfl (by decide +kernel) (by kernel_rfl)
theorem hE:Manifest.owners.lookup (String.ofList ['r','o','t','a','r','e','t','i','_','t','e','s'].reverse)=some Manifest.sig_set_iterator:=by kernel_rfl
theorem bP (a:Value):argsOk "set_iterator.__next__" ⟨[a],[]⟩:=by
 unfold argsOk;rw [signature?_of (id:="set_iterator.__next__") (n:=['_','_','t','x','e','n','_','_']) (o:=['r','o','t','a','r','e','t','i','_','t','e','s']) (by kernel_rfl) hE];kernel_rfl
theorem iX (a:Value):argsOk "set_iterator.__iter__" ⟨[a],[]⟩:=by
 unfold argsOk;rw [signature?_of (id:="set_iterator.__iter__") (n:=['_','_','r','e','t','i','_','_']) (o:=['r','o','t','a','r','e','t','i','_','t','e','s']) (by kernel_rfl) hE];kernel_rfl
end Internal
end
section
set_option maxRecDepth 100000
namespace Internal
open PySem PyProof.Rows
noncomputable abbrev kl (first:Value) (i:Nat) (S:Addr) (n ep:Nat):Obj:={ cls:=.type "set_iterator",data:=.fields #[first,.int i 0,.ref S,.int n 0,.int ep 0] }
section
variable {prog:Program}{w:World}{A:Around}{E:Value→Shared→Prop}{s:Shared}{I S:Addr}{es:Array (Int × Value)}{ep:Nat}{t:SetTable}{i:Nat}{Q:Option Value→Shared→Prop}
theorem wx {slot slot':Nat}{x:Value}(hI:s.heap.get? I=some (kl (.int slot 0) i S es.size ep)) (hS:s.heap.get? S=some (fO es ep t)) (hf:t.fits es.size=true)
  (hnext:∀(A:Around) (Q:Option (Value × Nat)→Shared→Prop) (E:Value→Shared→Prop),Q (some (x,slot')) s→wpAny (model prog w) A (setNext S slot i ep) Q E s)
  (hQ:∀h',h'.get? I=some (kl (.int slot' 0) (i+1) S es.size ep)→Heap.SameBut I s.heap h'→Q (some x) { s with heap:=h' }):wpAny (model prog w) A (pyNext (.ref I)) Q E s:=by
 have hT:s.TypeIs (.ref I) "set_iterator":=⟨_,hI,rfl⟩
 unfold pyNext
 refine wpAny_bind (wpAny_attempt (wpAny_callSpecial?_slot (name:=Str.ofString "__next__") hT aI (wpAny_call_entry aI hT bJ ?_ (bP _))))
 unfold Builtin.«set_iterator.__next__»
 refine wpAny_bind (wpAny_pure ?_)
 refine wpAny_bind (wpAny_fieldsOf hI rfl ?_)
 dsimp only
 refine wpAny_bind (wpAny_setEntries_of hS rfl hf ?_)
 rw [if_neg (by simp)]
 refine wpAny_bind ?_
 simp only [Int.toNat_natCast]
 refine hnext _ _ _ ?_
 dsimp only
 refine wpAny_bind (wpAny_setField hI rfl (by simp) ?_)
 have hI1:(s.heap.update I (Obj.mapFields (·.setIfInBounds 0 (rawInt slot')))).get? I=some (kl (.int slot' 0) i S es.size ep):=Heap.get?_update_self _ hI rfl
 refine wpAny_bind (wpAny_setField (s:={ s with heap:=s.heap.update I (Obj.mapFields (·.setIfInBounds 0 (rawInt slot'))) }) hI1 rfl (by simp) (wpAny_pure ⟨x,rfl,wpAny_pure (hQ _ ?_ ((Heap.SameBut.update ..).trans (Heap.SameBut.update ..)))⟩))
 exact Heap.get?_update_self _ hI1 rfl
theorem wy {k:Nat}(hh:A.handled=none) {first:Value}(hI:s.heap.get? I=some (kl first i S es.size ep)) (hk:k<5) (hQ:∀h',Heap.ExtBut I s.heap h'→Q none { s with heap:=h' }) :
  wpAny (model prog w) A.in1 (do
   setField (.ref I) k Value.none
   let e ←newExc (Value.type "StopIteration") []
   raiseNew e:Sem PySem.Fin) (fun fin s'=>∃v,fin=Fin.done (Flow.ret v)∧wpAny (model prog w) A (pure (some v)) Q E s') (fun e s'=>
   wpAny (model prog w) A (do
     let b ←isInstance e (Value.type "StopIteration")
     if b=true then pure none else throw e) Q E s') s:=by
 refine wpAny_bind (wpAny_setField hI rfl (by simpa using hk) ?_)
 refine wpAny_bind ?_
 simp only [newExc,newTuple]
 refine wpAny_bind (wpAny_newObj_type ?_ (by size_fits))
 refine wpAny_bind (m:=firstArgMember _ _) (wpAny_of_eq (a:=Value.none) (by first | rfl | (simp only [firstArgMember];rfl)) ?_)
 refine wpAny_newObj_type ?_ (by size_fits)
 refine wpAny_raiseNew_none (show A.in1.handled=none from hh) ?_
 refine wpAny_bind (wpAny_isInstance (T:="StopIteration") (b:=true) ⟨_,Heap.get?_push_size _ rfl,rfl⟩ isSubtype_stop ?_)
 exact wpAny_pure (hQ _ (((Heap.SameBut.update ..).extBut.push _).push _))
theorem wz {slot:Nat}(hh:A.handled=none) (hI:s.heap.get? I=some (kl (.int slot 0) i S es.size ep)) (hS:s.heap.get? S=some (fO es ep t)) (hf:t.fits es.size=true)
  (hnext:∀(A:Around) (Q:Option (Value × Nat)→Shared→Prop) (E:Value→Shared→Prop),Q none s→wpAny (model prog w) A (setNext S slot i ep) Q E s)
  (hQ:∀h',Heap.ExtBut I s.heap h'→Q none { s with heap:=h' }):wpAny (model prog w) A (pyNext (.ref I)) Q E s:=by
 have hT:s.TypeIs (.ref I) "set_iterator":=⟨_,hI,rfl⟩
 unfold pyNext
 refine wpAny_bind (wpAny_attempt (wpAny_callSpecial?_slot (name:=Str.ofString "__next__") hT aI (wpAny_call_entry aI hT bJ ?_ (bP _))))
 unfold Builtin.«set_iterator.__next__»
 refine wpAny_bind (wpAny_pure ?_)
 refine wpAny_bind (wpAny_fieldsOf hI rfl ?_)
 dsimp only
 refine wpAny_bind (wpAny_setEntries_of hS rfl hf ?_)
 rw [if_neg (by simp)]
 refine wpAny_bind ?_
 simp only [Int.toNat_natCast]
 refine hnext _ _ _ ?_
 dsimp only
 exact wy hh hI (by decide) hQ
theorem qN {T:Addr}{places:List Value}{k:Nat}{h:Int}{x:Value}{n':Nat}(hI:s.heap.get? I=some (kl (.ref T) i S es.size ep)) (hS:s.heap.get? S=some (fO es ep t)) (hf:t.fits es.size=true)
  (hTT:s.heap.get? T=some { cls:=.type "tuple",dict:=none,data:=.seq places.toArray n',slots:=#[] }) (hp:places[i]?=some (.int k 0)) (hx:es[k]?=some (h,x))
  (hQ:∀h',h'.get? I=some (kl (.ref T) (i+1) S es.size ep)→Heap.SameBut I s.heap h'→Q (some x) { s with heap:=h' }):wpAny (model prog w) A (pyNext (.ref I)) Q E s:=by
 have hT:s.TypeIs (.ref I) "set_iterator":=⟨_,hI,rfl⟩
 unfold pyNext
 refine wpAny_bind (wpAny_attempt (wpAny_callSpecial?_slot (name:=Str.ofString "__next__") hT aI (wpAny_call_entry aI hT bJ ?_ (bP _))))
 unfold Builtin.«set_iterator.__next__»
 refine wpAny_bind (wpAny_pure ?_)
 refine wpAny_bind (wpAny_fieldsOf hI rfl ?_)
 dsimp only
 refine wpAny_bind (wpAny_setEntries_of hS rfl hf ?_)
 rw [if_neg (by simp)]
 refine wpAny_bind (wpAny_seqItems hTT rfl ?_)
 dsimp only
 have hp':places.toArray[(i:Int).toNat]?=some (.int k 0):=by simpa using hp
 rw [hp']
 dsimp only
 unfold setNextDrawn
 refine wpAny_bind (wpAny_bind (wpAny_setState_of hS rfl hf ?_))
 dsimp only
 rw [if_neg (by simp)]
 simp only [Int.toNat_natCast,hx]
 refine wpAny_pure ?_
 refine wpAny_bind (wpAny_setField hI rfl (by simp) (wpAny_pure ⟨x,rfl,wpAny_pure (hQ _ ?_ (Heap.SameBut.update ..))⟩))
 exact Heap.get?_update_self _ hI rfl
theorem qO {T:Addr}{places:List Value}{n':Nat}(hh:A.handled=none) (hI:s.heap.get? I=some (kl (.ref T) i S es.size ep)) (hS:s.heap.get? S=some (fO es ep t)) (hf:t.fits es.size=true)
  (hTT:s.heap.get? T=some { cls:=.type "tuple",dict:=none,data:=.seq places.toArray n',slots:=#[] }) (hp:places[i]?=none)
  (hQ:∀h',Heap.ExtBut I s.heap h'→Q none { s with heap:=h' }):wpAny (model prog w) A (pyNext (.ref I)) Q E s:=by
 have hT:s.TypeIs (.ref I) "set_iterator":=⟨_,hI,rfl⟩
 unfold pyNext
 refine wpAny_bind (wpAny_attempt (wpAny_callSpecial?_slot (name:=Str.ofString "__next__") hT aI (wpAny_call_entry aI hT bJ ?_ (bP _))))
 unfold Builtin.«set_iterator.__next__»
 refine wpAny_bind (wpAny_pure ?_)
 refine wpAny_bind (wpAny_fieldsOf hI rfl ?_)
 dsimp only
 refine wpAny_bind (wpAny_setEntries_of hS rfl hf ?_)
 rw [if_neg (by simp)]
 refine wpAny_bind (wpAny_seqItems hTT rfl ?_)
 dsimp only
 have hp':places.toArray[(i:Int).toNat]?=none:=by simpa using hp
 rw [hp']
 dsimp only
 refine wpAny_bind (wpAny_setField hI rfl (by simp) ?_)
 have hI1:(s.heap.update I (Obj.mapFields (·.setIfInBounds 0 (rawInt 0)))).get? I=some (kl (.int 0 0) i S es.size ep):=Heap.get?_update_self _ hI rfl
 exact wy (s:={ s with heap:=s.heap.update I (Obj.mapFields (·.setIfInBounds 0 (rawInt 0))) }) hh hI1 (by decide) fun h' he=>hQ h' fun b o hb e=>he b o hb (((Heap.SameBut.update ..).2 b hb).trans e)
end
end Internal
end
section
set_option maxRecDepth 100000
namespace Internal
open PySem PyProof.Rows
section
variable {prog:Program}{w:World}{A:Around}{E:Value→Shared→Prop}{s:Shared}
theorem zi {M:Model}{src:Source}{n:Nat}{Q:Nat→Shared→Prop}(hn:n≠0) (h:∀k d,k<n→Q k { s with drawn:=d }):wpAny M A (choose src n) Q E s:=fun _ _ _=>by
 show Sem.wp _ _ (.choose src n _) _ _ _ _
 rw [Sem.wp_choose]
 exact ⟨hn,h _ _ (Nat.mod_lt _ (Nat.pos_of_ne_zero hn))⟩
theorem iw {α:Type}:∀{xs:List α}{i:Nat}{x:α},xs[i]?=some x→(x::xs.eraseIdx i).Perm xs
 | [],_,_,h=>by simp at h
 | a::r,0,x,h=>by simp at h;subst h;simp
 | a::r,i+1,x,h=>by
  simp at h
  have:=iw h
  simp only [List.eraseIdx_cons_succ]
  exact (List.Perm.swap a x _).trans (this.cons a)
theorem lL {α:Type}{M:Model}:∀(n:Nat) (xs:List α) (s:Shared) {Q:List α→Shared→Prop},xs.length=n→(∀ys d,ys.Perm xs→Q ys { s with drawn:=d })→wpAny M A (drawOrder n xs) Q E s
 | 0,[],s,Q,_,h=>wpAny_pure (h [] s.drawn (.refl _))
 | 0,_::_,_,_,hl,_=>by cases hl
 | n+1,[],_,_,hl,_=>by cases hl
 | n+1,x::xs,s,Q,hl,h=>by
  refine wpAny_bind (zi (by simp) fun k d hk=>?_)
  have hy:=List.getElem?_eq_getElem hk
  simp only [hy]
  refine wpAny_bind (lL n _ _ ?_ fun ys d' hp=>wpAny_pure ?_)
  ·rw [List.length_eraseIdx_of_lt hk];simp at hl ⊢;exact hl
  ·exact h _ d' ((hp.cons _).trans (iw hy))
theorem sk {α:Type}(next:Nat→Nat):∀(fuel k:Nat) (left:List α) (out:Array α),left.length=fuel→(pickOrder.go next fuel k left out).toList.Perm (out.toList++left)
 | 0,k,[],out,_=>by rw [List.append_nil];exact .refl _
 | 0,k,_::_,out,h=>by cases h
 | n+1,k,left,out,h=>by
  show (match left[next k % left.length]? with
   | some x=>pickOrder.go next n (k+1) (left.eraseIdx (next k % left.length)) (out.push x)
   | none=>out).toList.Perm _
  have hlt:next k % left.length<left.length:=Nat.mod_lt _ (n1 (Nat.le_of_eq h.symm) (by simp +arith only))
  have hy:=List.getElem?_eq_getElem hlt
  rw [hy]
  refine (sk next n (k+1) _ _ (by rw [List.length_eraseIdx_of_lt hlt];lia)).trans ?_
  rw [Array.toList_push,List.append_assoc]
  exact (iw hy).append_left _
theorem nc {α:Type}(next:Nat→Nat) (xs:Array α):(pickOrder next xs).toList.Perm xs.toList:=by
 have:=sk next xs.size 0 xs.toList #[] (by exact rfl)
 simpa [pickOrder] using this
theorem wA {I S:Addr}{first:Value}{i n ep:Nat}{Q:Value→Shared→Prop}(hI:s.heap.get? I=some (kl first i S n ep)) (h:Q (.ref I) s):wpAny (model prog w) A (pyIter (.ref I)) Q E s:=by
 have hT:s.TypeIs (.ref I) "set_iterator":=⟨_,hI,rfl⟩
 refine wpAny_pyIter_slot hT dZ (wpAny_call_entry dZ hT iu ?_ (iX _))
 show wpAny _ _ (ret (.ref I)) _ _ s
 exact wpAny_pure ⟨_,rfl,"set_iterator",_,hT,aI.lookup,h⟩
theorem lM {I:Addr}{h':Heap}(hs:Heap.SameBut I s.heap h'):Moved [I] (fun a b=>b=a) s { s with heap:=h' }:=⟨fun b o hb e=>(hs.2 b (by exact fun q=>hb (List.mem_singleton.mpr q))).trans e,rfl,rfl,rfl,Nat.le_refl _⟩
theorem ng {I:Addr}{h':Heap}(hs:Heap.ExtBut I s.heap h'):Moved [I] (fun a b=>b=a) s { s with heap:=h' }:=⟨fun b o hb e=>hs b o (by exact fun q=>hb (List.mem_singleton.mpr q)) e,rfl,rfl,rfl,Nat.le_refl _⟩
theorem pu {I S:Addr}{es:Array (Int × Value)}{ep:Nat}{t:SetTable}{vs:List Value}{sl:Nat→Nat}(hh:A.handled=none) (hIS:I≠S) (hf:t.fits es.size=true) (hlen:vs.length=es.size)
  (hn:∀(s:Shared),s.heap.get? S=some (fO es ep t)→∀i v,vs[i]?=some v→∀(A:Around) (Q:Option (Value × Nat)→Shared→Prop) (E:Value→Shared→Prop),Q (some (v,sl (i+1))) s→wpAny (model prog w) A (setNext S (sl i) i ep) Q E s)
  (hd:∀(s:Shared),s.heap.get? S=some (fO es ep t)→∀(A:Around) (Q:Option (Value × Nat)→Shared→Prop) (E:Value→Shared→Prop),Q none s→wpAny (model prog w) A (setNext S (sl vs.length) vs.length ep) Q E s) :
  WalksS prog w A I [I,S] [I] (fun a b=>b=a) vs.length (fun i v=>vs[i]?=some v) (fun i s=>s.heap.get? I=some (kl (.int (sl i) 0) i S es.size ep)∧s.heap.get? S=some (fO es ep t)) where
 sub:=fun b hb=>by simp at hb;subst hb;simp
 grefl:=fun _=>rfl
 gtrans:=fun _ _ _ h1 h2=>h2.trans h1
 frame:=fun i s h' tk st _ hk=>⟨hk I (by exact List.mem_cons_self ..) _ st.1,hk S (by exact List.mem_cons_of_mem _ (List.mem_cons_self ..)) _ st.2⟩
 item:=fun i s Q E hi st hQ=>by
  have hv:=List.getElem?_eq_getElem hi
  exact wx st.1 st.2 hf (hn s st.2 i _ hv) fun h' hI' hs=>hQ _ _ hv ⟨hI',(hs.2 S (Ne.symm hIS)).trans st.2⟩ (lM hs)
 done:=fun s Q E st hQ=>wz hh st.1 st.2 hf (hd s st.2) fun h' he=>hQ _ (ng he)
 self:=fun i s Q E st hQ=>wA st.1 hQ
theorem qP {I S T:Addr}{es:Array (Int × Value)}{ep n':Nat}{t:SetTable}{vs:List Value}{ks:List Nat}(hh:A.handled=none) (hIS:I≠S) (hIT:I≠T) (hf:t.fits es.size=true) (hlen:ks.length=vs.length)
  (hn:∀(i:Nat) (v:Value),vs[i]?=some v→∃(k:Nat) (h:Int),ks[i]?=some k∧es[k]?=some (h,v)) :
  WalksS prog w A I [I,S,T] [I] (fun a b=>b=a) vs.length (fun i v=>vs[i]?=some v) (fun i s=>s.heap.get? I=some (kl (.ref T) i S es.size ep)∧s.heap.get? S=some (fO es ep t)∧
   s.heap.get? T=some { cls:=.type "tuple",dict:=none,data:=.seq (ks.map (fun (k:Nat)=>rawInt k)).toArray n',slots:=#[] }) where
 sub:=fun b hb=>by simp at hb;subst hb;simp
 grefl:=fun _=>rfl
 gtrans:=fun _ _ _ h1 h2=>h2.trans h1
 frame:=fun i s h' tk st _ hk=>⟨hk I (by exact List.mem_cons_self ..) _ st.1,hk S (by exact List.mem_cons_of_mem _ (List.mem_cons_self ..)) _ st.2.1,hk T (by simp) _ st.2.2⟩
 item:=fun i s Q E hi st hQ=>by
  have hv:=List.getElem?_eq_getElem hi
  obtain ⟨k,h,hk,hx⟩:=hn i _ hv
  exact qN (k:=k) st.1 st.2.1 hf st.2.2 (by rw [List.getElem?_map,hk];rfl) hx fun h' hI' hs=>hQ _ _ hv ⟨hI',(hs.2 S (Ne.symm hIS)).trans st.2.1,(hs.2 T (Ne.symm hIT)).trans st.2.2⟩ (lM hs)
 done:=fun s Q E st hQ=>qO hh st.1 st.2.1 hf st.2.2 (by rw [List.getElem?_map,List.getElem?_eq_none (n1 (Nat.le_of_eq hlen) (by simp +arith only))];rfl) fun h' he=>hQ _ (ng he)
 self:=fun i s Q E st hQ=>wA st.1 hQ
end
end Internal
end
section
set_option backward.match.sparseCases true
set_option maxRecDepth 100000
namespace Internal
open PySem PyProof.Rows
section
variable {prog:Program}{w:World}{A:Around}{E:Value→Shared→Prop}{s:Shared}
theorem ni {S:Addr}{es:Array (Int × Value)}{ep:Nat}{t:SetTable}(hb:cc w=true) (hS:s.heap.get? S=some (fO es ep t)) (hf:t.fits es.size=true) {slot i:Nat}{Q:Option (Value × Nat)→Shared→Prop}
  (h:Q (((pickOrder (w.params.setOrder S ep) es)[i]?).map fun e=>(e.2,slot)) s):wpAny (model prog w) A (setNext S slot i ep) Q E s:=by
 unfold setNext
 refine wpAny_bind (wpAny_setState_of hS rfl hf ?_)
 dsimp only
 unfold setsByText
 refine wpAny_bind (wpAny_bind (wpAny_askSetting (wpAny_pure ?_)))
 show wpAny _ _ (if cc w=true then _ else _) _ _ _
 rw [hb,if_pos rfl]
 rw [if_neg (by simp)]
 unfold setWalk
 refine wpAny_bind (wpAny_bind (wpAny_setState_of hS rfl hf ?_))
 dsimp only
 unfold setsByText
 refine wpAny_bind (wpAny_bind (wpAny_askSetting (wpAny_pure ?_)))
 show wpAny _ _ (if cc w=true then _ else _) _ _ _
 rw [hb,if_pos rfl]
 refine wpAny_bind (wpAny_askSetting (wpAny_pure (wpAny_pure ?_)))
 exact h
theorem pv {S:Addr}{es:Array (Int × Value)}{ep:Nat}{t:SetTable}(hb:cc w=false) (hS:s.heap.get? S=some (fO es ep t)) (hf:t.fits es.size=true) (hl:t.led=true) (h1:es.size≤1) {slot i:Nat}{Q:Option (Value × Nat)→Shared→Prop}
  (h:Q (match es[SetTable.below t.place slot]?,t.place[SetTable.below t.place slot]? with
   | some (_,x),some j=>some (x,j+1)
   | _,_=>none) s):wpAny (model prog w) A (setNext S slot i ep) Q E s:=by
 unfold setNext
 refine wpAny_bind (wpAny_setState_of hS rfl hf ?_)
 dsimp only
 unfold setsByText
 refine wpAny_bind (wpAny_bind (wpAny_askSetting (wpAny_pure ?_)))
 show wpAny _ _ (if cc w=true then _ else _) _ _ _
 rw [hb,if_neg (by decide)]
 show wpAny _ _ (if (!t.plain&&decide (es.size > 1))=true then _ else _) _ _ _
 rw [if_neg (by simp;intro _;exact h1)]
 refine wpAny_bind ?_
 show wpAny _ _ (if (!t.led&&!es.isEmpty)=true then _ else _) _ _ _
 rw [if_neg (by rw [hl];simp)]
 exact wpAny_pure (wpAny_pure h)
theorem nk (j slot:Nat):SetTable.below #[j] slot=if j<slot then 1 else 0:=by
 unfold SetTable.below
 unfold SetTable.below.go
 simp
 split
 ·unfold SetTable.below.go;rfl
 ·unfold SetTable.below.go;rfl
theorem zj {l:List (Int × Value)}(h:ElemsOf (PySem.strKind prog w) l):∀v∈l.map (·.2),∃x t,v=.str x t:=fun v hv=>by
 obtain ⟨e,he,rfl⟩:=List.mem_map.mp hv
 obtain ⟨k,t,e⟩:=po h e he
 exact ⟨k,t,e⟩
theorem CJ {S:Addr}{ks:List Str}{Q:Value→Shared→Prop}(hS:ir prog w s.heap S ks) (hz:ks.length<scanBound)
  (h:∀(I:Addr) (vs:List Value) (ss:List Str) (h':Heap) d,StrsAre vs ss→ss.Perm ks→(∀b o,s.heap.get? b=some o→h'.get? b=some o)→s.heap.get? I=none→
   (∀A:Around,A.handled=none→∃fp St,WalksS prog w A I fp [I] (fun a b=>b=a) vs.length (fun i v=>vs[i]?=some v) St∧St 0 { s with heap:=h',drawn:=d }∧(∀b∈fp,b=S∨s.heap.get? b=none)∧I∈fp)→
   Q (.ref I) { s with heap:=h',drawn:=d }):wpAny (model prog w) A (pyIter (.ref S)) Q E s:=by
 obtain ⟨es,ep,t,ho,hf,hled,hpl,hel,hp,hn⟩:=hS
 have hT:s.TypeIs (.ref S) "set":=⟨_,ho,rfl⟩
 have hlen:es.size=ks.length:=by rw [←hp.length_eq,List.length_map,Array.length_toList]
 have hS0:S<s.heap.objs.size:=Heap.lt_size ho
 have key:∀vs:List Value,vs.Perm (es.toList.map (·.2))→StrsAre vs (vs.map strOf)∧(vs.map strOf).Perm ks:=fun vs hv=>
  ⟨strsAre_map vs fun v hm=>zj hel v (hv.mem_iff.mp hm),(hv.map strOf).trans (by rw [List.map_map];exact hp)⟩
 refine wpAny_pyIter_slot hT PySem.F.slot_set_iter (wpAny_call_entry PySem.F.slot_set_iter hT lK ?_ (PySem.F.args_set_iter_1 _))
 unfold Builtin.«frozenset.__iter__» Builtin.Frozenset.slot0 slotArgs
 simp only [List.isEmpty_nil,Bool.not_true,Bool.false_eq_true,↓reduceIte,bind_assoc,List.length_nil,bne_self_eq_false]
 unfold Builtin.Frozenset.addrOf Builtin.Frozenset.sizeOf
 refine wpAny_bind (wpAny_pure ?_)
 try dsimp only
 refine wpAny_bind (wpAny_pure ?_)
 refine wpAny_bind (wpAny_bind (wpAny_setEntries_of ho rfl hf (wpAny_pure ?_)))
 unfold setDrawn
 refine wpAny_bind (wpAny_bind (wpAny_setState_of ho rfl hf ?_))
 dsimp only
 unfold setsByText
 refine wpAny_bind (wpAny_bind (wpAny_askSetting (wpAny_pure ?_)))
 refine wpAny_pure ?_
 show wpAny _ _ (if (!cc w&&(!t.plain&&decide (es.size > 1)))=true then _ else _) _ _ _
 have stay:∀(o:Obj) (h₁:Heap),(∀b ob,s.heap.get? b=some ob→h₁.get? b=some ob)→∀b ob,s.heap.get? b=some ob→(h₁.push o).get? b=some ob:=fun o h₁ k b ob e=>Heap.get?_push_of_some _ (k b ob e)
 have nosz:∀a,s.heap.objs.size≤a→s.heap.get? a=none:=fun a ha=>by
  cases e:s.heap.get? a with
  | none=>rfl
  | some o=>exact absurd (Heap.lt_size e) (Nat.not_lt.mpr ha)
 by_cases hd:(!cc w&&(!t.plain&&decide (es.size > 1)))=true
 ·rw [if_pos hd]
  refine wpAny_bind (lL es.size (List.range es.size) s (by simp) fun ps d hps=>?_)
  have hpl:ps.length=es.size:=by rw [hps.length_eq];simp
  refine wpAny_bind (wpAny_newTuple ?_ (by rw [List.length_map,hpl,hlen];exact fits_of_scanBound hz))
  have k1:∀b ob,s.heap.get? b=some ob→(s.heap.push { cls:=.type "tuple",data:=.seq (ps.map (fun (i:Nat)=>rawInt i)).toArray }).get? b=some ob:=fun b ob e=>Heap.get?_push_of_some _ e
  refine wpAny_bind (wpAny_setEpoch_of (s:={ s with heap:=s.heap.push { cls:=.type "tuple",data:=.seq (ps.map (fun (i:Nat)=>rawInt i)).toArray },drawn:=d }) (k1 _ _ ho) rfl hf ?_)
  refine wpAny_bind (wpAny_newObj_type ?_)
  have hsz:(s.heap.push { cls:=.type "tuple",data:=.seq (ps.map (fun (i:Nat)=>rawInt i)).toArray }).objs.size=s.heap.objs.size+1:=Heap.size_push ..
  have hps':∀k∈ps,k<es.size:=fun k hk=>by simpa using hps.mem_iff.mp hk
  have hvp:(ps.map (fun k=>(es.toList.map (·.2)).getD k .none)).Perm (es.toList.map (·.2)):=by
   have e1:(List.range es.size).map (fun k=>(es.toList.map (·.2)).getD k .none)=es.toList.map (·.2):=by
    apply List.ext_getElem?
    intro i
    rw [List.getElem?_map]
    by_cases hi:i<es.size
    ·rw [List.getElem?_range hi];simp [List.getD,hi]
    ·rw [List.getElem?_eq_none (by simpa using hi),List.getElem?_eq_none (by simpa using hi)];rfl
   have:=hps.map (fun k=>(es.toList.map (·.2)).getD k .none)
   rwa [e1] at this
  obtain ⟨kv1,kv2⟩:=key _ hvp
  have hI:∀(o:Obj),o.isFreed=false→((s.heap.push { cls:=.type "tuple",data:=.seq (ps.map (fun (i:Nat)=>rawInt i)).toArray }).push o).get? (s.heap.objs.size+1)=some o:=fun o hf=>by rw [←hsz];exact Heap.get?_push_size _ hf
  refine wpAny_pure ⟨_,rfl,"set_iterator",_,⟨_,Heap.get?_push_size _ rfl,rfl⟩,aI.lookup,?_⟩
  show Q (.ref (s.heap.push _).objs.size) _
  rw [hsz]
  refine h (s.heap.objs.size+1) _ _ _ d kv1 kv2 (stay _ _ k1) (by
   cases e:s.heap.get? (s.heap.objs.size+1) with
   | none=>rfl
   | some o=>exact absurd (Heap.lt_size e) (Nat.not_lt.mpr (Nat.le_succ _))) fun A hh=>⟨_,_,qP (I:=s.heap.objs.size+1) (S:=S) (T:=s.heap.objs.size) (es:=es) (ep:=ep) (t:=t) (n':=0) (ks:=ps) hh (Nat.ne_of_gt (Nat.lt_succ_of_lt hS0)) (Nat.succ_ne_self _) hf (by simp) fun i v hv=>?_,
    ⟨hI _ rfl,Heap.get?_push_of_some _ (k1 _ _ ho),Heap.get?_push_of_some _ (Heap.get?_push_size _ rfl)⟩,?_,by simp⟩
  ·rw [List.getElem?_map] at hv
   cases hk:ps[i]? with
   | none=>rw [hk] at hv;cases hv
   | some k=>
    rw [hk] at hv
    have hlt:=hps' k (List.mem_of_getElem? hk)
    have hv:(es.toList.map (·.2)).getD k .none=v:=Option.some.inj hv
    refine ⟨k,es[k].1,rfl,?_⟩
    rw [Array.getElem?_eq_getElem hlt]
    simp [List.getD,hlt] at hv
    rw [←hv]
  ·intro b hb
   simp at hb
   rcases hb with rfl | rfl | rfl
   ·exact .inr (nosz _ (Nat.le_succ _))
   ·exact .inl rfl
   ·exact .inr (nosz _ (Nat.le_refl _))
 ·rw [if_neg hd]
  refine wpAny_bind (wpAny_pure ?_)
  refine wpAny_bind (wpAny_setEpoch_of ho rfl hf ?_)
  refine wpAny_bind (wpAny_newObj_type ?_)
  refine wpAny_pure ⟨_,rfl,"set_iterator",_,⟨_,Heap.get?_push_size _ rfl,rfl⟩,aI.lookup,?_⟩
  have hI0:s.heap.get? s.heap.objs.size=none:=by
   cases e:s.heap.get? s.heap.objs.size with
   | none=>rfl
   | some o=>exact absurd (Heap.lt_size e) (Nat.lt_irrefl _)
  have hfp:∀b∈[s.heap.objs.size,S],b=S∨s.heap.get? b=none:=fun b hb=>by
   simp at hb
   rcases hb with rfl | rfl
   ·exact .inr hI0
   ·exact .inl rfl
  cases hb:cc w with
  | true=>
   have hvp:((pickOrder (w.params.setOrder S ep) es).toList.map (·.2)).Perm (es.toList.map (·.2)):=(nc _ es).map _
   obtain ⟨kv1,kv2⟩:=key _ hvp
   refine h s.heap.objs.size _ _ _ s.drawn kv1 kv2 (stay _ _ fun b ob e=>e) hI0 fun A hh=>⟨_,_,pu (I:=s.heap.objs.size) (S:=S) (es:=es) (ep:=ep) (t:=t) (sl:=fun _=>0) hh (Nat.ne_of_gt hS0) hf (by rw [List.length_map,(nc _ es).length_eq];simp) (fun s' hs' i v hv A Q E hq=>ni hb hs' hf ?_) (fun s' hs' A Q E hq=>ni hb hs' hf ?_),
    ⟨Heap.get?_push_size _ rfl,Heap.get?_push_of_some _ ho⟩,hfp,by simp⟩
   ·rw [List.getElem?_map,Array.getElem?_toList] at hv
    cases he:(pickOrder (w.params.setOrder S ep) es)[i]? with
    | none=>rw [he] at hv;cases hv
    | some e=>rw [he] at hv;cases hv;exact hq
   ·rw [List.length_map,Array.length_toList,Array.getElem?_eq_none (Nat.le_refl _)];exact hq
  | false=>
   have hl1:t.led=true:=by rw [hled,hb];rfl
   have hsz1:es.size≤1:=by
    rw [hb] at hd
    rcases hpl with q | q
    ·exact n1 (Nat.le_of_eq q) (by simp +arith only)
    ·rw [q] at hd;simp at hd;exact hd
   have hpsz:t.place.size=es.size:=by
    simp only [SetTable.fits,Bool.and_eq_true,beq_iff_eq] at hf;exact hf.1
   obtain ⟨kv1,kv2⟩:=key (es.toList.map (·.2)) (.refl _)
   refine h s.heap.objs.size _ _ _ s.drawn kv1 kv2 (stay _ _ fun b ob e=>e) hI0 fun A hh=>⟨_,_,pu (I:=s.heap.objs.size) (S:=S) (es:=es) (ep:=ep) (t:=t) (sl:=fun i=>if i=0 then 0 else t.place.getD 0 0+1) hh (Nat.ne_of_gt hS0) hf (by exact List.length_map ..) (fun s' hs' i v hv A Q E hq=>pv hb hs' hf hl1 hsz1 ?_) (fun s' hs' A Q E hq=>pv hb hs' hf hl1 hsz1 ?_),
    ⟨Heap.get?_push_size _ rfl,Heap.get?_push_of_some _ ho⟩,hfp,by simp⟩
   ·rw [List.getElem?_map,Array.getElem?_toList] at hv
    have hi:i=0:=by
     rcases Nat.lt_or_ge i es.size with q | q
     ·lia
     ·rw [Array.getElem?_eq_none q] at hv;exact aB hv
    subst hi
    have h1:es.size=1:=by
     rcases Nat.lt_or_ge 0 es.size with q | q
     ·lia
     ·rw [Array.getElem?_eq_none q] at hv;exact aB hv
    obtain ⟨j,hj⟩:∃j,t.place=#[j]:=Array.size_eq_one_iff.mp (by rw [hpsz,h1])
    rw [hj,nk]
    simp only [if_true,Nat.not_lt_zero,if_false]
    cases he:es[0]? with
    | none=>rw [he] at hv;cases hv
    | some e=>
     rw [he] at hv;cases hv
     have hj':t.place.getD 0 0=j:=by rw [hj];rfl
     simp only [Nat.add_eq_zero_iff,Nat.one_ne_zero,and_false,if_false,hj'] at hq
     exact hq
   ·have e0:∀k,es.size≤k→es[k]?=none:=fun k hk=>Array.getElem?_eq_none hk
    rcases Nat.eq_zero_or_pos es.size with q | q
    ·rw [e0 _ (n1 (Nat.le_of_eq q) (by simp +arith only))];exact hq
    ·have h1:es.size=1:=by lia
     obtain ⟨j,hj⟩:∃j,t.place=#[j]:=Array.size_eq_one_iff.mp (by rw [hpsz,h1])
     have hj':t.place.getD 0 0=j:=by rw [hj];rfl
     rw [hj,nk,hj.symm,hj']
     have hvl:(es.toList.map (fun x=>x.2)).length=1:=by (rw [List.length_map];exact h1)
     rw [hvl]
     simp only [Nat.one_ne_zero,if_false,Nat.lt_succ_self,if_true]
     rw [e0 _ (hsz1)];exact hq
end
end Internal
end
section
set_option maxRecDepth 100000
namespace Internal
open PySem PyProof.Rows
section
variable {prog:Program}{w:World}{A:Around}{E:Value→Shared→Prop}{s:Shared}
theorem CL {S:Addr}{es:Array (Int × Value)}{ep:Nat}{t:SetTable}{Q:Bool→Shared→Prop}(ho:s.heap.get? S=some (fO es ep t)) (h:Q false s):wpAny (model prog w) A (Builtin.List.listLengthHint (.ref S)) Q E s:=by
 have hT:s.TypeIs (.ref S) "set":=⟨_,ho,rfl⟩
 unfold Builtin.List.listLengthHint
 refine wpAny_bind (wpAny_specialOf hT PySem.F.slot_set_len.lookup ?_)
 (generalize hid:("set.__len__":String)=id0;(fail_if_success (clear hid id0));wp_delta;rw [show splitId id0=some ("set","__len__") from by subst hid;decide +kernel];subst hid)
 refine wpAny_bind (wpAny_isInstance (b:=true) hT (by rw [isSubtype_type];kernel_rfl) ?_)
 refine wpAny_bind (wpAny_typeOf hT ?_)
 exact wpAny_pure h
structure zm (s s':Shared):Prop where
 heap:∀b o,s.heap.get? b=some o→s'.heap.get? b=some o
 gens:s'.gens=s.gens
 os:s'.os=s.os
theorem tV {S:Addr}{ks:List Str}{Q:List Value→Shared→Prop}(hh:A.handled=none) (hS:ir prog w s.heap S ks) (hz:ks.length<scanBound)
  (h:∀vs ss s',StrsAre vs ss→ss.Perm ks→zm s s'→Q vs s'):wpAny (model prog w) A (collect (.ref S)) Q E s:=by
 obtain ⟨es,ep,t,ho,hrest⟩:=id hS
 unfold collect
 refine wpAny_bind (wpAny_runValue (codeAny_builtin PySem.F.entry_proto_collect ?_))
 rw [Around.under_plainId PySem.F.plain_proto_collect _]
 show wpAny _ A.in1 (newList [] >>= fun l=>again (.builtin "list.__iadd__" ⟨[l,.ref S],[]⟩)) _ _ s
 refine wpAny_bind (wpAny_newObj_type ?_)
 refine wpAny_pure ⟨plainId_quiet PySem.F.plain_list_iadd _,codeAny_builtin PySem.F.entry_list_iadd ?_⟩
 rw [Around.under_plainId PySem.F.plain_list_iadd _]
 show wpAny _ A.in1 (Builtin.List.listExtendWith (.ref s.heap.objs.size) (.ref S) (.ref s.heap.objs.size)) _ _ _
 unfold Builtin.List.listExtendWith
 have k1:∀b o,s.heap.get? b=some o→(s.heap.push { cls:=.type "list",data:=.seq ([]:List Value).toArray }).get? b=some o:=fun b o e=>Heap.get?_push_of_some _ e
 have hS1:ir prog w (s.heap.push { cls:=.type "list",data:=.seq ([]:List Value).toArray }) S ks:=lI hS fun o e=>k1 S o e
 have hL1:(s.heap.push { cls:=.type "list",data:=.seq ([]:List Value).toArray }).get? s.heap.objs.size=some { cls:=.type "list",data:=.seq ([]:List Value).toArray }:=Heap.get?_push_size _ rfl
 have hSne:S≠s.heap.objs.size:=Nat.ne_of_lt (Heap.lt_size ho)
 refine wpAny_bind (wpAny_typeOf (T:="set") ⟨_,k1 _ _ ho,rfl⟩ ?_)
 rw [if_neg (by simp [Builtin.List.listSameRef,Ne.symm hSne])]
 refine wpAny_bind (CJ (s:={ s with heap:=s.heap.push { cls:=.type "list",data:=.seq ([]:List Value).toArray } }) hS1 hz fun I vs ss h' d hst hperm hk hI0 hw=>?_)
 refine wpAny_bind (wpAny_holding (CL (es:=es) (ep:=ep) (t:=t) (hk _ _ (k1 _ _ ho)) ?_))
 rw [if_pos (by decide)]
 refine wpAny_bind (wpAny_rule ?_)
 have hL2:=hk _ _ hL1
 refine wpAny_bind ?_
 show wpAny _ A.in1 (updateSeq s.heap.objs.size (·.push .none) >>= fun _=>updateSeq s.heap.objs.size (·.pop)) _ _ _
 refine wpAny_bind (wpAny_updateSeq hL2 rfl ?_)
 have hL3:=Heap.get?_update_self (Obj.mapSeq (·.push Value.none)) hL2 rfl
 refine wpAny_updateSeq hL3 rfl ?_
 have hL4:=Heap.get?_update_self (Obj.mapSeq (·.pop)) hL3 rfl
 have oth:∀b o,b≠s.heap.objs.size→h'.get? b=some o→((h'.update s.heap.objs.size (Obj.mapSeq (·.push Value.none))).update s.heap.objs.size (Obj.mapSeq (·.pop))).get? b=some o:=
  fun b o hb e=>(Heap.get?_update_other _ _ (Ne.symm hb)).trans ((Heap.get?_update_other _ _ (Ne.symm hb)).trans e)
 obtain ⟨fp,St,W,st0,hfp,hIf⟩:=hw A.in1 hh
 have hLf:s.heap.objs.size∉fp:=fun q=>by
  rcases hfp _ q with e | e
  ·exact hSne e.symm
  ·rw [show (s.heap.push { cls:=.type "list",data:=.seq ([]:List Value).toArray }).get? s.heap.objs.size=_ from hL1] at e;exact im e
 have hvl:vs.length≤sizeLine:=by
  rw [←lJ hst,hperm.length_eq];exact fits_of_scanBound hz
 refine wpAny_pure ⟨plainId_quiet PySem.F.plain_extend_loop _,codeAny_extend_loopS W hvl _ hLf _ vs.length 0 _ _ _ rfl (Nat.zero_le _)
  (W.frame 0 { s with heap:=h',drawn:=d } ((h'.update s.heap.objs.size (Obj.mapSeq (·.push Value.none))).update s.heap.objs.size (Obj.mapSeq (·.pop))) s.toks st0 (Nat.le_refl _) fun b hb o e=>oth b o (fun q=>hLf (q▸hb)) e) hL4 (ItemsOf.nil _) fun s' acc' c' hm hS' hacc=>?_⟩
 show wpAny _ A (load s.heap.objs.size >>= _) _ _ s'
 refine wpAny_bind (wpAny_load hS' ?_)
 have hacc':acc'.toList=vs:=by
  apply List.ext_getElem?
  intro i
  rcases Nat.lt_or_ge i vs.length with q | q
  ·have hi:i<acc'.size:=by rw [hacc.1];exact q
   have:=hacc.2 i acc'[i] (Array.getElem?_eq_getElem hi)
   rw [this,Array.getElem?_toList,Array.getElem?_eq_getElem hi]
  ·rw [List.getElem?_eq_none q,List.getElem?_eq_none (by rw [Array.length_toList,hacc.1];exact q)]
 show wpAny _ A (pure acc'.toList) _ _ s'
 rw [hacc']
 refine wpAny_pure (h vs ss s' hst hperm ⟨fun b o e=>?_,hm.gens,hm.os⟩)
 have hb1:b≠s.heap.objs.size:=Nat.ne_of_lt (Heap.lt_size e)
 refine hm.heap b o ?_ (oth b o hb1 (hk b o (k1 b o e)))
 simp only [List.mem_cons,List.not_mem_nil,or_false,not_or]
 refine ⟨hb1,fun q=>?_⟩
 rw [q] at e
 rw [k1 _ _ e] at hI0;exact im hI0
theorem pz {h:Heap}{vs:List Value}{out:Array Value}{b:Addr}{o:Obj}(e:h.get? b=some o):(sortedHeap (h.push (seqObj "list" vs.toArray 0)) h.objs.size vs out).get? b=some o:=by
 have hlt:=Heap.lt_size e
 rw [sortedHeap_old (Nat.ne_of_lt hlt) (by rw [Heap.size_push];exact Nat.lt_succ_of_lt hlt)]
 exact Heap.get?_push_of_some _ e
theorem wB {S:Addr}{ks:List Str}{Q:Value→Shared→Prop}(hh:A.handled=none) (hz:ks.length<64)
  (hc:∀{A:Around}{E:Value→Shared→Prop}{Q:List Value→Shared→Prop},A.handled=none→(∀vs ss s',StrsAre vs ss→ss.Perm ks→zm s s'→Q vs s')→wpAny (model prog w) A (collect (.ref S)) Q E s)
  (h:∀a s' (out:Array Value) ss e,zm s s'→s.heap.get? a=none→s'.heap.get? a=some (seqObj "list" out e)→StrsAre out.toList ss→ss.Perm ks→sortedS ss=true→Q (.ref a) s') :
  wpAny (model prog w) A (call (.builtin "sorted") [.ref S]) Q E s:=by
 refine Calls.call_function_entry kind_sorted plain_sorted entry_sorted (args_sorted1 _) ?_
 unfold Builtin.«sorted»
 refine wpAny_bind (m:=checkCount "sorted" 1 1 _) (wpAny_pure ?_)
 refine wpAny_bind (hc hh fun vs ss s' hst hperm hsm=>?_)
 have hvl:vs.length<64:=by rw [←lJ hst,hperm.length_eq];exact hz
 refine wpAny_bind (wpAny_newList ?_ (by have:=sizeLine_eq;exact n2 (Nat.le_of_eq this.symm) hvl (by simp +arith only)))
 have hoL:(s'.heap.push (seqObj "list" vs.toArray 0)).get? s'.heap.objs.size=some (seqObj "list" vs.toArray 0):=Heap.get?_push_size _ rfl
 refine wpAny_bind (wpAny_holding (wpAny_call_entry (s:={ s' with heap:=s'.heap.push (seqObj "list" vs.toArray 0) }) slot_list_sort ⟨_,hoL,rfl⟩ entry_list_sort (list_sort_treeK strKind_oneLt hoL hst.keysOf (fun v₁ v₂ rest e=>keyKind_strs (by rw [←e];exact hst)) hvl fun st' a1 a2=>⟨_,rfl,?_⟩) (args_list_sort _)))
 obtain ⟨ss',h1,h2,h3⟩:=sorted_out_str hst a1 a2
 obtain ⟨e,he⟩:=sortedHeap_at (out:=(arrOf st').map (·.2)) hoL
 refine wpAny_pure ⟨_,rfl,h _ _ _ ss' e ⟨fun b o eb=>?_,hsm.gens,hsm.os⟩ ?_ he h1 (h2.trans hperm) h3⟩
 ·exact pz (hsm.heap b o eb)
 ·cases q:s.heap.get? s'.heap.objs.size with
  | none=>rfl
  | some o=>exact absurd (Heap.lt_size (hsm.heap _ o q)) (Nat.lt_irrefl _)
theorem wC {S:Addr}{ks:List Str}{Q:Value→Shared→Prop}(hh:A.handled=none) (hS:ir prog w s.heap S ks) (hz:ks.length<64)
  (h:∀a s' (out:Array Value) ss e,zm s s'→s.heap.get? a=none→s'.heap.get? a=some (seqObj "list" out e)→StrsAre out.toList ss→ss.Perm ks→sortedS ss=true→Q (.ref a) s') :
  wpAny (model prog w) A (call (.builtin "sorted") [.ref S]) Q E s:=wB hh hz (fun hh h=>tV hh hS (by unfold scanBound;exact Nat.le_trans hz (nb rfl)) h) h
end
end Internal
end
section
namespace Internal
open PySem PyProof.Rows
theorem nn:∀(p:Str) (l:List Str),risingS p l=true→(p::l).Nodup→((p::l).map (fun x=>x.cps.toList)).Pairwise (· < ·)
 | p,[],_,_=>by simp
 | p,x::r,h,hn=>by
  unfold risingS at h
  simp only [Bool.and_eq_true,Bool.not_eq_true',ltCps_eq,decide_eq_false_iff_not] at h
  obtain ⟨hn1,hn2⟩:=List.nodup_cons.mp hn
  have ih:=nn x r h.2 hn2
  have hne:p.cps.toList≠x.cps.toList:=fun q=>hn1 (by
   have:p=x:=by
    obtain ⟨⟨a⟩⟩:=p;obtain ⟨⟨b⟩⟩:=x;simp at q;subst q;rfl
   rw [this];exact List.mem_cons_self ..)
  have hpx:p.cps.toList<x.cps.toList:=by
   rcases Classical.em (p.cps.toList<x.cps.toList) with q | q
   ·exact q
   ·exact absurd (List.le_antisymm (List.not_lt.mp h.1) (List.not_lt.mp q)) hne
  rw [List.map_cons]
  refine List.pairwise_cons.mpr ⟨fun y hy=>?_,ih⟩
  rw [List.map_cons] at hy ih
  obtain ⟨i1,_⟩:=List.pairwise_cons.mp ih
  rcases List.mem_cons.mp hy with rfl | hy
  ·exact hpx
  ·exact List.lt_trans hpx (i1 y hy)
theorem tW {l:List Str}(h:sortedS l=true) (hn:l.Nodup):(l.map (fun x=>x.cps.toList)).Pairwise (· < ·):=by
 cases l with
 | nil=>simp
 | cons p r=>exact nn p r h hn
set_option tactic.hygienic true in
theorem iY (ss:List Str):(bW ss).Nodup:=by
 have:∀(ss ks:List Str),ks.Nodup→(ss.foldl iW ks).Nodup:=by
  intro ss
  induction ss with
  | nil=>intro ks h;exact h
  | cons s r ih=>
   intro ks h
   refine ih _ ?_
   unfold iW
   split
   ·exact h
   ·rename_i hk
    rw [List.nodup_append]
    exact ⟨h,by simp,fun x hx y hy=>by
     have:y=s:=by simpa using hy
     subst this;intro q;subst q;exact hk hx⟩
 exact this ss [] List.nodup_nil
theorem zn {ss:List (List Nat)}{ss':List Str}(hp:ss'.Perm (bW (ss.map (fun x=>(⟨x.toArray⟩:Str))))) (hs:sortedS ss'=true):ss'.map (fun x=>x.cps.toList)=aC ss:=by
 have hn:ss'.Nodup:=hp.nodup_iff.mpr (iY _)
 refine Bm (tW hs hn) (kz ss) fun x=>?_
 rw [aA]
 constructor
 ·intro h
  obtain ⟨y,hy,rfl⟩:=List.mem_map.mp h
  have:=dD.mp (hp.mem_iff.mp hy)
  obtain ⟨z,hz,rfl⟩:=List.mem_map.mp this
  simpa using hz
 ·intro h
  refine List.mem_map.mpr ⟨⟨x.toArray⟩,hp.mem_iff.mpr (dD.mpr (List.mem_map.mpr ⟨x,h,rfl⟩)),by simp⟩
theorem wD {ss:List (List Nat)}:(bW (ss.map (fun x=>(⟨x.toArray⟩:Str)))).length=(aC ss).length:=by
 have:∀(l m:List (List Nat)),l.Nodup→m.Nodup→(∀x,x∈l↔x∈m)→l.length=m.length:=fun l m h1 h2 h=>((List.perm_ext_iff_of_nodup h1 h2).mpr h).length_eq
 have hn:((bW (ss.map (fun x=>(⟨x.toArray⟩:Str)))).map (fun x=>x.cps.toList)).Nodup:=by
  refine List.pairwise_map.mpr ((iY _).imp fun {p x} hne q=>hne ?_)
  obtain ⟨⟨a⟩⟩:=p;obtain ⟨⟨b⟩⟩:=x;simp at q;subst q;rfl
 have:=this _ (aC ss) hn ((kz ss).imp fun h q=>by subst q;exact List.lt_irrefl _ h) fun x=>by
  rw [aA]
  constructor
  ·intro h
   obtain ⟨y,hy,rfl⟩:=List.mem_map.mp h
   obtain ⟨z,hz,rfl⟩:=List.mem_map.mp (dD.mp hy)
   simpa using hz
  ·intro h
   exact List.mem_map.mpr ⟨⟨x.toArray⟩,dD.mpr (List.mem_map.mpr ⟨x,h,rfl⟩),by simp⟩
 simpa using this
end Internal
end
section
set_option backward.match.sparseCases true
namespace Internal
open PySem PyProof.Rows
section
variable {C:Glo}{F:Fm}{X:XM}{c:Cx}{n:Nat}
theorem wF {ρ:List Addr}{h:Heap}{ss:List (List Nat)}{items:List Value}(r:aG C ρ h (ss.map .str) items):StrsAre items (ss.map (fun x=>(⟨x.toArray⟩:Str)))∧∀x∈ss,x.length≤line:=by
 induction ss generalizing items with
 | nil=>rw [r.inv];exact ⟨.nil,fun x hx=>aX hx⟩
 | cons x ss ih=>
  obtain ⟨v,ws,rfl,a,b⟩:=r.inv
  obtain ⟨t,rfl,z⟩:=a.inv
  obtain ⟨h1,h2⟩:=ih b
  exact ⟨.cons _ t h1,fun y hy=>(List.mem_cons.mp hy).elim (fun e=>e▸z) (h2 y)⟩
theorem wG {ρ:List Addr}{h:Heap}{items:List Value}{ss:List Str}(r:StrsAre items ss) (hz:∀x∈ss,x.cps.toList.length≤line):aG C ρ h ((ss.map (fun x=>x.cps.toList)).map .str) items:=by
 induction r with
 | nil=>exact .nil
 | cons x t r ih=>exact .cons (.str x.cps.toList t (hz x (List.mem_cons_self ..))) (ih fun y hy=>hz y (List.mem_cons_of_mem _ hy))
set_option tactic.hygienic true in
theorem zo (cx:ay C c F n) {b:Bi}{args:List ME}(iargs:∀a∈args,SV C X n c F a) {e z:Expr}(hz:xSS c b e=some z) (hc:bp c args [z]=true) {x y:Str}{f g:Value}(hb:∀{x' y':Str},Cp b x' y'=true→x'=x∧y'=y) (hm1:(x,f)∈ch) (hm2:(y,g)∈ch) (hf:(∃id,f=.builtin id)∨∃T,f=.type T) (hg:(∃id,g=.builtin id)∨∃T,g=.type T) {Q:PQ}{m:MS}(h:gY (Call C) n args (fun vs m=>mT b vs Q m) X m)
  (hk:∀{ρ:List Addr}{s:Shared}{m:MS}{x:MV}{v:Value},Rel C F ρ m s→Rep C ρ s.heap x v→fJ b x Q m→∀{E:Value→Shared→Prop},wpAny (mod C) F.A (call g [v]) (fun u s'=>wpAny (mod C) F.A (call f [u]) (Out C F ρ s Q) E s') E s):WPv C F X (eval e F.env) Q m:=by
 unfold xSS at hz
 replace hz:=Option.bind_eq_some_iff.mp hz
 obtain ⟨⟨x',ys,pos⟩,hx,hz⟩:=hz
 replace hz:=Option.bind_eq_some_iff.mp hz
 obtain ⟨y',hy,hz⟩:=hz
 replace hz:=Option.bind_eq_some_iff.mp hz
 obtain ⟨⟨x'',zs,pos'⟩,hx',hz⟩:=hz
 cases cb hy
 obtain ⟨px,rfl⟩:=iq hx
 obtain ⟨px',rfl⟩:=iq hx'
 split at hz
 rotate_left
 ·exact aB hz
 rename_i hA
 cases cb hz
 obtain ⟨hA,g2⟩:=ao hA
 obtain ⟨hA,g1⟩:=ao hA
 obtain ⟨rfl,rfl⟩:=hb hA
 obtain ⟨a,rfl,hz,ha⟩:=wn hc
 intro s ρ R
 refine PyProof.Rows.Call_Name rfl (cF cx R hm1 (aN g1).1 (aN g1).2 ?_)
 refine eM hf (by rw [bv (by rfl)];rfl) (by rw [bv (by rfl)];exact List.cons_ne_nil _ _) ?_
 rw [bv (by rfl)]
 refine Calls.spliced_cons (PyProof.Rows.Call_Name rfl (cF cx R hm2 (aN g2).1 (aN g2).2 ?_))
 refine eM hg (by rw [bv hz];rfl) (by rw [bv hz];exact List.cons_ne_nil _ _) ?_
 rw [bv hz]
 refine Calls.spliced_cons ((iargs a (.head _) z ha _ m h).go R (.refl _ _ _) fun ρ₁ s₁ m₁ x v st t1 R₁ rx h₁=>Calls.spliced_nil ?_)
 refine wpAny_mono (hk R₁ rx h₁) (fun u s' q=>Calls.spliced_nil (wpAny_mono q (Out.back t1) fun _ _ x=>x)) fun _ _ x=>x
theorem EW (G:GOk C) (cx:ay C c F n) {args:List ME}(iargs:∀a∈args,SV C X n c F a) {e z:Expr}(hz:xSS c .sortedSet e=some z) (hnh:c.nh=true) (hc:bp c args [z]=true) {Q:PQ}{m:MS}(h:gY (Call C) n args (fun vs m=>mT .sortedSet vs Q m) X m):WPv C F X (eval e F.env) Q m:=by
 refine zo cx iargs hz hc (x:="sorted") (y:="set") (f:=.builtin "sorted") (g:=.type "set") (fun q=>?_) (br 10 rfl) (br 11 rfl) (.inl ⟨_,rfl⟩) (.inr ⟨_,rfl⟩) h fun {ρ₁ s₁ m₁ x v} R₁ rx h₁ {E}=>?_
 ·obtain ⟨q,q2⟩:=ao q
  obtain ⟨_,q1⟩:=ao q
  exact ⟨eq_of_beq q1,eq_of_beq q2⟩
 replace h₁:fJ .sortedSet x Q m₁:=h₁
 obtain ⟨r,rfl,h₁⟩:=fb h₁
 obtain ⟨la,rfl,g⟩:=rx.inv
 obtain ⟨xs,hi,ss,rfl,h64,h4000,hq⟩:=cD h₁
 obtain ⟨items,n',gi,rl,zz⟩:=R₁.hp.objs _ _ _ hi g
 obtain ⟨hst,hll⟩:=wF rl
 have hil:items.length<4000:=by rw [rl.length];simpa using h4000
 refine qM (cx.hn hnh) (items:=items.toArray) ⟨_,gi,rfl,_,rfl⟩ hst (by rw [List.size_toArray];unfold scanBound;exact n1 hil (by simp +arith only)) fun h' tk hS hk=>?_
 obtain ⟨R₂,st₂⟩:=R₁.grow (s':={ s₁ with heap:=h',toks:=tk }) cx.fm hk rfl rfl
 refine (wC (cx.hn hnh) (s:={ s₁ with heap:=h',toks:=tk }) hS (by rw [wD];exact h64) fun a s' out ss' e hsm ha hout hst' hperm hsrt=>?_)
 have hset:=zn hperm hsrt
 obtain ⟨R₃,st₃⟩:=R₂.alloc (s':=s') cx.fm hsm.heap hsm.gens hsm.os (o:=.list ((aC ss).map .str)) (a:=a) ha
  ⟨out.toList,e,hout,by
   rw [←hset]
   refine wG hst' fun y hy=>?_
   have:y∈bW (ss.map (fun x=>(⟨x.toArray⟩:Str))):=hperm.mem_iff.mp hy
   obtain ⟨w,hw,rfl⟩:=List.mem_map.mp (dD.mp this)
   simpa using hll w hw,by rw [List.length_map];unfold line;lia⟩
 exact ⟨_,_,_,st₂.trans st₃,R₃,.ref (i:=m₁.heap.length) (by rw [←R₂.hp.len,List.getElem?_append_right (Nat.le_refl _)];simp),hq⟩
end
end Internal
end
section
namespace Internal
open PySem PyProof.Rows
theorem CM {c:Cx}{b:Bi}{e z:Expr}(hb:∀x y,Cp b x y=false) {P:Prop}(h:xSS c b e=some z):P:=by
 obtain ⟨q,_,h⟩:=Option.bind_eq_some_iff.mp h
 obtain ⟨y,_,h⟩:=Option.bind_eq_some_iff.mp h
 obtain ⟨r,_,h⟩:=Option.bind_eq_some_iff.mp h
 rw [hb] at h
 exact aB h
section
variable {C:Glo}{F:Fm}{X:XM}{ρ:List Addr}{m:MS}{s:Shared}{Q:PQ}{E:Value→Shared→Prop}{A:Around}{h:Heap}{c:Cx}{n:Nat}
theorem CN (cx:ay C c F n) {args:List ME}(iargs:∀a∈args,SV C X n c F a) {e z:Expr}(hz:xSS c .listRev e=some z) (hnh:c.nh=true) (hc:bp c args [z]=true) {Q:PQ}{m:MS}(h:gY (Call C) n args (fun vs m=>mT .listRev vs Q m) X m):WPv C F X (eval e F.env) Q m:=CM (fun _ _=>rfl) hz
theorem zp (G:GOk C) (R:Rel C F ρ m s) (ok:aV F) {b:Bi}(hh:ku b=true∨A.handled=none) {xs:List MV}{vs:List Value}(hl:aG C ρ s.heap xs vs) {n:Str}{f:Value}(hb:nY b=some (n,f)) (h:mT b xs Q m):wpAny (mod C) A (call f vs) (Out C F ρ s Q) E s:=by
 by_cases q:b=.sorted
 ·subst q;exact aB hb
 ·exact Cg G R ok hh hl hb q h
end
end Internal
end
section
namespace Internal
open PySem PyProof.Rows
theorem CO {C:Glo}{F:Fm}{X:XM}{c:Cx}{n:Nat}(G:GOk C) (cx:ay C c F n) {b:Bi}{args:List ME}(iargs:∀a∈args,SV C X n c F a):SV C X n c F (.blt b args):=by
 intro e hc Q m h
 cases hb:y5 b with
 | true=>
  have hb':b=.sortedSet∨b=.listRev:=by cases b<;>first | exact .inl rfl | exact .inr rfl | exact ff hb
  rcases hb' with rfl | rfl
  ·replace hc:=ae hc
   obtain ⟨z,hz,hc⟩:=hc
   obtain ⟨hnh,hc⟩:=Bool.and_eq_true_iff.mp hc
   exact EW G cx iargs hz hnh hc h
  ·replace hc:=ae hc
   obtain ⟨z,hz,hc⟩:=hc
   obtain ⟨hnh,hc⟩:=Bool.and_eq_true_iff.mp hc
   exact CN cx iargs hz hnh hc h
 | false=>
  replace hc:(if y5 b=true then _ else _)=true:=hc
  rw [hb] at hc
  replace hc:=ae hc
  obtain ⟨⟨x,ys,pos⟩,hx,hc⟩:=hc
  obtain ⟨px,rfl⟩:=iq hx
  simp only [Bool.and_eq_true,Bool.not_eq_true'] at hc
  obtain ⟨⟨⟨⟨hnh,hg⟩,hf⟩,hne⟩,ha⟩:=hc
  have hh:ku b=true∨F.A.handled=none:=by
   rcases Bool.or_eq_true_iff.mp hnh with q | q
   ·exact .inr (cx.hn q)
   ·exact .inl q
  replace hf:=ae hf
  obtain ⟨⟨z,f⟩,hb,hf⟩:=hf
  cases eq_of_beq hf
  intro s ρ R
  refine PyProof.Rows.Call_Name rfl (cF cx R (Cs hb) (aN hg).1 (aN hg).2 ?_)
  refine eM (Ct hb) (bV ha _ _) (gO ha hne _ _) ?_
  refine (oa G cx iargs ys ha _ m h pos).go R (.refl _ _ _) fun ρ₁ s₁ m₁ xs vs st t1 R₁ rl el h₁=>?_
  exact wpAny_mono (zp G R₁ cx.fm hh rl hb h₁) (Out.back t1) fun _ _ x=>x
end Internal
end
section
namespace Internal
open PySem PyProof.Rows
theorem pC {x:Str}(h:cW.contains x=true):typeLookup (.type "object") x=pure none:=by
 have key:∀y∈cW,typeLookup (.type "object") y=pure none:=by
  intro y hy
  simp only [cW,List.mem_cons,List.not_mem_nil,or_false] at hy
  rcases hy with rfl | rfl | rfl | rfl | rfl | rfl<;>(rw [typeLookup_type,builtinLookup_eq_fast];kernel_rfl)
 exact key x (by simpa using h)
theorem wH {x:Str}(h:eJ.contains x=true):typeLookup (.type "object") x=pure none:=by
 have key:∀y∈eJ,typeLookup (.type "object") y=pure none:=by
  intro y hy
  simp only [eJ,List.mem_cons,List.not_mem_nil,or_false] at hy
  rcases hy with rfl | rfl | rfl | rfl | rfl | rfl | rfl | rfl<;>(rw [typeLookup_type,builtinLookup_eq_fast];kernel_rfl)
 exact key x (by simpa using h)
theorem qQ {x:Str}{y:List Nat}(h:(x.cps.toList==y)=true):x=str y:=by
 rw [←eq_of_beq h]
section
variable {C:Glo}{F:Fm}{X:XM}{c:Cx}{n:Nat}{ρ:List Addr}{m:MS}{s:Shared}{E:Value→Shared→Prop}{A:Around}
inductive FC (h:Heap) (K N:Addr):Prop
 | mk (nm q:Str) (bs:List Value) (sn:List Str) (sub:List Value) (col:Option Bool) (dd:Option Addr) (k0 k1 k2 k3 k5:Option Value) (e:h.get? K=some (excClassObj nm q K N bs [.type "object"] true sn sub false col dd k0 k1 k2 k3 k5 "object.__new__"))
theorem lN {h:Heap}{K N:Addr}{m:Str→Option Value}(x:ClsAt h K N m):FC h K N:=by
 obtain ⟨nm,q,bs,sn,sub,col,dd,k0,k1,k2,k3,k5,e⟩:=x.obj
 exact ⟨nm,q,bs,sn,sub,col,dd,k0,k1,k2,k3,k5,e⟩
inductive EX (C:Glo) (ρ:List Addr) (h:Heap) (k i:Nat) (es:List (List Nat × MV)) (v:Value):Prop
 | mk (a K N d:Addr) (mA:Str→Option Value) (ev:v=.ref a) (hc:C.ca k=some K) (hN:ClsAt h K N (C.cm k)) (hao:h.get? a=some (jT K d)) (hρ:ρ[i]?=some d) (hns:h.Ns1 d mA) (I:h.Inst a K mA) (had:a≠d) (haK:a≠K)
   (h1:∀x v,aE es x=some v→∃w,mA (str x)=some w∧Rep C ρ h v w) (h2:∀x,aE es x=none→mA (str x)=none)
theorem lO (G:GOk C) (R:Rel C F ρ m s) {k i:Nat}{v:Value}(hx:Rep C ρ s.heap (.inst k i) v) {es:List (List Nat × MV)}(hi:m.heap[i]?=some (.attrs es)):EX C ρ s.heap k i es v:=by
 obtain ⟨a,K,d,rfl,hc,hd,ha⟩:=hx.inv
 obtain ⟨mA,hn,h1,h2,h3⟩:=R.hp.objs _ _ _ hi hd
 obtain ⟨N,hN⟩:=G.cls k K hc
 have hN':=hN.keeps fun b o e=>R.hp.base b o e
 have had:a≠d:=fun q=>by
  subst q
  obtain ⟨o,es',ep,e,hdat,_⟩:=hn
  obtain rfl:=same ha e
  exact nomatch hdat
 have haK:a≠K:=fun q=>by
  subst q
  obtain ⟨nm,q,bs,sn,sub,col,dd,k0,k1,k2,k3,k5,e⟩:=lN hN'
  exact nomatch congrArg Obj.data (same ha e)
 exact ⟨a,K,N,d,mA,rfl,hc,hN',ha,hd,hn,⟨_,ha,rfl,fun c=>by simp,.inr ⟨d,rfl,Ne.symm had,hn⟩⟩,had,haK,h1,h2⟩
theorem CP {x:MV}{v:Value}{ρ:List Addr}{h:Heap}(r:Rep C ρ h x v):handedOut v=pure v:=
 Rep.casesOn (motive_1:=fun x v _=>handedOut v=pure v) r rfl (fun _=>rfl) (fun _ _=>rfl) (fun _ _ _=>rfl) (fun _ _ _=>rfl) (fun _=>rfl) (fun _ _ _=>rfl) (fun _ _ _ _=>rfl) (fun _ _ _=>rfl) (fun _ _ _=>rfl)
theorem zq (G:GOk C) (cx:ay C c F n) (R:Rel C F ρ m s) {k:Nat}{x:List Nat}{y:Str}{v:MV}{w:Value}(hx:Rep C ρ s.heap v w) (hy:y=str x) (hno:cW.contains y=true) (ha:c.at_ k y=true) {Q:PQ}(h:u2 k x v Q m) :
  wpAny (mod C) A (getAttr w y true) (Out C F ρ s Q) E s:=by
 obtain ⟨i,rfl,h3⟩:=oZ h
 obtain ⟨es,hi,h3⟩:=oY h3
 obtain ⟨u,hg,h3⟩:=cj h3
 obtain ⟨a,K,N,da,mA,rfl,hc,hN,_,_,_,I,_,_,h1,_⟩:=lO G R hx hi
 obtain ⟨z,hz,rz⟩:=h1 x u hg
 obtain ⟨q1,q2,q3⟩:=G.quiet _ _ hc
 obtain ⟨nm,q,bs,sn,sub,col,dd,k0,k1,k2,k3,k5,e⟩:=lN hN
 obtain ⟨hp,gg,dr,t,os⟩:=s
 subst hy
 exact load_attr e hN.ns q2 (cx.attr _ _ ha) (pC hno) I hz (CP rz) (bD R cx.fm rz h3)
theorem zw (G:GOk C) (cx:ay C c F n) {k:Nat}{o:ME}{x:List Nat}(io:SV C X n c F o):SV C X n c F (.attr k o x):=by
 intro e hc Q m h
 replace hc:=ae hc
 obtain ⟨⟨ov,name,apos⟩,hx,hc⟩:=hc
 have ee:=k9 hx
 subst ee
 dsimp only at hc
 obtain ⟨hc,ho⟩:=ao hc
 obtain ⟨hc,h0⟩:=ao hc
 obtain ⟨hc,hat⟩:=ao hc
 obtain ⟨hn,hno⟩:=ao hc
 have hn:=eq_of_beq hn
 have e0:=bm (eq_of_beq h0) rfl
 rw [e0] at ho ⊢
 intro s ρ R
 refine Attribute_Name_ ((io _ ho _ m h).go R (.refl _ _ _) fun ρ₁ s₁ m₁ x v st t1 R₁ rx h₁=>?_)
 exact wpAny_mono (zq G cx R₁ rx (qQ (by rw [hn];exact beq_self_eq_true _)) hno hat h₁) (Out.back t1) fun _ _ x=>x
end
end Internal
end
section
set_option maxRecDepth 100000
namespace Internal
open PySem PyProof.Rows
section
variable {prog:Program}{w:World}{A:Around}{E:Value→Shared→Prop}{h:Heap}{g:Array GenState}{d:Drawn}{t:Nat}{os:OsState}
variable {nm q:Str}{K N:Addr}{bs:List Value}{sn:List Str}{sub:List Value}{col:Option Bool}{dd:Option Addr}{k0 k1 k2 k3 k5:Option Value}
noncomputable abbrev bL (h:Heap) (K:Addr):Heap:=(h.push { cls:=.type "dict",data:=.dict #[] }).push (jT K h.objs.size)
theorem tX {mN:Str→Option Value}{rest:List Value}{fI:Addr}{oI:Obj}{Q:Fin→Shared→Prop}
  (hC:h.get? K=some (excClassObj nm q K N bs [.type "object"] true sn sub false col dd k0 k1 k2 k3 k5 "object.__new__")) (hn:h.Ns N mN) (hi:mN "__init__"=some (.ref fI)) (hfI:h.get? fI=some oI) (hfc:oI.cls=.type "function")
  (hq:wpAny (model prog w) A (call (.ref fI) (.ref (h.objs.size+1)::rest)) (fun r s'=>r=.none∧Q (.done (.ret (.ref (h.objs.size+1)))) s') E ⟨bL h K,g,d,t,os⟩) :
  wpAny (model prog w) A (Builtin.«type.__call__» ⟨.ref K::rest,[]⟩) Q E ⟨h,g,d,t,os⟩:=by
 have hmro:=F.mro_object
 have hlk:typeLookup (.type "object") "__init__"=pure (some (.builtin "object.__init__")):=by rw [typeLookup_type,builtinLookup_eq_fast];kernel_rfl
 repeat (first | with_reducible refine wpAny_loadPart_at hC ?_ | with_reducible refine wpAny_madeBy_exc hC ?_ | wp_step)
 refine codeAny_call_builtin_code (Code.quiet_builtin _ F.objNew.quiet) (wpAny_check_obj_new F.objNew hC (codeAny_obj_new F.objNew hC hn hi ?_))
 show wpAny _ _ _ _ _ _
 have up:∀{b o},h.get? b=some o→(bL h K).get? b=some o:=fun e=>Heap.get?_push_of_some _ (Heap.get?_push_of_some _ e)
 have hn₁:(bL h K).Ns N mN:=let ⟨o,es,ep,e,r⟩:=hn;⟨o,es,ep,up e,r⟩
 have hget:(bL h K).get? (h.objs.size+1)=some (jT K h.objs.size):=by heap_get
 have hcC:(Value.ref K::[Value.type "object"]).contains (.ref K)=true:=by simp
 unfold isInstance
 repeat (first | with_reducible refine wpAny_loadPart_at hget ?_ | (with_reducible refine wpAny_isSubtype_exc (up hC) ?_;rw [hcC]) | wp_step)
 show wpAny _ _ (typeLookup (.ref K) _) _ _ _
 refine wpAny_typeLookup_exc (up hC) hn₁ hmro hlk ?_
 rw [hi]
 refine wpAny_holding (wpAny_bind ?_)
 unfold bindSpecial
 refine wpAny_bind (wpAny_typeOf (T:="function") ⟨_,up hfI,hfc⟩ ?_)
 rw [if_pos (by decide)]
 refine wpAny_pure (wpAny_bind (wpAny_mono hq (fun r s' hr=>?_) fun _ _ x=>x))
 obtain ⟨rfl,hQ⟩:=hr
 wp_walk
 exact hQ
theorem wI {mN:Str→Option Value}{rest:List Value}{fI:Addr}{oI:Obj}{Q:Value→Shared→Prop}
  (hC:h.get? K=some (excClassObj nm q K N bs [.type "object"] true sn sub false col dd k0 k1 k2 k3 k5 "object.__new__")) (hn:h.Ns N mN) (hi:mN "__init__"=some (.ref fI)) (hfI:h.get? fI=some oI) (hfc:oI.cls=.type "function")
  (hq:wpAny (model prog w) (A.under (.builtin "type.__call__" ⟨.ref K::rest,[]⟩)) (call (.ref fI) (.ref (h.objs.size+1)::rest)) (fun r s'=>r=.none∧Q (.ref (h.objs.size+1)) s') E ⟨bL h K,g,d,t,os⟩) :
  wpAny (model prog w) A (call (.ref K) rest) Q E ⟨h,g,d,t,os⟩:=by
 have f1:=tc_lookup
 have f2:=tc_bind (.ref K)
 have hT:(⟨h,g,d,t,os⟩:Shared).TypeIs (.ref K) "type":=⟨_,hC,rfl⟩
 refine wpAny_call (codeAny_of_tree ?_)
 show wpAny _ _ (callAny (.ref K) _) _ _ _
 repeat (any_goals (first | assumption | with_reducible refine wpAny_loadPart_at hC ?_ | wp_step))
 refine ⟨rfl,?_⟩
 refine codeAny_call_builtin_at (Code.quiet_builtin _ (by decide +kernel)) entry_typeCall (wpAny_check_type_call_sub hC (tX hC hn hi hfI hfc ?_))
 exact hq
end
section
variable {M:Model}{A:Around}{E:Value→Shared→Prop}{s:Shared}{env:Env}
theorem wJ {o:Expr}{name:Str}{apos pos:Pos}{args:List Expr}{Q:Value→Shared→Prop}(hbase:attributeBase o name env (eval o env)=eval o env)
  (hfew:((backTo pos (starEach args env)).all (fun x=>!x.1)&&(backToKw pos (keywordEach [] env)).all (fun x=>x.1.isSome)&&decide (args.length+([]:List Keyword).length+(if ([]:List Keyword).isEmpty then 0 else 1)<30))=true)
  (hline:(apos.endLine==pos.line)=true)
  (h:wpAny M A (eval o env) (fun ov s₁=>∀pl,wpAny M A (getMethod ov name pl) (fun fx s₂=>wpAny M A (callWith pos fx.1 fx.2 (backTo pos (starEach args env)) []) Q E s₂) E s₁) E s) :
  wpAny M A (eval (.Call (.Attribute o name apos) args [] pos) env) Q E s:=by
 rw [arm_eval_Call,hbase]
 refine wpAny_bind (wpAny_mono h (fun ov s₁ h₁=>?_) fun _ _ e=>e)
 refine wpAny_bind (wpAny_standAt ?_)
 have hform:methodCallForm (args.length+([]:List Keyword).length) (backTo pos (starEach args env)) (backToKw pos (keywordEach [] env))=true:=hfew
 have hpos:methodCallPos true o env apos pos=pure pos:=by unfold methodCallPos;simp [hline]
 unfold methodCall
 rw [hform]
 refine wpAny_bind (wpAny_holding (wpAny_mono (h₁ _) (fun fx s₂ h₂=>?_) fun _ _ e=>e))
 exact wpAny_bind (wpAny_of_eq hpos h₂)
end
end Internal
end
section
namespace Internal
open PySem PyProof.Rows
section
variable {C:Glo}{F:Fm}{X:XM}{c:Cx}{n:Nat}
theorem wK {k:Nat}{x:List Nat}{v:MV}{hp:List MO}(h:yC k x v hp=true):∃i es,v=.inst k i∧hp[i]?=some (.attrs es)∧aE es x=none:=by
 cases v with
 | inst d i=>
  replace h:(match hp[i]? with
   | some (.attrs es)=>k==d&&(aE es x).isNone
   | _=>false)=true:=h
  cases hi:hp[i]? with
  | none=>rw [hi] at h;exact ff h
  | some o=>
   rw [hi] at h
   cases o with
   | attrs es=>
    obtain ⟨h1,h2⟩:=ao h
    obtain rfl:=eq_of_beq h1
    exact ⟨i,es,rfl,hi,Option.isNone_iff_eq_none.mp h2⟩
   | _=>exact ff h
 | _=>exact ff h
theorem tY (G:GOk C) (cx:ay C c F n) {ρ:List Addr}{m:MS}{s:Shared}{A:Around}{E:Value→Shared→Prop}(R:Rel C F ρ m s) {k f:Nat}{x:List Nat}{y:Str}{v:MV}{w:Value}(hx:Rep C ρ s.heap v w) (hu:yC k x v m.heap=true) (hy:y=str x)
  (hno:eJ.contains y=true) (hm:c.mt f=some (k,y)) {Q:Value × List Value→Shared→Prop}{pl:Sem Bool}(h:∀a,C.fa f=some a→Q (.ref a,[w]) s):wpAny (mod C) A (getMethod w y pl) Q E s:=by
 obtain ⟨i,es,rfl,hi,hd⟩:=wK hu
 obtain ⟨a,K,N,da,mA,rfl,hc,hN,_,_,_,I,_,_,_,h2⟩:=lO G R hx hi
 obtain ⟨q1,q2,q3⟩:=G.quiet _ _ hc
 obtain ⟨fa,ef,em,of,ho,hcl⟩:=cx.meth _ _ _ hm
 obtain ⟨nm,q,bs,sn,sub,col,dd,k0,k1,k2,k3,k5,e⟩:=lN hN
 have ho':=R.hp.base _ _ ho
 obtain ⟨hp,gg,dr,t,os⟩:=s
 subst hy
 exact method_of e hN.ns q2 q3 em ho' hcl (wH hno) I (h2 x hd) (h fa ef)
theorem zA (G:GOk C) (cx:ay C c F n) {k f:Nat}{x:List Nat}{o:ME}{args:List ME}(io:SV C X n c F o) (iargs:∀a∈args,SV C X n c F a):SV C X n c F (.umth k f x o args):=by
 intro e hc Q m h
 replace hc:=ae hc
 obtain ⟨⟨⟨ov,name,apos⟩,ys,pos⟩,hx,hc⟩:=hc
 have ee:=o9 hx
 subst ee
 simp only [Bool.and_eq_true,beq_iff_eq,decide_eq_true_eq] at hc
 obtain ⟨⟨⟨⟨⟨⟨⟨⟨hn,hno⟩,hm⟩,h0⟩,hl⟩,hz⟩,hnh⟩,ho⟩,ha⟩:=hc
 have hh:F.A.handled=none∨C.hf f=true:=by
  rcases Bool.or_eq_true_iff.mp hnh with q | q
  ·exact .inl (cx.hn q)
  ·exact .inr (cx.hf▸q)
 have hy:name=str x:=qQ (by rw [hn];exact beq_self_eq_true _)
 have e0:=bm h0 rfl
 rw [e0] at ho ⊢
 intro s ρ R
 have hp:=bV ha pos F.env
 refine wJ rfl ?_ (by simp [hl]) ((io _ ho _ m h).go R (.refl _ _ _) fun ρ₁ s₁ m₁ v w st t1 R₁ rx h₁ pl=>?_)
 ·rw [Bool.and_eq_true,Bool.and_eq_true]
  refine ⟨⟨?_,rfl⟩,?_⟩
  ·rw [List.all_eq_true];intro q hq
   rw [List.any_eq_false] at hp
   simpa using hp q hq
  ·simp;exact Nat.le_trans hz (nb rfl)
 ·obtain ⟨hu,h₁⟩:=iJ h₁
  refine tY G cx R₁ rx hu hy hno hm fun a hfa=>?_
  obtain ⟨of,fd,hof,hd⟩:=G.fns f a hfa
  have fin:∀ρ₂ s₂ m₂ xs vs,ax F.W ρ₁ s₁ ρ₂ s₂→ax F.W ρ s ρ₂ s₂→Rel C F ρ₂ m₂ s₂→aG C ρ₂ s₂.heap xs vs→Call C n f (v::xs) (fun v h=>Q v ⟨m₂.vars,h⟩) (fun c h=>X c ⟨m₂.vars,h⟩) m₂.heap→wpAny (mod C) F.A (call (.ref a) (w::vs)) (Out C F ρ s Q) (Er C F X ρ s) s₂:=by
   intro ρ₂ s₂ m₂ xs vs st2 t2 R₂ rl h₂
   refine wpAny_mono (h₂ F m₂ s₂ ρ₂ (w::vs) a cx.fm hh rfl R₂ (.cons (rx.step st2) rl) cx.room cx.units hfa) (fun v s₃ hv=>?_) fun e s' x=>Er.back t2 e s' (Er.mono (fun k m' ⟨q1,q2⟩=>by rw [←q1] at q2;exact q2) e s' x)
   obtain ⟨ρ₃,m₃,x,st3,R₃,rx,e,hq⟩:=hv
   refine ⟨ρ₃,m₃,x,t2.trans st3,R₃,rx,?_⟩
   rw [←e] at hq;exact hq
  cases ys with
  | nil=>
   cases args with
   | nil=>exact callWith_meth0 hd (R₁.hp.base _ _ hof) (fin ρ₁ s₁ m₁ [] [] (.refl _ _ _) t1 R₁ .nil h₁)
   | cons=>exact ff ha
  | cons y ys=>
   have ha':=oa G cx iargs _ ha _ m₁ h₁ pos
   have hne:=gO ha rfl pos F.env
   obtain ⟨⟨b,t⟩,trees,et⟩:=List.exists_cons_of_ne_nil hne
   rw [et] at ha' hp
   show wpAny (mod C) F.A (callWith pos (.ref a) [w] (backTo pos (starEach (y::ys) F.env)) []) _ _ _
   rw [et]
   simp only [List.any_cons,Bool.or_eq_false_iff] at hp
   obtain ⟨rfl,hp⟩:=hp
   refine Calls.callWith_function (o:=of) (fd:=fd) (Calls.evalArgs_plain (ha'.go R₁ t1 fun ρ₂ s₂ m₂ xs vs st2 t2 R₂ rl el h₂=>⟨⟨R₂.hp.base _ _ hof,hd⟩,?_⟩))
   exact fin ρ₂ s₂ m₂ xs vs st2 t2 R₂ rl h₂
end
end Internal
end
section
namespace Internal
open PySem PyProof.Rows
section
variable {C:Glo}{F:Fm}{X:XM}{c:Cx}{n:Nat}
theorem qR {v:MV}{P:Prop}(h:qu v P):v=.none∧P:=by
 cases v with
 | none=>exact ⟨rfl,h⟩
 | _=>exact h.elim
theorem zB (G:GOk C) (cx:ay C c F n) {k f j:Nat}(hj:n=j+1) (hm:c.mt f=some (k,("__init__":Str))) {K:Addr}(hK:C.ca k=some K) (hh:F.A.handled=none) {ρ:List Addr}{m:MS}{s:Shared}(R:Rel C F ρ m s) {xs:List MV}{vs:List Value}(rl:aG C ρ s.heap xs vs) {Q:PQ}
  (h:Call C j f (.inst k m.heap.length::xs) (fun v h=>qu v (Q (.inst k m.heap.length) ⟨m.vars,h⟩)) (fun c h=>X c ⟨m.vars,h⟩) (m.heap++[.attrs []])) :
  wpAny (mod C) F.A (call (.ref K) vs) (Out C F ρ s Q) (Er C F X ρ s) s:=by
 obtain ⟨N,hN⟩:=G.cls k K hK
 have hN':=hN.keeps fun b o e=>R.hp.base b o e
 obtain ⟨nm,q,bs,sn,sub,col,dd,k0,k1,k2,k3,k5,e⟩:=lN hN'
 obtain ⟨fa,ef,em,of,ho,hcl⟩:=cx.meth _ _ _ hm
 have ho':=R.hp.base _ _ ho
 obtain ⟨hp,gg,dr,t,os⟩:=s
 refine wI e hN'.ns em ho' hcl ?_
 have hk:∀a o,hp.get? a=some o→(bL hp K).get? a=some o:=fun a o e=>Heap.get?_push_of_some _ (Heap.get?_push_of_some _ e)
 have hd1:(bL hp K).get? hp.objs.size=some { cls:=.type "dict",data:=.dict #[] }:=by heap_get
 have hd2:(bL hp K).get? (hp.objs.size+1)=some (jT K hp.objs.size):=by heap_get
 have hns:(bL hp K).Ns1 hp.objs.size fun _=>none:=Heap.Ns1.of_empty ⟨_,#[],_,hd1,rfl,fun e he=>absurd he (by simp),fun _=>rfl⟩
 obtain ⟨R',st⟩:=R.alloc (s':=⟨bL hp K,gg,dr,t,os⟩) cx.fm hk rfl rfl (o:=.attrs []) (a:=hp.objs.size) (bo (Nat.le_refl _)) (show u4 _ _ _ _ _ from ⟨_,hns,fun x v e=>(by exact aB e),fun _ _=>rfl,Nat.zero_le _⟩)
 have hr:Rep C (ρ++[hp.objs.size]) (bL hp K) (.inst k m.heap.length) (.ref (hp.objs.size+1)):=
  .inst hK (by rw [←R.hp.len,List.getElem?_append_right (Nat.le_refl _)];simp) hd2
 have okF:aV { F with A:=F.A.under (.builtin "type.__call__" ⟨.ref K::vs,[]⟩) }:=by
  obtain ⟨a1,a2,a3,a4,es,a5,a6⟩:=cx.fm
  exact ⟨a1,a2,a3,a4,es,a5,a6⟩
 have R'':Rel C { F with A:=F.A.under (.builtin "type.__call__" ⟨.ref K::vs,[]⟩) } (ρ++[hp.objs.size]) (m.push (.attrs [])) ⟨bL hp K,gg,dr,t,os⟩:=by
  obtain ⟨a1,a2,a3,a4,a5,a6,a7⟩:=R'
  exact ⟨a1,a2,a3,a4,a5,a6,a7⟩
 refine wpAny_mono (h _ (m.push (.attrs [])) _ _ (.ref (hp.objs.size+1)::vs) fa okF (.inl hh) rfl R'' (.cons hr (rl.step st)) ?_ ?_ ef) (fun v s₂ hv=>?_) fun e s' x=>Er.back st e s' ?_
 ·have:=cx.room
  show F.A.depth+1+j≤999
  exact n2 this (Nat.le_of_eq hj.symm) (by simp +arith only)
 ·have:=cx.units
  show F.A.units+1≤3 * (F.A.depth+1)+4
  exact n1 this (by simp +arith only)
 ·obtain ⟨ρ₂,m₂,x,st2,R₂,rx,ev,hq⟩:=hv
  obtain ⟨rfl,hq⟩:=qR hq
  cases rx
  refine ⟨rfl,ρ₂,m₂,_,st.trans st2,?_,hr.step st2,?_⟩
  ·obtain ⟨a1,a2,a3,a4,a5,a6,a7⟩:=R₂
   exact ⟨a1,a2,a3,a4,a5,a6,a7⟩
  ·have:m.vars=m₂.vars:=ev.symm
   rw [this] at hq;exact hq
 ·obtain ⟨ρ',m',k',a,K',h1,h2,h3,h4,h5,q1,q2⟩:=x<;>exact ⟨ρ',m',k',a,K',h1,⟨h2.hp,h2.ns,h2.w,h2.vars,h2.cells,h2.out,h2.gens⟩,h3,h4,h5,by have e:m.vars=m'.vars:=q1.symm;rw [e] at q2;exact q2⟩
theorem CQ (G:GOk C) (cx:ay C c F n) {k f:Nat}{args:List ME}(iargs:∀a∈args,SV C X n c F a):SV C X n c F (.new k f args):=by
 intro e hc Q m h
 replace hc:=ae hc
 obtain ⟨⟨x,ys,pos⟩,hx,hc⟩:=hc
 obtain ⟨px,rfl⟩:=iq hx
 simp only [Bool.and_eq_true,beq_iff_eq,Bool.not_eq_true'] at hc
 obtain ⟨⟨⟨⟨⟨hg,hf⟩,hm⟩,hne⟩,hnh⟩,ha⟩:=hc
 intro s ρ R
 refine PyProof.Rows.Call_Name rfl (vt cx R hf (aN hg).1 (aN hg).2 fun K hK=>?_)
 obtain ⟨N,hN⟩:=G.cls k K hK
 have hp:=bV ha pos F.env
 cases ys with
 | nil=>exact tf hne
 | cons y ys=>
  have hy:starEach (y::ys) F.env=(false,eval y F.env)::starEach ys F.env:=by
   cases args with
   | nil=>exact ff ha
   | cons=>exact bv (bb ha).1.1 _ _
  have hp2:(backTo pos (starEach ys F.env)).any (·.1)=false:=by
   cases args with
   | nil=>exact ff ha
   | cons=>exact bV (bb ha).2 _ _
  refine callWith_cls hN ?_ hy hp2
  refine (oa G cx iargs _ ha _ m h pos).go R (.refl _ _ _) fun ρ₁ s₁ m₁ xs vs st t1 R₁ rl el h₁=>⟨fun b o e=>R₁.hp.base b o e,?_⟩
  cases n with
  | zero=>exact h₁.elim
  | succ j=>exact EC t1 (zB G cx rfl hm hK (cx.hn hnh) R₁ rl h₁)
end
end Internal
end
section
namespace Internal
open PySem PyProof.Rows
section
variable {C:Glo}{F:Fm}{X:XM}{c:Cx}{n:Nat}{ρ:List Addr}{m:MS}{s:Shared}{E:Value→Shared→Prop}{A:Around}
theorem zC {hp:List MO}{x:MV}{k:Nat}(h:uZ hp x=some (.exc k)):∃r,x=.ref r∧hp[r]?=some (.exc k):=by
 cases x with
 | ref r=>
  replace h:kdO hp[r]?=some (.exc k):=h
  cases hr:hp[r]? with
  | none=>rw [hr] at h;exact aB h
  | some o=>
   rw [hr] at h
   cases o with
   | exc j=>cases h;exact ⟨r,rfl,hr⟩
   | attrs=>exact aB h
   | _=>exact nomatch h
 | inst=>exact aB h
 | scr=>exact aB h
 | gt=>exact aB h
 | cdict=>exact aB h
 | _=>exact nomatch h
theorem CR (G:GOk C) (R:Rel C F ρ m s) {x:MV}{v:Value}(rx:Rep C ρ s.heap x v) {k:Nat}{P:Prop}(h:uZ m.heap x=some (.exc k)):P:=by
 obtain ⟨r,rfl,hr⟩:=zC h
 obtain ⟨a,rfl,g⟩:=rx.inv
 obtain ⟨K,o,vs,h1,_⟩:=R.hp.objs _ _ _ hr g
 exact aO (G.x.nox k) h1
theorem zD (G:GOk C) (cx:ay C c F n) (R:Rel C F ρ m s) {x:MV}{v:Value}(rx:Rep C ρ s.heap x v) {d:Nat}{D:Addr}(hD:C.xa d=some D) {b:Bool}(h:jx m.heap x (.cls d)=some b) {Q:PQ}(hq:Q (.bool b) m) :
  wpAny (mod C) A (call (.builtin "isinstance") [v,.ref D]) (Out C F ρ s Q) E s:=by
 exact aO (G.x.nox d) hD
theorem CS (G:GOk C) (cx:ay C c F n) (R:Rel C F ρ m s) {x:MV}{v:Value}(rx:Rep C ρ s.heap x v) {b:Bool}(h:jx m.heap x .valueError=some b) {Q:PQ}(hq:Q (.bool b) m) :
  wpAny (mod C) A (call (.builtin "isinstance") [v,.type "ValueError"]) (Out C F ρ s Q) E s:=by
 obtain ⟨k,hk,h⟩:=kq h
 cases k with
 | exc k=>exact CR G R rx hk
 | _=>exact aB h
end
end Internal
end
section
namespace Internal
open PySem PyProof.Rows
section
variable {C:Glo}{F:Fm}{X:XM}{c:Cx}{n:Nat}{ρ:List Addr}{m:MS}{s:Shared}{E:Value→Shared→Prop}{A:Around}
theorem jC {t:TS}{e:Expr}(h:lC c t e=true):∃T p,e=.Name (Str.ofString T) p∧kh t=some T∧c.kind (Str.ofString T)=some .globalImplicit∧dbg (Str.ofString T)=false:=by
 replace h:=ae h
 obtain ⟨y,hy,h⟩:=h
 replace h:=ae h
 obtain ⟨T,eT,h⟩:=h
 obtain ⟨py,rfl⟩:=cg hy
 simp only [Bool.and_eq_true,beq_iff_eq,Bool.not_eq_true'] at h
 obtain ⟨⟨rfl,hk⟩,hd⟩:=h
 exact ⟨T,py,rfl,eT,hk,hd⟩
theorem sm (cx:ay C c F n) (R:Rel C F ρ m s) {ρ₀:List Addr}{s₀:Shared}(t1:ax F.W ρ₀ s₀ ρ s) {Q:PQ}{w u:Value}(h:wpAny (mod C) F.A (call (.builtin "isinstance") [w,u]) (fM s fun b=>Q (.bool b) m) (Er C F X ρ₀ s₀) s):wpAny (mod C) F.A (call (.builtin "isinstance") [w,u]) (Out C F ρ₀ s₀ Q) (Er C F X ρ₀ s₀) s:=
 wpAny_mono h (fun v s' hv=>by
  obtain ⟨b,rfl,m',st3,R',hq⟩:=wg (P:=fun b m=>Q (.bool b) m) R cx.fm hv
  exact Out.back t1 _ _ ⟨_,_,_,st3,R',.bool b,hq⟩) fun _ _ x=>x
theorem CT (G:GOk C) (cx:ay C c F n) (R:Rel C F ρ m s) {ρ₀:List Addr}{s₀:Shared}(t1:ax F.W ρ₀ s₀ ρ s) {ty:TS}{t:Expr}(ht:Bj c ty t=true) {x:MV}{v:Value}(rx:Rep C ρ s.heap x v) {b:Bool}(hb:jx m.heap x ty=some b) {Q:PQ}(hq:Q (.bool b) m) :
  okX t=true∧wpAny (mod C) F.A (eval t F.env) (fun u s₂=>wpAny (mod C) F.A (call (.builtin "isinstance") [v,u]) (Out C F ρ₀ s₀ Q) (Er C F X ρ₀ s₀) s₂) (Er C F X ρ₀ s₀) s:=by
 have plain:lC c ty t=true→okX t=true∧wpAny (mod C) F.A (eval t F.env) (fun u s₂=>wpAny (mod C) F.A (call (.builtin "isinstance") [v,u]) (Out C F ρ₀ s₀ Q) (Er C F X ρ₀ s₀) s₂) (Er C F X ρ₀ s₀) s:=fun ht=>by
  obtain ⟨T,p,rfl,eT,hk,hd⟩:=jC ht
  exact ⟨rfl,cF cx R (qG eT) hk hd (sm cx R t1 (Ca R.hp rx hb hq T eT))⟩
 refine Classical.byContradiction fun hn=>?_
 cases ty with
 | cls d=>
  obtain ⟨y,hy,ht⟩:=ae ht
  obtain ⟨py,rfl⟩:=cg hy
  obtain ⟨h1,h2⟩:=ao ht
  exact hn ⟨rfl,vv cx R (eq_of_beq h2) (aN h1).1 (aN h1).2 fun D hD=>wpAny_mono (zD G cx R rx hD hb hq) (Out.back t1) fun _ _ x=>x⟩
 | valueError=>
  obtain ⟨y,hy,ht⟩:=ae ht
  obtain ⟨py,rfl⟩:=cg hy
  obtain ⟨h1,h2⟩:=ao ht
  obtain rfl:=eq_of_beq h2
  exact hn ⟨rfl,cF cx R (v:=.type "ValueError") (br 15 rfl) (aN h1).1 (aN h1).2 (wpAny_mono (CS G cx R rx hb hq) (Out.back t1) fun _ _ x=>x)⟩
 | _=>exact hn (plain ht)
theorem EY (G:GOk C) (cx:ay C c F n) (R:Rel C F ρ m s) {ρ₀:List Addr}{s₀:Shared}(t1:ax F.W ρ₀ s₀ ρ s) {ts:List TS}{t:Expr}(ht:wf c ts t=true) {x:MV}{v:Value}(rx:Rep C ρ s.heap x v) {Q:PQ}(h:Eo ts m.heap x fun b=>Q (.bool b) m) :
  okX t=true∧wpAny (mod C) F.A (eval t F.env) (fun u s₂=>wpAny (mod C) F.A (call (.builtin "isinstance") [v,u]) (Out C F ρ₀ s₀ Q) (Er C F X ρ₀ s₀) s₂) (Er C F X ρ₀ s₀) s:=by
 rcases ts with _ | ⟨t₁,_ | ⟨t₂,_ | ⟨t₃,r⟩⟩⟩
 ·exact ff ht
 ·obtain ⟨b,hb,hq⟩:=cj h
  exact CT G cx R t1 ht rx hb hq
 ·obtain ⟨us,hus,ht⟩:=ae ht
  obtain ⟨⟨w1,w2⟩,hw,ht⟩:=ae ht
  obtain rfl:=nR hw
  obtain ⟨kk,pp,rfl⟩:=iP hus
  obtain ⟨ht1,ht2⟩:=ao ht
  obtain ⟨T1,p1,rfl,e1,hk1,hd1⟩:=jC ht1
  obtain ⟨T2,p2,rfl,e2,hk2,hd2⟩:=jC ht2
  obtain ⟨b,hb,h⟩:=cj h
  obtain ⟨b',hb',hq⟩:=cj h
  refine ⟨rfl,wpAny_Tuple (wpAny_items_cons (cF cx R (qG e1) hk1 hd1 (wpAny_items_cons (cF cx R (qG e2) hk2 hd2 (wpAny_items_nil ⟨(by decide:2≤sizeLine),?_⟩)))))⟩
  obtain ⟨R₂,st₂⟩:=R.grow (s':={ s with heap:=s.heap.push { cls:=.type "tuple",data:=.seq #[.type T1,.type T2] } }) cx.fm (fun a o e=>Heap.get?_push_of_some _ e) rfl rfl
  exact sm cx R₂ (t1.trans st₂) (yO R₂.hp (rx.step st₂) e1 e2 hb hb' hq (Heap.get?_push_size _ rfl))
 ·exact ff ht
theorem tZ {ts:List TS}{t:Expr}(h:wf c ts t=true):okX t=true:=by
 have nm:∀{f:Str→Bool},au (dW t) f=true→okX t=true:=fun h=>by
  obtain ⟨y,hy,_⟩:=ae h
  obtain ⟨py,rfl⟩:=cg hy
  rfl
 rcases ts with _ | ⟨t₁,_ | ⟨t₂,_ | ⟨t₃,r⟩⟩⟩
 ·exact ff h
 ·cases t₁<;>exact nm h
 ·obtain ⟨us,hus,_⟩:=ae h
  obtain ⟨kk,pp,rfl⟩:=iP hus
  rfl
 ·exact ff h
theorem wL (cx:ay C c F n) {a:ME}(ia:SV C X n c F a) {v t:Expr}{pos px:Pos}(hg:cG c "isinstance"=true) (hv:okX v=true) (ha:aP c a v=true) (ho:okX t=true) {PX Q:PQ}{m:MS}(h:wpE (Call C) n a PX X m)
  (k:∀{ρ₀:List Addr}{s₀:Shared}{ρ₁:List Addr}{s₁:Shared}{m₁:MS}{x:MV}{w:Value},ax F.W ρ₀ s₀ ρ₁ s₁→Rel C F ρ₁ m₁ s₁→Rep C ρ₁ s₁.heap x w→PX x m₁→wpAny (mod C) F.A (eval t F.env) (fun u s₂=>wpAny (mod C) F.A (call (.builtin "isinstance") [w,u]) (Out C F ρ₀ s₀ Q) (Er C F X ρ₀ s₀) s₂) (Er C F X ρ₀ s₀) s₁) :
  WPv C F X (eval (.Call (.Name "isinstance" px) [v,t] [] pos) F.env) Q m:=by
 intro s ρ R
 refine PyProof.Rows.Call_Name rfl (cF cx R (v:=.builtin "isinstance") (br 7 rfl) (aN hg).1 (aN hg).2 ?_)
 refine eM (.inl ⟨_,rfl⟩) (by rw [bv hv,bv ho];rfl) (by rw [bv hv];exact List.cons_ne_nil _ _) ?_
 rw [bv hv,bv ho]
 exact Calls.spliced_cons ((ia v ha _ m h).go R (.refl _ _ _) fun ρ₁ s₁ m₁ x v st t1 R₁ rx h₁=>Calls.spliced_cons (wpAny_mono (k t1 R₁ rx h₁) (fun w s₂ hw=>Calls.spliced_nil hw) fun _ _ e=>e))
theorem CU (G:GOk C) (cx:ay C c F n) {a:ME}{ts:List TS}(ia:SV C X n c F a):SV C X n c F (.isi a ts):=by
 intro e hc Q m h
 obtain ⟨⟨x,ys,pos⟩,hx,hc⟩:=ae hc
 obtain ⟨⟨v,t⟩,hv2,hc⟩:=ae hc
 obtain rfl:=nR hv2
 obtain ⟨px,rfl⟩:=iq hx
 obtain ⟨hc,ht⟩:=ao hc
 obtain ⟨hc,ha⟩:=ao hc
 obtain ⟨hc,hv⟩:=ao hc
 obtain ⟨hg,hn⟩:=ao hc
 obtain rfl:=eq_of_beq hn
 exact wL cx ia hg hv ha (tZ ht) h fun t1 R₁ rx h₁=>(EY G cx R₁ t1 ht rx h₁).2
end
end Internal
end
section
namespace Internal
open PySem PyProof.Rows
noncomputable def bg (e:Expr):Bool:=okX e&&((view e).tag != 3||(view e).u != .Not)&&(view e).tag != 4&&(view e).tag != 5
theorem mO {e:Expr}(h:bg e=true) (env:Env) (whole:Sem Value):isTrue e env whole=(do let v ←whole;standAt e.pos;holding [v] (truthy v)):=by
 unfold bg at h
 try dsimp only at h
 obtain ⟨hA,h4⟩:=ao h
 obtain ⟨hA,h3⟩:=ao hA
 obtain ⟨h1,h2⟩:=ao hA
 exact cV (P:=fun e=>((view e).tag != 3||(view e).u != .Not)=true→((view e).tag != 4)=true→((view e).tag != 5)=true→isTrue e env whole=(do let v ←whole;standAt e.pos;holding [v] (truthy v))) h1
  (fun _ _ _ _ _ _=>rfl) (fun _ _ _ _ _=>rfl) (fun _ _ _ _ _ _ _=>rfl) (fun o _ _ h _ _=>by cases o<;>first | rfl | exact ff h) (fun _ _ _ _ h _=>by exact ff h) (fun _ _ _ _ _ _ h=>by exact ff h) (fun _ _ _ _ _ _ _=>rfl) (fun _ _ _ _ _ _=>rfl) (fun _ _ _ _ _ _=>rfl) (fun _ _ _ _ _=>rfl) (fun _ _ _ _ _ _=>rfl) (fun _ _ _ _ _ _=>rfl) (fun _ _ _ _ _ _ _=>rfl) h2 h3 h4
theorem t0 {e:Expr}{k:Nat}(h:(view e).tag=k) (hk:(k != 9&&k != 14&&k != 3&&k != 4&&k != 5)=true):bg e=true:=by
 subst h
 try dsimp only at hk
 obtain ⟨hA,h5⟩:=ao hk
 obtain ⟨hA,h4⟩:=ao hA
 obtain ⟨hA,h3⟩:=ao hA
 obtain ⟨h1,h2⟩:=ao hA
 simp [bg,okX,h1,h2,h3,h4,h5]
theorem bh {α:Type}{e:Expr}{k:Nat}{x y:α}(h:(if (view e).tag=k then some x else none)=some y) (hk:(k != 9&&k != 14&&k != 3&&k != 4&&k != 5)=true):bg e=true:=t0 (bu h).1 hk
theorem fP {e:Expr}{q:Str × List Expr × Pos}(h:xFn e=some q):bg e=true:=by
 unfold xFn at h
 obtain ⟨q,h,_⟩:=Option.bind_eq_some_iff.mp h
 exact bh h rfl
theorem lP {e:Expr}{q:(Expr × Str × Pos) × List Expr × Pos}(h:mW e=some q):bg e=true:=by
 unfold mW at h
 obtain ⟨q,h,_⟩:=Option.bind_eq_some_iff.mp h
 exact bh h rfl
noncomputable def ST (C:Glo) (X:XM) (n:Nat) (c:Cx) (F:Fm) (me:ME):Prop:=
 ∀(e:Expr),aP c me e=true→∀(Q:Bool→MS→Prop) (m:MS),wpE (Call C) n me (bF Q) X m→WPt C F X (isTrue e F.env (eval e F.env)) Q m
section
variable {C:Glo}{F:Fm}{X:XM}{c:Cx}{n:Nat}
theorem wM (G:GOk C) (cx:ay C c F n) {me:ME}(ia:SV C X n c F me) (hpl:∀e,aP c me e=true→bg e=true):ST C X n c F me:=by
 intro e hc Q m h s ρ R
 refine wpAny_isTrue_value ((ia e hc _ m h).go R (.refl _ _ _) fun ρ₁ s₁ m₁ x v st t1 R₁ rx h₁=>?_) (mO (hpl e hc) _ _)
 obtain ⟨b,rfl,h₁⟩:=fh h₁
 cases rx;exact wpAny_truthy_bool ⟨_,_,t1,R₁,h₁⟩
theorem Bn (G:GOk C) (cx:ay C c F n):∀{es:List ME},(∀a∈es,ST C X n c F a)→∀(xs:List Expr),bp c es xs=true→∀(Q:Bool→MS→Prop) (m:MS),rP (Call C) n es (bF Q) X m→WPt C F X (allTrue .And xs F.env) Q m
 | [],ih,xs,hc,Q,m,h=>h.elim
 | [e],ih,xs,hc,Q,m,h=>by
  cases xs with
  | nil=>exact ff hc
  | cons x xs=>
   replace hc:=bb hc
   cases xs with
   | nil=>
    intro s ρ R
    refine wpAny_allTrue_And_cons ((ih e (by exact List.mem_singleton.mpr rfl) x hc.1.2 _ m h).go R (.refl _ _ _) fun ρ₁ s₁ m₁ b st t1 R₁ h₁=>?_)
    cases b with
    | true=>exact wpAny_allTrue_And_nil ⟨_,_,t1,R₁,h₁⟩
    | false=>exact ⟨_,_,t1,R₁,h₁⟩
   | cons=>cases hc.2
 | e::e'::es,ih,xs,hc,Q,m,h=>by
  cases xs with
  | nil=>exact ff hc
  | cons x xs=>
   replace hc:=bb hc
   intro s ρ R
   refine wpAny_allTrue_And_cons ((ih e (by exact List.mem_cons_self ..) x hc.1.2 _ m h).go R (.refl _ _ _) fun ρ₁ s₁ m₁ b st t1 R₁ h₁=>?_)
   cases b with
   | true=>exact wpAny_mono (Bn G cx (fun a ha=>ih a (List.mem_cons_of_mem _ ha)) xs hc.2 Q m₁ h₁ s₁ ρ₁ R₁) (fun b s' ⟨ρ',m',a,b',c'⟩=>⟨ρ',m',t1.trans a,b',c'⟩) (Er.back t1)
   | false=>exact ⟨_,_,t1,R₁,h₁⟩
theorem EZ (G:GOk C) (cx:ay C c F n):∀{es:List ME},(∀a∈es,ST C X n c F a)→∀(xs:List Expr),bp c es xs=true→∀(Q:Bool→MS→Prop) (m:MS),yD (Call C) n es (bF Q) X m→WPt C F X (allTrue .Or xs F.env) Q m
 | [],ih,xs,hc,Q,m,h=>h.elim
 | [e],ih,xs,hc,Q,m,h=>by
  cases xs with
  | nil=>exact ff hc
  | cons x xs=>
   replace hc:=bb hc
   cases xs with
   | nil=>
    intro s ρ R
    refine wpAny_allTrue_Or_cons ((ih e (by exact List.mem_singleton.mpr rfl) x hc.1.2 _ m h).go R (.refl _ _ _) fun ρ₁ s₁ m₁ b st t1 R₁ h₁=>?_)
    cases b with
    | true=>exact ⟨_,_,t1,R₁,h₁⟩
    | false=>exact wpAny_allTrue_Or_nil ⟨_,_,t1,R₁,h₁⟩
   | cons=>cases hc.2
 | e::e'::es,ih,xs,hc,Q,m,h=>by
  cases xs with
  | nil=>exact ff hc
  | cons x xs=>
   replace hc:=bb hc
   intro s ρ R
   refine wpAny_allTrue_Or_cons ((ih e (by exact List.mem_cons_self ..) x hc.1.2 _ m h).go R (.refl _ _ _) fun ρ₁ s₁ m₁ b st t1 R₁ h₁=>?_)
   cases b with
   | false=>exact wpAny_mono (EZ G cx (fun a ha=>ih a (List.mem_cons_of_mem _ ha)) xs hc.2 Q m₁ h₁ s₁ ρ₁ R₁) (fun b s' ⟨ρ',m',a,b',c'⟩=>⟨ρ',m',t1.trans a,b',c'⟩) (Er.back t1)
   | true=>exact ⟨_,_,t1,R₁,h₁⟩
theorem CV (G:GOk C) (cx:ay C c F n) {a:ME}(ia:ST C X n c F a):ST C X n c F (.not a):=by
 intro e hc Q m h
 replace hc:=ae hc
 obtain ⟨⟨o,x⟩,hx,hc⟩:=hc
 obtain ⟨p,rfl⟩:=nT hx
 try dsimp only at hc
 obtain ⟨hE1,hc⟩:=ao hc
 first | with_reducible replace hc:=eq_of_beq hc | skip
 obtain rfl:=eq_of_beq hE1
 intro s ρ R
 exact wpAny_isTrue_Not ((ia _ hc _ m h).go R (.refl _ _ _) fun ρ₁ s₁ m₁ b st t1 R₁ h₁=>⟨_,_,t1,R₁,h₁⟩)
theorem CW (G:GOk C) (cx:ay C c F n) {es:List ME}(ies:∀a∈es,ST C X n c F a):ST C X n c F (.and es):=by
 intro e hc Q m h
 replace hc:=ae hc
 obtain ⟨⟨o,xs⟩,hx,hc⟩:=hc
 obtain ⟨p,rfl⟩:=iM hx
 try dsimp only at hc
 obtain ⟨hE2,hc⟩:=ao hc
 first | with_reducible replace hc:=eq_of_beq hc | skip
 obtain rfl:=eq_of_beq hE2
 intro s ρ R;exact wpAny_isTrue_BoolOp (Bn G cx ies _ hc _ m h s ρ R)
theorem E0 (G:GOk C) (cx:ay C c F n) {es:List ME}(ies:∀a∈es,ST C X n c F a):ST C X n c F (.or es):=by
 intro e hc Q m h
 replace hc:=ae hc
 obtain ⟨⟨o,xs⟩,hx,hc⟩:=hc
 obtain ⟨p,rfl⟩:=iM hx
 try dsimp only at hc
 obtain ⟨hE3,hc⟩:=ao hc
 first | with_reducible replace hc:=eq_of_beq hc | skip
 obtain rfl:=eq_of_beq hE3
 intro s ρ R;exact wpAny_isTrue_BoolOp (EZ G cx ies _ hc _ m h s ρ R)
theorem CX (G:GOk C) (cx:ay C c F n) {op:Cmp}{a b:ME}(ia:SV C X n c F a) (ib:SV C X n c F b):ST C X n c F (.cmp op a b):=by
 intro e hc Q m h
 replace hc:=ae hc
 obtain ⟨⟨l,os,rs⟩,hxx,hc⟩:=hc
 replace hc:=ae hc
 obtain ⟨o,ho,hc⟩:=hc
 replace hc:=ae hc
 obtain ⟨r,hr,hc⟩:=hc
 cases cb ho
 cases cb hr
 obtain ⟨p,rfl⟩:=iO hxx
 try dsimp only at hc
 obtain ⟨hA,hb⟩:=ao hc
 first | with_reducible replace hb:=eq_of_beq hb | skip
 obtain ⟨hA,ha⟩:=ao hA
 first | with_reducible replace ha:=eq_of_beq ha | skip
 obtain ⟨hE4,hx⟩:=ao hA
 first | with_reducible replace hx:=eq_of_beq hx | skip
 obtain rfl:=eq_of_beq hE4
 intro s ρ R
 exact wpAny_isTrue_Compare1 (m6 G cx ia ib ha hb R h fun b ρ' m' s' st R' hq=>wpAny_truthy_bool ⟨_,_,st,R',hq⟩) (gF hx _)
theorem CY (G:GOk C) (cx:ay C c F n) {p:Bool}{a:ME}(ia:SV C X n c F a):ST C X n c F (.isN p a):=by
 intro e hc Q m h
 replace hc:=ae hc
 obtain ⟨⟨l,os,rs⟩,hxx,hc⟩:=hc
 replace hc:=ae hc
 obtain ⟨o,ho,hc⟩:=hc
 replace hc:=ae hc
 obtain ⟨r,hr,hc⟩:=hc
 cases cb ho
 cases cb hr
 obtain ⟨p2,rfl⟩:=iO hxx
 try dsimp only at hc
 obtain ⟨hA,ha⟩:=ao hc
 first | with_reducible replace ha:=eq_of_beq ha | skip
 obtain ⟨hE5,hn⟩:=ao hA
 first | with_reducible replace hn:=eq_of_beq hn | skip
 obtain rfl:=eq_of_beq hE5
 obtain ⟨_,_,rfl⟩:=jA hn
 intro s ρ R
 exact wpAny_isTrue_Compare1 (pn G cx ia ha R h fun b ρ' m' s' st R' hq=>wpAny_truthy_bool ⟨_,_,st,R',hq⟩) rfl
theorem be {α:Type}{o:Option α}{f:α→Bool}(h:au o f=true):∃a,o=some a:=let ⟨a,h,_⟩:=ae h;⟨a,h⟩
theorem CZ {v:MV}:∀e,aP c (.cst v) e=true→bg e=true:=fun e hc=>by
 obtain ⟨_,hx⟩:=be hc
 exact bh hx rfl
theorem C0 {i:Nat}:∀e,aP c (.var i) e=true→bg e=true:=fun e hc=>by
 obtain ⟨_,hx⟩:=be hc
 exact bh hx rfl
theorem zE {g:Nat}{v:MV}:∀e,aP c (.glob g v) e=true→bg e=true:=fun e hc=>by
 obtain ⟨_,hx⟩:=be hc
 exact bh hx rfl
theorem C1 {op:Op}{a b:ME}:∀e,aP c (.bin op a b) e=true→bg e=true:=fun e hc=>by
 obtain ⟨_,hx⟩:=be hc
 exact bh hx rfl
theorem C2 {o i:ME}:∀e,aP c (.idx o i) e=true→bg e=true:=fun e hc=>by
 obtain ⟨_,hx⟩:=be hc
 exact bh hx rfl
theorem E1 {o:ME}{lo hi:Option ME}:∀e,aP c (.sl o lo hi) e=true→bg e=true:=fun e hc=>by
 obtain ⟨_,hx⟩:=be hc
 exact bh hx rfl
theorem zF {es:List ME}:∀e,aP c (.list es) e=true→bg e=true:=fun e hc=>by
 obtain ⟨_,hx⟩:=be hc
 exact bh hx rfl
theorem C3 {es:List ME}:∀e,aP c (.tup es) e=true→bg e=true:=fun e hc=>by
 obtain ⟨_,hx⟩:=be hc
 exact bh hx rfl
theorem wN:∀e,aP c (.dict0) e=true→bg e=true:=fun e hc=>by
 obtain ⟨_,hx⟩:=be hc
 exact bh hx rfl
theorem zG {elt:ME}{t:List Nat}{many:Bool}{k:IK}{src ifs:List ME}:∀e,aP c (.comp elt t many k src ifs) e=true→bg e=true:=fun e hc=>by
 obtain ⟨_,hx⟩:=be hc
 exact bh hx rfl
theorem zH {f:Nat}{args:List ME}:∀e,aP c (.call f args) e=true→bg e=true:=fun e hc=>by
 obtain ⟨_,hx⟩:=be hc
 exact fP hx
theorem C4 {a:ME}{ts:List TS}:∀e,aP c (.isi a ts) e=true→bg e=true:=fun e hc=>by
 obtain ⟨_,hx⟩:=be hc
 exact fP hx
theorem C5 {k:Me}{o:ME}{args:List ME}:∀e,aP c (.mth k o args) e=true→bg e=true:=fun e hc=>by
 obtain ⟨_,hx⟩:=be hc
 exact lP hx
theorem zI {k f:Nat}{x:List Nat}{o:ME}{args:List ME}:∀e,aP c (.umth k f x o args) e=true→bg e=true:=fun e hc=>by
 obtain ⟨_,hx⟩:=be hc
 exact lP hx
theorem C6 {k f:Nat}{args:List ME}:∀e,aP c (.new k f args) e=true→bg e=true:=fun e hc=>by
 obtain ⟨_,hx⟩:=be hc
 exact fP hx
theorem zJ {k:Nat}{o:ME}{x:List Nat}:∀e,aP c (.attr k o x) e=true→bg e=true:=fun e hc=>by
 obtain ⟨_,hx⟩:=be hc
 exact bh hx rfl
theorem C7 {b:Bi}{args:List ME}:∀e,aP c (.blt b args) e=true→bg e=true:=fun e hc=>by
 replace hc:(if y5 b=true then _ else _)=true:=hc
 split at hc
 ·obtain ⟨_,hx⟩:=be hc
  unfold xSS at hx
  obtain ⟨_,hx,_⟩:=Option.bind_eq_some_iff.mp hx
  exact fP hx
 ·obtain ⟨_,hx⟩:=be hc
  exact fP hx
theorem C8 {a:ME}:∀e,aP c (.neg a) e=true→bg e=true:=fun e hc=>by
 replace hc:=ae hc
 obtain ⟨⟨o,x⟩,hx,hc⟩:=hc
 obtain ⟨p,rfl⟩:=nT hx
 try dsimp only at hc
 obtain ⟨hE6,_⟩:=ao hc
 obtain rfl:=eq_of_beq hE6
 rfl
end
end Internal
end
section
namespace Internal
open PySem PyProof.Rows
section
variable {M:Model}{A:Around}{E:Value→Shared→Prop}{s:Shared}{env:Env}
theorem Bo {vs:List Value}{t:Sem Value}{Q:Value→Shared→Prop}(h:wpAny M A t Q E s):wpAny M A (operate vs t) Q E s:=fun Γ p hΓ=>by
 rw [Sem.wp_operate];exact h Γ p hΓ
theorem pD {l r r':Expr}{o o':CmpOp}{pos:Pos}{Q:Value→Shared→Prop}(hm':behindInMarks o' r'=false)
  (h:wpAny M A (eval l env) (fun a s₁=>wpAny M A (eval r env) (fun b s₂=>wpAny M A (compareOp o a b) (fun c s₃=>wpAny M A (truthy c) (fun t s₄=>
   match t with
   | true=>wpAny M A (eval r' env) (fun d s₅=>wpAny M A (compareOp o' b d) Q E s₅) E s₄
   | false=>Q c s₄) E s₃) E s₂) E s₁) E s):wpAny M A (eval (.Compare l [o,o'] [r,r'] pos) env) Q E s:=by
 show wpAny M A (eval l env >>= fun a=>compareChain pos a [o,o'] [eval r env,markedBehindIn o' r' (eval r' env)]) Q E s
 rw [markedBehindIn_of_false hm']
 refine wpAny_bind (wpAny_mono h (fun a s₁ h₁=>?_) fun _ _ x=>x)
 show wpAny M A (do
  let rv ←holding [a] (eval r env)
  standAt pos
  let c ←holding [a,rv] (compareOp o a rv)
  release [a,rv] [c]
  if ←holding [c,rv] (truthy c) then compareChain pos rv [o'] [eval r' env] else pure c) Q E s₁
 refine wpAny_bind (wpAny_holding (wpAny_mono h₁ (fun b s₂ h₂=>?_) fun _ _ x=>x))
 refine wpAny_bind (wpAny_standAt (wpAny_bind (wpAny_holding (wpAny_mono h₂ (fun c s₃ h₃=>?_) fun _ _ x=>x))))
 refine wpAny_bind (wpAny_release (wpAny_bind (wpAny_holding (wpAny_mono h₃ (fun t s₄ h₄=>?_) fun _ _ x=>x))))
 cases t with
 | false=>exact wpAny_pure h₄
 | true=>
  show wpAny M A (do
   let rv ←holding [b] (eval r' env)
   standAt pos
   operate [b,rv] (compareOp o' b rv)) Q E s₄
  exact wpAny_bind (wpAny_holding (wpAny_mono h₄ (fun d s₅ h₅=>wpAny_bind (wpAny_standAt (Bo h₅))) fun _ _ x=>x))
theorem wO {l r r':Expr}{o o':CmpOp}{pos:Pos}{whole:Sem Value}{Q:Bool→Shared→Prop}(hm':behindInMarks o' r'=false)
  (h:wpAny M A (eval l env) (fun a s₁=>wpAny M A (eval r env) (fun b s₂=>wpAny M A (compareOp o a b) (fun c s₃=>wpAny M A (truthy c) (fun t s₄=>
   match t with
   | true=>wpAny M A (eval r' env) (fun d s₅=>wpAny M A (compareOp o' b d) (fun c s₆=>wpAny M A (truthy c) Q E s₆) E s₅) E s₄
   | false=>Q false s₄) E s₃) E s₂) E s₁) E s):wpAny M A (isTrue (.Compare l [o,o'] [r,r'] pos) env whole) Q E s:=by
 show wpAny M A (eval l env >>= fun a=>testChain pos a [o,o'] [eval r env,markedBehindIn o' r' (eval r' env)]) Q E s
 rw [markedBehindIn_of_false hm']
 refine wpAny_bind (wpAny_mono h (fun a s₁ h₁=>?_) fun _ _ x=>x)
 show wpAny M A (do
  let rv ←holding [a] (eval r env)
  standAt pos
  let c ←holding [a,rv] (compareOp o a rv)
  release [a,rv] [c]
  if ←holding [c,rv] (truthy c) then testChain pos rv [o'] [eval r' env] else pure false) Q E s₁
 refine wpAny_bind (wpAny_holding (wpAny_mono h₁ (fun b s₂ h₂=>?_) fun _ _ x=>x))
 refine wpAny_bind (wpAny_standAt (wpAny_bind (wpAny_holding (wpAny_mono h₂ (fun c s₃ h₃=>?_) fun _ _ x=>x))))
 refine wpAny_bind (wpAny_release (wpAny_bind (wpAny_holding (wpAny_mono h₃ (fun t s₄ h₄=>?_) fun _ _ x=>x))))
 cases t with
 | false=>exact wpAny_pure h₄
 | true=>
  show wpAny M A (do
   let rv ←holding [b] (eval r' env)
   standAt pos
   let c ←operate [b,rv] (compareOp o' b rv)
   holding [c] (truthy c)) Q E s₄
  exact wpAny_bind (wpAny_holding (wpAny_mono h₄ (fun d s₅ h₅=>wpAny_bind (wpAny_standAt (wpAny_bind (Bo (wpAny_mono h₅ (fun c s₆ h₆=>wpAny_holding h₆) fun _ _ x=>x))))) fun _ _ x=>x))
end
section
variable {C:Glo}{F:Fm}{X:XM}{c:Cx}{n:Nat}
theorem pE {op op':Cmp}{a b d:ME}{e:Expr}(hc:aP c (.cmp2 op op' a b d) e=true):∃l r r' p,e=.Compare l [g9 op,g9 op'] [r,r'] p∧okX r'=true∧aP c a l=true∧aP c b r=true∧aP c d r'=true:=by
 replace hc:=ae hc
 obtain ⟨⟨l,os,rs⟩,hxx,hc⟩:=hc
 replace hc:=ae hc
 obtain ⟨⟨o,o'⟩,ho,hc⟩:=hc
 replace hc:=ae hc
 obtain ⟨⟨r,r'⟩,hr,hc⟩:=hc
 cases nR ho
 cases nR hr
 obtain ⟨p,rfl⟩:=iO hxx
 simp only [Bool.and_eq_true,beq_iff_eq] at hc
 obtain ⟨⟨⟨⟨⟨⟨rfl,rfl⟩,hx⟩,hx'⟩,ha⟩,hb⟩,hd⟩:=hc
 exact ⟨l,r,r',p,rfl,hx',ha,hb,hd⟩
theorem lQ (G:GOk C) (cx:ay C c F n) {op op':Cmp}{a b d:ME}(ia:SV C X n c F a) (ib:SV C X n c F b) (id':SV C X n c F d) {l r r':Expr}(ha:aP c a l=true) (hb:aP c b r=true) (hd:aP c d r'=true) {P:Bool→MS→Prop}{m:MS}{s:Shared}{ρ:List Addr}(R:Rel C F ρ m s)
  (h:wpE (Call C) n a (fun x m=>wpE (Call C) n b (fun y m=>jS op x y (fun t m=>match t with
   | true=>wpE (Call C) n d (fun z m=>jS op' y z P m) X m
   | false=>P false m) m) X m) X m) {Q Q':Value→Shared→Prop} (k:∀b ρ' m' s',ax F.W ρ s ρ' s'→Rel C F ρ' m' s'→P b m'→Q (.bool b) s') (k':∀ρ' m' s',ax F.W ρ s ρ' s'→Rel C F ρ' m' s'→P false m'→Q' (.bool false) s') :
  wpAny (mod C) F.A (eval l F.env) (fun v s₁=>wpAny (mod C) F.A (eval r F.env) (fun w s₂=>wpAny (mod C) F.A (compareOp (g9 op) v w) (fun q s₃=>wpAny (mod C) F.A (truthy q) (fun t s₄=>match t with
   | true=>wpAny (mod C) F.A (eval r' F.env) (fun u s₅=>wpAny (mod C) F.A (compareOp (g9 op') w u) Q (Er C F X ρ s) s₅) (Er C F X ρ s) s₄
   | false=>Q' q s₄) (Er C F X ρ s) s₃) (Er C F X ρ s) s₂) (Er C F X ρ s) s₁) (Er C F X ρ s) s:=by
 refine (ia l ha _ m h).go R (.refl _ _ _) fun ρ₁ s₁ m₁ x v st t1 R₁ rx h₁=>?_
 refine (ib r hb _ m₁ h₁).go R₁ t1 fun ρ₂ s₂ m₂ y w st' t2 R₂ ry h₂=>?_
 refine oc G cx cx.u R₂ t2 (rx.step st') ry h₂ fun t ρ₃ m₃ s₃ st3 t3 R₃ hq=>wpAny_truthy_bool ?_
 cases t with
 | false=>exact k' ρ₃ m₃ s₃ t3 R₃ hq
 | true=>
  refine (id' r' hd _ m₃ hq).go R₃ t3 fun ρ₄ s₄ m₄ z u st4 t4 R₄ rz h₄=>?_
  exact oc G cx cx.u R₄ t4 ((ry.step st3).step st4) rz h₄ fun b ρ' m' s' _ st R' hq=>k b ρ' m' s' st R' hq
theorem zK (G:GOk C) (cx:ay C c F n) {op op':Cmp}{a b d:ME}(ia:SV C X n c F a) (ib:SV C X n c F b) (id':SV C X n c F d):SV C X n c F (.cmp2 op op' a b d):=by
 intro e hc Q m h
 obtain ⟨l,r,r',p,rfl,hx',ha,hb,hd⟩:=pE hc
 intro s ρ R
 exact pD (gF hx' _) (lQ G cx ia ib id' (P:=fun b m=>Q (.bool b) m) ha hb hd R h (fun b ρ' m' s' st R' hq=>⟨_,_,_,st,R',.bool b,hq⟩) fun ρ' m' s' st R' hq=>⟨_,_,_,st,R',.bool _,hq⟩)
theorem zL (G:GOk C) (cx:ay C c F n) {op op':Cmp}{a b d:ME}(ia:SV C X n c F a) (ib:SV C X n c F b) (id':SV C X n c F d):ST C X n c F (.cmp2 op op' a b d):=by
 intro e hc Q m h
 obtain ⟨l,r,r',p,rfl,hx',ha,hb,hd⟩:=pE hc
 intro s ρ R
 exact wO (gF hx' _) (lQ G cx ia ib id' (P:=Q) (Q':=fun _ s'=>Cr C F ρ s Q false s') ha hb hd R h (fun b ρ' m' s' st R' hq=>wpAny_truthy_bool ⟨_,_,st,R',hq⟩) fun ρ' m' s' st R' hq=>⟨_,_,st,R',hq⟩)
end
end Internal
end
section
namespace Internal
open PySem PyProof.Rows
section
variable {C:Glo}{F:Fm}{X:XM}{c:Cx}{n:Nat}{ρ ρ' ρ₀:List Addr}{m:MS}{s s' s₀:Shared}{A:Around}{E:Value→Shared→Prop}
theorem np {i:Nat}{t:List Nat}{xs:List Expr}(h:dB c (i::t) xs=true):∃x p r,xs=.Name x p::r∧c.nm i=some x∧mY c x=true∧dB c t r=true:=by
 cases xs with
 | nil=>exact ff h
 | cons e r=>
  obtain ⟨h1,h2⟩:=Bool.and_eq_true_iff.mp h
  replace h1:=ae h1
  obtain ⟨x,hx,h1⟩:=h1
  obtain ⟨p,rfl⟩:=cg hx
  simp only [Bool.and_eq_true,beq_iff_eq] at h1
  exact ⟨x,p,r,rfl,h1.1,h1.2,h2⟩
theorem pF (cx:ay C c F n) {Q:MS→Prop}:∀(t:List Nat) (elts:List Expr) (xs:List MV) (vs:List Value) (m:MS) (s:Shared),dB c t elts=true→t.length=xs.length→aG C ρ s.heap xs vs→Rel C F ρ m s→Q (kQ t xs m)→
  wpAny (mod C) A (assignInOrder ((assignEach elts F.env).map (·.2)) vs) (fun _ s'=>∃m',ax F.W ρ s ρ s'∧Rel C F ρ m' s'∧Q m') E s
 | [],elts,xs,vs,m,s,h,hl,hr,R,hq=>by
  cases elts with
  | nil=>
   cases hr with
   | nil=>exact wpAny_pure ⟨m,.refl _ _ _,R,hq⟩
   | cons=>cases hl
  | cons=>exact ff h
 | i::t,elts,xs,vs,m,s,h,hl,hr,R,hq=>by
  obtain ⟨x,p,r,rfl,h1,h2,h3⟩:=np h
  cases hr with
  | nil=>cases hl
  | @cons x' v' xs' vs' ra rl=>
   refine wpAny_bind (wpAny_holding ?_)
   refine PyProof.Rows.assign_Name (gL cx R h1 (iU h2) ra fun s₁ st R₁=>?_)
   exact wpAny_mono (pF cx t r xs' vs' _ s₁ h3 (Nat.succ.inj hl) (rl.step st) R₁ hq) (fun _ s₂ ⟨m',st2,R₂,q⟩=>⟨m',st.trans st2,R₂,q⟩) fun _ _ x=>x
theorem fQ (env:Env):∀(t:List Nat) (elts:List Expr),dB c t elts=true→(assignEach elts env).length=t.length∧(assignEach elts env).findIdx? (·.1)=none
 | [],elts,h=>by
  cases elts with
  | nil=>exact ⟨rfl,rfl⟩
  | cons=>exact ff h
 | i::t,elts,h=>by
  obtain ⟨x,p,r,rfl,_,_,h3⟩:=np h
  obtain ⟨h1,h2⟩:=fQ env t r h3
  refine ⟨congrArg (·+1) h1,?_⟩
  show List.findIdx? (·.1) ((false,_)::assignEach r env)=none
  rw [List.findIdx?_cons,h2];rfl
theorem jD (cx:ay C c F n) {Q:MS→Prop}{t:List Nat}{many:Bool}{e:Expr}(h:n5 c t many e=true) {x:MV}{v:Value}(hr:Rep C ρ s.heap x v) (R:Rel C F ρ m s) (hq:asg t many x Q m) (hA:many=true→A.handled=none) :
  wpAny (mod C) A (assign e F.env v) (fun _ s'=>∃m',ax F.W ρ s ρ s'∧Rel C F ρ m' s'∧Q m') E s:=by
 cases many with
 | false=>
  obtain ⟨i,y,p,rfl,rfl,h1,h2⟩:=pk h
  exact PyProof.Rows.assign_Name (gL cx R h1 (iU h2) hr fun s₁ st R₁=>⟨_,st,R₁,hq⟩)
 | true=>
  replace h:=gN h
  obtain ⟨elts,k,p,rfl,h⟩:=h
  cases x with
  | tup xs=>
   have hq:t.length=xs.length∧Q (kQ t xs m):=hq
   cases hr with | @tup a k _ items g rl z=>
   obtain ⟨e1,e2⟩:=fQ F.env _ _ h
   refine wpAny_assign_Tuple (hA rfl) ⟨_,g,rfl,_,rfl⟩ (by rw [e1,hq.1,List.size_toArray,rl.length]) e2 fun h' he=>?_
   have hk:∀b o,s.heap.get? b=some o→h'.get? b=some o:=fun b o eb=>he b o (fun q=>by rw [q,bo (Nat.le_refl _)] at eb;exact aB eb) eb
   obtain ⟨R',st⟩:=R.grow (s':={ s with heap:=h' }) cx.fm hk rfl rfl
   exact wpAny_mono (pF cx _ _ _ _ m { s with heap:=h' } h hq.1 (rl.step st) R' hq.2) (fun _ s₂ ⟨m',st2,R₂,q⟩=>⟨m',st.trans st2,R₂,q⟩) fun _ _ x=>x
  | _=>exact (show False from hq).elim
end
end Internal
end
section
namespace Internal
open PySem PyProof.Rows
section
variable {W W' S:List Addr}{ρ ρ' ρ₂:List Addr}{s s' s₂:Shared}
theorem ax.mono (hW:∀a∈W,a∈W') (x:ax W ρ s ρ' s'):ax W' ρ s ρ' s':=
 ⟨x.pre,x.new,fun a o e h1 h2=>x.keep a o e h1 fun q=>h2 (hW a q),x.solid,x.alive,x.gens,x.os⟩
theorem ax.ofSide (sd:fN S s s') (hS:∀a∈S,a∈W) (h1:∀a∈S,Shp s.heap a) (h2:∀a∈S,Shp s'.heap a):ax W ρ s ρ s':=
 ⟨List.prefix_refl _,fun _ h=>.inl h,fun a o e _ h=>.inl (sd.1 a o (fun q=>h (hS a q)) e),dC h1 sd,fun a o e=>by
  by_cases q:a∈S
  ·obtain ⟨o',e',_⟩:=h2 a q;exact ⟨o',e'⟩
  ·exact ⟨o,sd.1 a o q e⟩,sd.2.1,sd.2.2⟩
theorem ax.behind (x:ax W ρ s ρ₂ s₂) (y:ax W' ρ₂ s₂ ρ' s') (h:∀a∈W',s.heap.get? a=none):ax W ρ s ρ' s' where
 pre:=x.pre.trans y.pre
 new:=fun a h=>(y.new a h).elim (fun h=>x.new a h) fun h=>.inr (cX x h)
 keep:=fun a o e h1 h2=>by
  have hw:a∉W':=fun q=>by rw [h a q] at e;cases e
  have h1':a∉ρ₂:=fun h=>(x.new a h).elim h1 fun h=>by rw [h] at e;cases e
  rcases x.keep a o e h1 h2 with e1 | ⟨hc,sl,e1⟩
  ·exact y.keep a o e1 h1' hw
  ·rcases y.keep a _ e1 h1' hw with e2 | ⟨_,sl2,e2⟩
   ·exact .inr ⟨hc,sl,e2⟩
   ·exact .inr ⟨hc,sl2,e2⟩
 solid:=fun a o e h=>y.solid a o (x.solid a o e h) h
 alive:=fun a o e=>let ⟨o',e'⟩:=x.alive a o e;y.alive a o' e'
 gens:=y.gens.trans x.gens
 os:=y.os.trans x.os
end
noncomputable def eO (F:Fm) (sc:Scope) (cl:List (Str × Addr)) (t:List Nat) (tn:List Str) (L:Addr):Fm where
 env:=compEnvC sc cl L F.env
 A:=F.A
 W:=[L]
 V:=F.W++F.V
 lay:=fun i=>match (t.zip tn).lookup i with
  | some x=>some (.nm L x)
  | none=>F.lay i
 frs:=F.frs
structure lR (c:Cx) (sc:Scope) (t:List Nat) (tn:List Str):Prop where
 kind:sc.kind=.function
 cell:∀p∈sc.names,p.2≠.cell
 loc:∀p∈sc.names,p.2=.local→sc.names.lookup p.1=some .local
 free:∀p∈sc.names,p.2=.free→(∃i,c.nm i=some p.1)∧c.kind p.1≠some .local∧cdc p.1=false
 len:t.length=tn.length
 nodup:t.Nodup
 nodup':tn.Nodup
 fr:∀i∈t,c.fr i=true
 tn:∀x∈tn,sc.names.lookup x=some .local
theorem t5 {c:Cx}{sc:Scope}{t:List Nat}{tn:List Str}(h:n6 c sc t tn=true):lR c sc t tn:=by
 simp only [n6,Bool.and_eq_true,beq_iff_eq,decide_eq_true_eq,List.all_eq_true] at h
 obtain ⟨⟨⟨⟨⟨⟨h1,h2⟩,h3⟩,h4⟩,h5⟩,h6⟩,h7⟩:=h
 refine ⟨h1,fun p hp=>?_,fun p hp e=>?_,fun p hp e=>?_,h3,h4,h5,h6,h7⟩
 ·have:=(h2 p hp).1.1;simpa using this
 ·have:=(h2 p hp).1.2
  rw [e] at this;simpa using this
 ·have:=(h2 p hp).2
  rw [e] at this
  simp only [bne_self_eq_false,Bool.false_or,wc,Bool.and_eq_true,List.any_eq_true,beq_iff_eq,bne_iff_ne,Bool.not_eq_true'] at this
  obtain ⟨⟨⟨i,_,e1⟩,e2⟩,e3⟩:=this
  exact ⟨⟨i,e1⟩,e2,e3⟩
set_option tactic.hygienic true in
theorem qS {α β:Type} [BEq α] [LawfulBEq α]:∀{l:List (α × β)}{a:α}{b:β},l.lookup a=some b→(a,b)∈l
 | [],_,_,h=>by cases h
 | (x,y)::r,a,b,h=>by
  rw [List.lookup_cons] at h
  split at h
  ·rename_i q;cases h;have:a=x:=by simpa using q
   subst this;exact List.mem_cons_self ..
  ·exact List.mem_cons_of_mem _ (qS h)
theorem iZ {t:List Nat}{tn:List Str}{i:Nat}{x:Str}(h:(t.zip tn).lookup i=some x):i∈t∧x∈tn∧∃k:Nat,t[k]?=some i∧tn[k]?=some x:=by
 have hm:=qS h
 refine ⟨(List.of_mem_zip hm).1,(List.of_mem_zip hm).2,?_⟩
 obtain ⟨k,hk⟩:=List.getElem?_of_mem hm
 exact ⟨k,(List.getElem?_zip_eq_some.mp hk).1,(List.getElem?_zip_eq_some.mp hk).2⟩
theorem zM {t:List Nat}{tn:List Str}(hn:tn.Nodup) {i j:Nat}{x:Str}(h1:(t.zip tn).lookup i=some x) (h2:(t.zip tn).lookup j=some x):i=j:=by
 obtain ⟨_,_,k,a1,a2⟩:=iZ h1
 obtain ⟨_,_,l,b1,b2⟩:=iZ h2
 have q1:=List.getElem?_eq_some_iff.mp a2
 have q2:=List.getElem?_eq_some_iff.mp b2
 have:k=l:=(List.getElem_inj hn).mp (q1.2.trans q2.2.symm)
 subst this
 rw [a1] at b1;cases b1;rfl
theorem wQ:∀{t:List Nat}{tn:List Str},t.length=tn.length→∀{i:Nat},i∈t→∃x,(t.zip tn).lookup i=some x
 | [],_,_,_,h=>by cases h
 | _::_,[],h,_,_=>by cases h
 | a::t,x::tn,hl,i,h=>by
  simp only [List.zip_cons_cons,List.lookup_cons]
  by_cases e:i=a
  ·subst e;exact ⟨x,by simp⟩
  ·rcases List.mem_cons.mp h with q | q
   ·exact absurd q e
   ·obtain ⟨y,hy⟩:=wQ (by simpa using hl) q
    exact ⟨y,by rw [show (i==a)=false by simpa using e];exact hy⟩
theorem fi {kind:Str→Option NameKind}:∀{names:List (Str × NameKind)}{x:Str}{k:NameKind},names.lookup x=some k→(lD kind names).lookup x=some (if (k==.free&&kind x==some .cell) then .cell else k)
 | [],_,_,h=>by cases h
 | (y,k')::r,x,k,h=>by
  have ih:=@fi kind r x k
  show List.lookup x ((if (k'==.free&&kind y==some .cell) then (y,NameKind.cell) else (y,k'))::lD kind r)=_
  by_cases e:x=y
  ·subst e
   simp only [List.lookup_cons,beq_self_eq_true] at h
   obtain rfl:k'=k:=Option.some.inj h
   by_cases q:(k'==NameKind.free&&kind x==some .cell)=true
   ·rw [if_pos q,if_pos q];simp [List.lookup_cons]
   ·rw [if_neg q,if_neg q];simp [List.lookup_cons]
  ·have e':(x==y)=false:=by simpa using e
   simp only [List.lookup_cons,e'] at h
   by_cases q:(k'==NameKind.free&&kind y==some .cell)=true
   ·rw [if_pos q];simp only [List.lookup_cons,e'];exact ih h
   ·rw [if_neg q];simp only [List.lookup_cons,e'];exact ih h
theorem lS {env:Env}{kind:Str→Option NameKind}(h:∀x,env.kindOf x=kind x) (hk:env.scope.kind=.function) (sc:Scope):(relabel sc env).names=lD kind sc.names:=by
 unfold relabel lD
 simp only [hk,h,beq_self_eq_true,Bool.and_true]
set_option tactic.hygienic true in
theorem fj {env:Env}{f:Str × NameKind→List (Str × Addr)→Sem (ForInStep (List (Str × Addr)))}(h1:∀x a acc,env.cells.lookup x=some a→f (x,.free) acc=pure (.yield ((x,a)::acc)))
  (h2:∀x k acc,k≠.free→f (x,k) acc=pure (.yield acc)):∀(names:List (Str × NameKind)) (acc:List (Str × Addr)),(∀p∈names,p.2=.free→∃a,env.cells.lookup p.1=some a)→(∀y b,acc.lookup y=some b→env.cells.lookup y=some b)→
   ∃cl,forIn names acc f=pure cl∧(∀y b,cl.lookup y=some b→env.cells.lookup y=some b)∧(∀y,(acc.lookup y).isSome→(cl.lookup y).isSome)∧∀y,(y,NameKind.free)∈names→(cl.lookup y).isSome
 | [],acc,_,ha=>⟨acc,rfl,ha,fun _ h=>h,fun _ h=>by cases h⟩
 | (x,k)::r,acc,hn,ha=>by
  have hr:∀p∈r,p.2=.free→∃a,env.cells.lookup p.1=some a:=fun p hp=>hn p (List.mem_cons_of_mem _ hp)
  by_cases hk:k=.free
  ·subst hk
   obtain ⟨a,e⟩:=hn (x,.free) (List.mem_cons_self ..) rfl
   have ha':∀y b,((x,a)::acc).lookup y=some b→env.cells.lookup y=some b:=fun y b q=>by
    simp only [List.lookup_cons] at q
    split at q
    ·rename_i q';cases q;have:y=x:=by simpa using q'
     subst this;exact e
    ·exact ha y b q
   obtain ⟨cl,c1,c2,c3,c4⟩:=fj h1 h2 r ((x,a)::acc) hr ha'
   have hx:(((x,a)::acc).lookup x).isSome:=by simp [List.lookup_cons]
   refine ⟨cl,?_,c2,fun y hy=>c3 y ?_,fun y hy=>?_⟩
   ·rw [List.forIn_cons,h1 x a acc e];exact c1
   ·simp only [List.lookup_cons];split
    ·rfl
    ·exact hy
   ·rcases List.mem_cons.mp hy with q | q
    ·cases q;exact c3 _ hx
    ·exact c4 y q
  ·obtain ⟨cl,c1,c2,c3,c4⟩:=fj h1 h2 r acc hr ha
   refine ⟨cl,?_,c2,c3,fun y hy=>?_⟩
   ·rw [List.forIn_cons,h2 x k acc hk];exact c1
   ·rcases List.mem_cons.mp hy with q | q
    ·cases q;exact absurd rfl hk
    ·exact c4 y q
theorem qT {env:Env}{sc:Scope}(h:∀p∈sc.names,p.2=.free→∃a,env.cells.lookup p.1=some a):∃cl,closureFor sc env=pure cl∧∀x a,(x,NameKind.free)∈sc.names→env.cells.lookup x=some a→cl.lookup x=some a:=by
 obtain ⟨cl,c1,c2,_,c4⟩:=fj (env:=env) (f:=fun p cs=>if p.2==.free then do let r ←cellOf env p.1;pure (ForInStep.yield ((p.1,r)::cs)) else pure (ForInStep.yield cs))
  (fun x a acc e=>by simp [cellOf,e]) (fun x k acc hk=>by simp [hk]) sc.names [] h (fun y b q=>by cases q)
 refine ⟨cl,?_,fun x a hx e=>?_⟩
 ·unfold closureFor
  refine Eq.trans ?_ (congrArg (· >>= pure) c1)
  rfl
 ·obtain ⟨b,hb⟩:=Option.isSome_iff_exists.mp (c4 x hx)
  have:=c2 x b hb
  rw [e] at this;cases this;exact hb
section
variable {C:Glo}{F:Fm}{X:XM}{c:Cx}{n:Nat}{ρ ρ' ρ₀:List Addr}{m:MS}{s s' s₀:Shared}{sc:Scope}{cl:List (Str × Addr)}{t:List Nat}{tn:List Str}{L:Addr}
set_option tactic.hygienic true in
theorem wR (cx:ay C c F n) (h:lR c sc t tn) (hL:L∉F.W++F.V):aV (eO F sc cl t tn L) where
 loc:=List.mem_singleton.mpr rfl
 lay:=fun i l e=>by
  simp only [eO] at e ⊢
  split at e
  ·cases e;exact List.mem_append_left _ (List.mem_singleton.mpr rfl)
  ·exact List.mem_append_right _ (cx.fm.lay i l e)
 inj:=fun i j l e1 e2=>by
  simp only [eO] at e1 e2
  split at e1
  ·rename_i x hx
   cases e1
   split at e2
   ·rename_i y hy;cases e2;exact zM h.nodup' hx hy
   ·exact absurd (cx.fm.lay j _ e2) hL
  ·split at e2
   ·rename_i y hy;cases e2;exact absurd (cx.fm.lay i _ e1) hL
   ·exact cx.fm.inj i j l e1 e2
 kind:=by show (relabel sc F.env).kind=.function;exact h.kind
 frs:=cx.fm.frs
theorem t6 (cx:ay C c F n) (h:lR c sc t tn):∀p∈sc.names,p.2=.free→∃a,F.env.cells.lookup p.1=some a:=fun p hp e=>by
 obtain ⟨⟨i,h1⟩,h2,_⟩:=h.free p hp e
 rcases cx.nm i _ h1 with ⟨q,_⟩ | ⟨a,_,q,_⟩
 ·rw [cx.kind] at q;exact absurd q h2
 ·exact ⟨a,q⟩
set_option tactic.hygienic true in
theorem wU (cx:ay C c F n) (h:lR c sc t tn) (hL:L∉F.W++F.V) (hcl:∀x a,(x,NameKind.free)∈sc.names→F.env.cells.lookup x=some a→cl.lookup x=some a):ay C (eI c sc t tn) (eO F sc cl t tn L) n where
 fm:=wR cx h hL
 kind:=fun x=>by
  show (relabel sc F.env).names.lookup x=(lD c.kind sc.names).lookup x
  rw [lS cx.kind cx.fm.kind]
 nm:=fun i x e=>by
  have hkk:∀x,(eO F sc cl t tn L).env.kindOf x=(lD c.kind sc.names).lookup x:=fun x=>by
   show (relabel sc F.env).names.lookup x=_
   rw [lS cx.kind cx.fm.kind]
  simp only [eI] at e
  split at e
  ·rename_i y hy
   cases e
   refine .inl ⟨?_,?_⟩
   ·rw [hkk,fi (h.tn x (iZ hy).2.1)];rfl
   ·simp only [eO,hy];rfl
  ·rename_i hy
   unfold Bh at e
   split at e
   ·rename_i y hy'
    split at e
    ·rename_i hf
     cases e
     have hf:sc.names.lookup x=some .free:=by simpa using hf
     have hm:=qS hf
     obtain ⟨_,k2,k3⟩:=h.free _ hm rfl
     rcases cx.nm i x hy' with ⟨q,_⟩ | ⟨a,q1,q2,q3⟩
     ·rw [cx.kind] at q;exact absurd q k2
     ·refine .inr ⟨a,?_,hcl x a hm q2,by simp only [eO,hy];exact q3⟩
      rw [hkk,fi hf]
      by_cases e:c.kind x=some .cell
      ·exact .inl (by simp [e])
      ·exact .inr ⟨by simp [e],k3⟩
    ·cases e
   ·cases e
 glob:=cx.glob
 meth:=cx.meth
 attr:=cx.attr
 hn:=cx.hn
 hf:=cx.hf
 units:=cx.units
 room:=cx.room
 inter:=by
  show interactive (compEnvC sc cl L F.env)=false
  unfold interactive
  show ((relabel sc F.env).kind==_&&_)=false
  rw [show (relabel sc F.env).kind=ScopeKind.function from h.kind];rfl
 wr:=fun i a _ e=>by cases e
 fr:=fun i e=>by
  simp only [eI,Bool.and_eq_true,Bool.not_eq_true'] at e
  simp only [eO]
  split
  ·rename_i x hx
   have:=(iZ hx).1
   have e2:=e.2
   rw [List.contains_eq_mem] at e2
   simp [this] at e2
  ·exact cx.fr i e.1
set_option tactic.hygienic true in
theorem C9 (cx:ay C c F n) (R:Rel C F ρ m s) (h:lR c sc t tn) (hk:∀a o,s.heap.get? a=some o→s'.heap.get? a=some o) (hg:s'.gens=s.gens) (hL:s.heap.get? L=none) (hns:∃f,s'.heap.Ns L f):Rel C (eO F sc cl t tn L) ρ m s' where
 hp:=R.hp.up (fun a o e _=>hk a o e) (fun a _ o e=>hk a o e) fun b o e=>hk b o (R.hp.base b o e)
 ns:=hns
 w:=fun a ha=>by
  have ha:a∈[L]++(F.W++F.V):=ha
  rcases List.mem_append.mp ha with q | q
  ·have:a=L:=by simpa using q
   subst this
   refine ⟨fun q=>?_,bT R.hp hL,?_⟩
   ·obtain ⟨o,e⟩:=R.hp.there q;rw [hL] at e;cases e
   ·obtain ⟨f,o,es,ep,e1,e2,_⟩:=hns
    exact ⟨o,e1,.inl ⟨es,ep,e2⟩⟩
  ·obtain ⟨h1,h2,o,h3,h4⟩:=R.w a q
   exact ⟨h1,h2,o,hk a o h3,h4⟩
 vars:=fun i v e=>by
  obtain ⟨l,h1,h2⟩:=R.vars i v e
  refine ⟨l,?_,h2.up (fun a o e _=>hk a o e) (List.prefix_refl _) (fun o e=>⟨o,hk _ o e,rfl,rfl⟩)⟩
  simp only [eO]
  split
  ·rename_i x hx
   rw [cx.fr i (h.fr i (iZ hx).1)] at h1;cases h1
  ·exact h1
 cells:=fun i a e=>by
  simp only [eO] at e
  split at e
  ·cases e
  ·obtain ⟨v,o,h1,h2⟩:=R.cells i a e
   exact ⟨v,o,hk a o h1,h2⟩
 out:=fun L hL=>by
  obtain ⟨h1,h2,o,h3,h4⟩:=R.out L hL
  exact ⟨h1,h2,o,hk L o h3,h4⟩
 gens:=hg.trans R.gens
end
end Internal
end
section
namespace Internal
open PySem PyProof.Rows
section
variable {C:Glo}{F:Fm}{X:XM}{c:Cx}{n:Nat}{ρ ρ' ρ₀:List Addr}{m:MS}{s s' s₀:Shared}{A:Around}
theorem qU {elt target iter:Expr}{ifs:List Expr}{scope:Scope}{pos:Pos}{it acc:Value}{env:Env}{R:Result→Shared→Prop}(I:Nat→Shared→Prop)
  (turn:∀k s,I k s→wpAny (mod C) A (pyNext it) (fun r s₁=>match r with
   | none=>R (.ok .next) s₁
   | some v=>wpAny (mod C) A (letOwnedTupleGo target it v) (fun _ s₂=>wpAny (mod C) A (assign target env v) (fun _ s₃=>
     wpAny (mod C) A (forIn ifs true fun c r=>if r=true then do let ok ←isTrue c env (eval c env);pure (ForInStep.yield ok) else pure (ForInStep.yield r)) (fun ok s₄=>
      match ok with
      | true=>wpAny (mod C) A (eval elt env) (fun x s₅=>wpAny (mod C) A (call (.builtin "list.append") [acc,x]) (fun _ s₆=>∃j,j<k∧I j s₆) (fun _ _=>False) s₅) (fun _ _=>False) s₄
      | false=>∃j,j<k∧I j s₄) (fun _ _=>False) s₃) (fun _ _=>False) s₂) (fun _ _=>False) s₁) (fun _ _=>False) s)
  (k:Nat) (h:I k s):codeAny (mod C) A (.compLoop (.ListComp elt [⟨target,iter,ifs,0⟩] scope pos) 0 it acc env) R s:=by
 refine codeAny_loop rfl I (fun k s hI=>?_) k h
 show wpAny _ A ((compTurn (.ListComp elt [⟨target,iter,ifs,0⟩] scope pos) 0 it acc env).onRaise (fun x=>do noteFrame x env;theTreesLotGoes x)) _ _ s
 refine wpAny_noted ?_
 rw [compTurn_list]
 refine wpAny_bind (wpAny_standAt (wpAny_bind (wpAny_mono (turn k s hI) (fun r s₁ h₁=>?_) fun _ _ h'=>h'.elim)))
 cases r with
 | none=>exact wpAny_pure h₁
 | some v=>
  refine wpAny_bind (wpAny_mono h₁ (fun _ s₂ h₂=>wpAny_bind (wpAny_mono h₂ (fun _ s₃ h₃=>wpAny_bind (wpAny_mono h₃ (fun ok s₄ h₄=>?_) fun _ _ h'=>h'.elim)) fun _ _ h'=>h'.elim)) fun _ _ h'=>h'.elim)
  cases ok with
  | false=>exact wpAny_pure ⟨rfl,h₄⟩
  | true=>exact wpAny_bind (wpAny_bind (wpAny_mono h₄ (fun x s₅ h₅=>wpAny_bind (wpAny_mono h₅ (fun _ s₆ h₆=>wpAny_pure (wpAny_pure ⟨rfl,h₆⟩)) fun _ _ h'=>h'.elim)) fun _ _ h'=>h'.elim))
theorem wV (cx:ay C c F n):∀{ifs:List ME},(∀a∈ifs,ST C X n c F a)→∀(xs:List Expr),bp c ifs xs=true→∀(Q:Bool→MS→Prop) (m:MS),o4 (Call C) n ifs Q X m→
  WPt C F X (forIn xs true fun c r=>if r=true then do let ok ←isTrue c F.env (eval c F.env);pure (ForInStep.yield ok) else pure (ForInStep.yield r)) Q m
 | [],ih,xs,hc,Q,m,h=>by
  cases xs with
  | nil=>intro s ρ R;exact wpAny_pure ⟨_,_,.refl _ _ _,R,h⟩
  | cons=>exact ff hc
 | e::es,ih,xs,hc,Q,m,h=>by
  cases xs with
  | nil=>exact ff hc
  | cons x xs=>
   replace hc:=bb hc
   intro s ρ R
   rw [List.forIn_cons]
   refine wpAny_bind ?_
   show wpAny (mod C) F.A (do let ok ←isTrue x F.env (eval x F.env);pure (ForInStep.yield ok)) _ _ _
   refine wpAny_bind ((ih e (by exact List.mem_cons_self ..) x hc.1.2 _ m h).go R (.refl _ _ _) fun ρ₁ s₁ m₁ b st t1 R₁ h₁=>wpAny_pure ?_)
   show wpAny (mod C) F.A (forIn xs b fun c r=>if r=true then do let ok ←isTrue c F.env (eval c F.env);pure (ForInStep.yield ok) else pure (ForInStep.yield r)) _ _ _
   cases b with
   | true=>exact wpAny_mono (wV cx (fun a ha=>ih a (List.mem_cons_of_mem _ ha)) xs hc.2 Q m₁ h₁ s₁ ρ₁ R₁) (fun b s' ⟨ρ',m',a,b',c'⟩=>⟨ρ',m',t1.trans a,b',c'⟩) (Er.back t1)
   | false=>
    have:∀(ys:List Expr) (P:Bool→Shared→Prop) (E:Value→Shared→Prop),P false s₁→wpAny (mod C) F.A (forIn ys false fun c r=>if r=true then do let ok ←isTrue c F.env (eval c F.env);pure (ForInStep.yield ok) else pure (ForInStep.yield r)) P E s₁:=by
     intro ys
     induction ys with
     | nil=>intro P E hp;exact wpAny_pure hp
     | cons y ys ihy=>intro P E hp;rw [List.forIn_cons];exact wpAny_bind (wpAny_pure (ihy P E hp))
    exact this xs _ _ ⟨_,_,t1,R₁,h₁⟩
termination_by structural ifs=>ifs
noncomputable def Let (C:Glo) (F:Fm) (L:Addr) (ρ₀:List Addr) (s₀:Shared) (ρ:List Addr) (s:Shared):Prop:=
 ∀ρ' m' s',ax F.W ρ s ρ' s'→Rel C F ρ' m' s'→(∃f,s'.heap.Ns L f)∧∀h',Heap.SameBut L s'.heap h'→Rel C F ρ' m' { s' with heap:=h' }∧ax F.W ρ₀ s₀ ρ' { s' with heap:=h' }∧ba s'.heap h'
theorem Da (cx:ay C c F n) {L:Addr}(st₀:ax F.W ρ₀ s₀ ρ s) (R₀:Rel C F ρ₀ m s₀) (h0:s₀.heap.get? L=none) (h1:L∉ρ) (h2:L∉F.W++F.V) (h3:∃f,s.heap.Ns L f):Let C F L ρ₀ s₀ ρ s:=by
 intro ρ' m' s' st R
 obtain ⟨f,hf⟩:=h3
 obtain ⟨o,es,ep,e1,e2,e3⟩:=id hf
 have hb:=bT R₀.hp h0
 have hL:L∉ρ':=fun q=>(st.new L q).elim h1 fun q=>by exact aO q e1
 have hd:∀o,s.heap.get? L=some o→∃o',s'.heap.get? L=some o'∧o'.data=o.data:=fun o e=>by
  rcases st.keep L o e h1 (fun q=>h2 (List.mem_append_left _ q)) with q | ⟨_,sl,q⟩
  ·exact ⟨_,q,rfl⟩
  ·exact ⟨_,q,rfl⟩
 have hf':s'.heap.Ns L f:=kr hf hd
 refine ⟨⟨f,hf'⟩,fun h' hs=>?_⟩
 obtain ⟨o',g1,g2⟩:=hd o e1
 have hw:WOk s'.heap L:=⟨o',g1,.inl ⟨es,ep,g2.trans e2⟩⟩
 have hsol:ba s'.heap h':=cq (fun b ob q e=>(hs.2 b q).trans e) (g8 hw)
 have sd:fN [L] s' { s' with heap:=h' }:=⟨fun b ob hb e=>(hs.2 b (by exact fun q=>hb (List.mem_singleton.mpr q))).trans e,rfl,rfl⟩
 refine ⟨R.side0 cx.fm hsol (fun a ha=>?_) (fun L' hL' q=>?_) sd,(st₀.trans st).side sd (fun a ha=>?_),hsol⟩
 ·have:a=L:=by exact List.mem_singleton.mp ha
  subst this;exact ⟨hL,h2,hb⟩
 ·have:L'=L:=by exact List.mem_singleton.mp q
  subst this
  obtain ⟨_,_,ob,k5,_⟩:=R₀.out _ hL'
  exact aO h0 k5
 ·have:a=L:=by exact List.mem_singleton.mp ha
  subst this;exact h0
end
end Internal
end
section
namespace Internal
open PySem PyProof.Rows
section
variable {C:Glo}{F:Fm}{X:XM}{c:Cx}{n:Nat}{ρ ρ' ρ₀:List Addr}{m:MS}{s s' s₀:Shared}{A:Around}
inductive E2 (C:Glo) (F:Fm) (W:List Addr) (items:List MV) (g:Option (Nat × List MV)) (stp:MV→(Option MV→MS→Prop)→MS→Prop) (Q:List MV→MS→Prop) (D:Addr) (S:List Addr) (It:Nat→List Addr→Shared→Prop) (ρ₀:List Addr) (s₀:Shared) (k:Nat) (s:Shared):Prop
 | mk (ρ:List Addr) (m:MS) (i:Nat) (acc:List MV) (accv:List Value) (k₁:Nat) (hk:k=items.length-i) (st:ax W ρ₀ s₀ ρ s) (R:Rel C F ρ m s) (hit:It i ρ s) (as:cS C F ρ s.heap (D::S)) (hD:s.heap.get? D=some (cR accv k₁)) (rl:aG C ρ s.heap acc accv) (hal:acc.length≤i) (hil:i≤items.length) (hf:cZ g stp Q (items.drop i) acc m)
theorem t7 {F':Fm}{c':Cx}(cx':ay C c' F' n) (hnh:c'.nh=true) {L D:Addr}(hW:F'.W=[L]) {target elt' iter:Expr}{ifs':List Expr}{elt:ME}{ifs:List ME}{t:List Nat}{many:Bool}{sc:Scope}{pos:Pos}{itv:Value}{items:List MV}{g:Option (Nat × List MV)}{S:List Addr}{It:Nat→List Addr→Shared→Prop}
  (wk:n7 C F'.A target itv items g S It) (hlen:items.length≤line) (helt:SV C noX n c' F' elt) (hce:aP c' elt elt'=true) (hifs:∀a∈ifs,ST C noX n c' F' a) (hci:bp c' ifs ifs'=true) (ht:n5 c' t many target=true)
  {stp:MV→(Option MV→MS→Prop)→MS→Prop}(hstp:∀v P m,stp v P m→asg t many v (fun m=>o4 (Call C) n ifs (fun b m=>match b with
    | true=>wpE (Call C) n elt (fun x m=>P (some x) m) noX m
    | false=>P none m) noX m) m)
  {Q:List MV→MS→Prop}(R:Rel C F' ρ m s) (h0:It 0 ρ s) (as:cS C F' ρ s.heap (D::S)) (hDS:D∉S) {k₀:Nat}(hD:s.heap.get? D=some (cR [] k₀))
  (h:cZ g stp Q items [] m)
  {RR:Result→Shared→Prop}(hk:∀ρ' m' s₁ s' acc accv k,ax (L::D::S) ρ s ρ' s₁→fN S s₁ s'→ba s₁.heap s'.heap→Rel C F' ρ' m' s'→s'.heap.get? D=some (cR accv k)→aG C ρ' s'.heap acc accv→acc.length≤line→Q acc m'→RR (.ok .next) s') :
  codeAny (mod C) F'.A (.compLoop (.ListComp elt' [⟨target,iter,ifs',0⟩] sc pos) 0 itv (.ref D) F'.env) RR s:=by
 have hn:=cx'.hn hnh
 refine qU (E2 C F' (L::D::S) items g stp Q D S It ρ s) (fun k s₁ hI=>?_) _ ⟨ρ,m,0,[],[],k₀,rfl,.refl _ _ _,R,h0,as,hD,.nil,Nat.le_refl _,Nat.zero_le _,by exact h⟩
 obtain ⟨ρ₁,m₁,i,acc,accv,k₁,rfl,st₁,R₁,hit,as₁,hD₁,rl,hal,hil,hf⟩:=hI
 have hsub:∀a∈S,a∈L::D::S:=fun a ha=>List.mem_cons_of_mem _ (List.mem_cons_of_mem _ ha)
 have hsubD:∀a∈[D],a∈L::D::S:=fun a ha=>by
  have:a=D:=by exact List.mem_singleton.mp ha
  subst this;exact List.mem_cons_of_mem _ (List.mem_cons_self ..)
 have hsubL:∀a∈F'.W,a∈L::D::S:=fun a ha=>by
  rw [hW] at ha
  have:a=L:=by exact List.mem_singleton.mp ha
  subst this;exact List.mem_cons_self ..
 have asS:cS C F' ρ₁ s₁.heap S:=fun a ha=>as₁ a (List.mem_cons_of_mem _ ha)
 cases e:items[i]? with
 | none=>
  have hd:items.drop i=[]:=by rw [List.drop_eq_nil_iff];exact List.getElem?_eq_none_iff.mp e
  rw [hd,jy] at hf
  obtain ⟨hg,hq⟩:=hf
  refine wpAny_mono (wk.done i ρ₁ m₁.heap s₁ R₁.hp hg hit e (fun _ _=>False) (fun s₂=>fN S s₁ s₂) fun s₂ sd=>sd) (fun r s₂ ⟨hr,sd⟩=>?_) fun _ _ x=>x.elim
  subst hr
  have hsol:=asS.solids sd
  exact hk ρ₁ m₁ s₁ s₂ acc accv k₁ st₁ sd hsol (R₁.side cx'.fm asS sd) (sd.1 D _ hDS hD₁) (rl.up hsol (List.prefix_refl _)) (Nat.le_trans hal (Nat.le_trans hil hlen)) hq
 | some x=>
  obtain ⟨hlt,hx⟩:=List.getElem?_eq_some_iff.mp e
  rw [List.drop_eq_getElem_cons hlt,hx,fe] at hf
  obtain ⟨hg,hq⟩:=hf
  refine wk.item i ρ₁ m₁.heap s₁ x R₁.hp hg hit e _ _ _ fun v s₂ sd hit' rv=>?_
  have hsol:=asS.solids sd
  have R₂:=R₁.side cx'.fm asS sd
  have sh₂:=wk.shape _ _ _ hit'
  have hD₂:=sd.1 D _ hDS hD₁
  have as₂:cS C F' ρ₁ s₂.heap (D::S):=as₁.shape fun a ha=>by
   rcases List.mem_cons.mp ha with rfl | ha
   ·exact cH hD₂ rfl (by decide) (fun ⟨_,_,q⟩=>by cases q) a (by exact List.mem_singleton.mpr rfl)
   ·exact sh₂ a ha
  have rl₂:=rl.up hsol (List.prefix_refl _)
  have st₂:=st₁.trans (ax.ofSide sd hsub (fun a ha=>(asS a ha).2.2.2) sh₂)
  refine wpAny_mono (jD cx' ht rv R₂ (hstp _ _ _ hq) fun _=>hn) (fun _ s₃ h₃=>?_) fun _ _ x=>x
  obtain ⟨m₃,st₃,R₃,hq₃⟩:=h₃
  refine wpAny_mono ((wV cx' hifs ifs' hci _ m₃ hq₃).go R₃ st₃ fun ρ₄ s₄ m₄ b st₄ t₄ R₄ h₄=>?_) (fun b s₄ h₄=>h₄) fun _ _ x=>Er.no x
  obtain ⟨as₄,kp₄⟩:=as₂.step t₄
  cases b with
  | false=>exact ⟨_,Nat.sub_succ_lt_self _ _ hlt,ρ₄,m₄,i+1,acc,accv,k₁,rfl,st₂.trans (t₄.mono hsubL),R₄,wk.keep _ _ _ _ _ hit' t₄.pre t₄.solid (fun a ha=>kp₄ a (List.mem_cons_of_mem _ ha)),as₄,kp₄ D (List.mem_cons_self ..) _ hD₂,rl₂.step t₄,Nat.le_succ_of_le hal,hlt,h₄⟩
  | true=>
   refine wpAny_mono ((helt elt' hce _ m₄ h₄).go R₄ t₄ fun ρ₅ s₅ m₅ y w st₅ t₅ R₅ ry h₅=>?_) (fun b s₅ h₅=>h₅) fun _ _ x=>Er.no x
   obtain ⟨as₅,kp₅⟩:=as₂.step t₅
   have hD₅:=kp₅ D (List.mem_cons_self ..) _ hD₂
   have rl₅:=rl₂.step t₅
   refine PySem.wpAny_list_append_plain ⟨_,hD₅⟩ (fun h' hl hs=>?_) (by rw [List.size_toArray,rl₅.length];exact Nat.le_trans hal (Nat.le_trans (Nat.le_of_lt hlt) hlen))
   obtain ⟨k₆,hl⟩:=hl
   have sd₆:fN [D] s₅ { s₅ with heap:=h' }:=⟨fun b ob hb e=>(hs.2 b (by exact fun q=>hb (List.mem_singleton.mpr q))).trans e,rfl,rfl⟩
   have asD:cS C F' ρ₅ s₅.heap [D]:=fun a ha=>as₅ a (by
    have:a=D:=by exact List.mem_singleton.mp ha
    subst this;exact List.mem_cons_self ..)
   have hsol₆:=asD.solids sd₆
   have hD₆:h'.get? D=some (cR (accv++[w]) k₆):=by rw [hl];simp
   have shD:∀a∈[D],Shp h' a:=cH hD₆ rfl (by decide) (fun ⟨_,_,q⟩=>by cases q)
   have kS:∀a∈S,∀o,s₅.heap.get? a=some o→h'.get? a=some o:=fun a ha o e=>sd₆.1 a o (fun q=>by
    have:a=D:=by exact List.mem_singleton.mp q
    subst this;exact hDS ha) e
   refine ⟨_,Nat.sub_succ_lt_self _ _ hlt,ρ₅,m₅,i+1,acc++[y],accv++[w],k₆,rfl,(st₂.trans (t₅.mono hsubL)).trans (ax.ofSide sd₆ hsubD (fun a ha=>(asD a ha).2.2.2) shD),R₅.side cx'.fm asD sd₆,
    wk.keep _ _ _ _ _ hit' t₅.pre (fun a o e h=>hsol₆ a o (t₅.solid a o e h) h) (fun a ha o e=>kS a ha o (kp₅ a (List.mem_cons_of_mem _ ha) o e)),as₅.shape (fun a ha=>?_),hD₆,
    (rl₅.append (.cons ry .nil)).up hsol₆ (List.prefix_refl _),(by rw [List.length_append];exact Nat.succ_le_succ hal),hlt,h₅⟩
   rcases List.mem_cons.mp ha with rfl | ha
   ·exact shD a (by exact List.mem_singleton.mpr rfl)
   ·obtain ⟨o,e1,e2⟩:=(as₅ a (List.mem_cons_of_mem _ ha)).2.2.2
    exact ⟨o,kS a ha o e1,e2⟩
end
end Internal
end
section
namespace Internal
open PySem PyProof.Rows
section
variable {C:Glo}{F:Fm}{X:XM}{c:Cx}{n:Nat}{ρ ρ' ρ₀:List Addr}{m:MS}{s s' s₀:Shared}{A:Around}
theorem sq (G:GOk C) (cx:ay C c F n) (hnh:c.nh=true) {elt:ME}{t:List Nat}{many:Bool}{k:IK}{src ifs:List ME}{elt':Expr}{g:Comprehension}{sc:Scope}{pos p':Pos}{xs:List Expr}
  (hasync:g.is_async=0) (hx:okX g.iter=true) (hen:lF k=true→many=true) (hco:n6 c sc t (bO g.target)=true) (hxs:lE c k g.iter=some xs) (hcs:bp c src xs=true)
  (ht:n5 (eI c sc t (bO g.target)) t many g.target=true) (hci:bp (eI c sc t (bO g.target)) ifs g.ifs=true) (hce:aP (eI c sc t (bO g.target)) elt elt'=true)
  (hsrc:∀a∈src,SV C X n c F a) (helt:∀F',ay C (eI c sc t (bO g.target)) F' n→SV C noX n (eI c sc t (bO g.target)) F' elt)
  (hifs:∀F',ay C (eI c sc t (bO g.target)) F' n→∀a∈ifs,ST C noX n (eI c sc t (bO g.target)) F' a)
  {Q:PQ}(h:wpE (Call C) n (.comp elt t many k src ifs) Q X m) (R:Rel C F ρ m s) {use:Option (Value→Sem Unit)}{QQ:Value→Shared→Prop}
  (hk:∀D L ρ' m' s' i,ax F.W ρ s ρ' s'→Rel C F ρ' m' s'→Rep C ρ' s'.heap (.ref i) (.ref D)→Q (.ref i) m'→Let C F L ρ s ρ' s'→compPost (mod C) F.A (Er C F X ρ s) use QQ (.ref D) L (.ok .next) s') :
  wpAny (mod C) F.A (comprehension (.ListComp elt' [g] sc pos) sc F.env p' (newList []) false (eval g.iter F.env) use) QQ (Er C F X ρ s) s:=by
 obtain ⟨target,iter,ifs',isa⟩:=g
 replace h:gY (Call C) n src _ X m:=h
 simp only at *
 subst hasync
 have hCO:=t5 hco
 obtain ⟨cl,hcl,hcl'⟩:=qT (t6 cx hCO)
 have htt:=jW ht
 refine wpAny_comprehension_free rfl (lc hx _) hcl hCO.kind hCO.loc (wpAny_mono (sa G cx hnh hsrc hxs hcs htt (fun e=>by have:=hen e;subst this;obtain ⟨a,b,d,e,_⟩:=gN ht;exact ⟨a,b,d,e,trivial⟩)
  (P:=fun items g m=>cZ g (fun v P m=>asg t many v (fun m=>o4 (Call C) n ifs (fun b m=>match b with
    | true=>wpE (Call C) n elt (fun x m=>P (some x) m) noX m
    | false=>P none m) noX m) m) (fun acc m'=>Q (.ref m'.heap.length) ⟨m.vars,m'.heap++[.list acc]⟩) items [] m) h R) (fun xv s₁ h₁=>wpAny_mono h₁ (fun itv s₂ h₂=>?_) fun _ _ x=>x) fun _ _ x=>x)
 obtain ⟨ρ₂,m₂,items,gg,S,It,st₂,R₂,wk,h0,as,hS,hlen,hP⟩:=h₂
 refine wpAny_newObj_type (wpAny_newFunctionEnv hCO.cell (by intro y hy;exact aX hy) (fun h₁ hns₁ hsb₁=>?_) hCO.kind)
 dsimp only at hns₁ hsb₁ ⊢
 generalize hH2:s₂.heap.push { cls:=.type "list",dict:=none,data:=.seq ([]:List Value).toArray }=H2 at hns₁ hsb₁ ⊢
 have hC:H2.objs.size=s₂.heap.objs.size+1:=by rw [←hH2,Heap.size_push]
 generalize hLL:H2.objs.size=L at hns₁ hsb₁ hC ⊢
 generalize hDD:s₂.heap.objs.size=D at hC ⊢
 have hD0:s₂.heap.get? D=none:=bo (by rw [hDD];exact Nat.le_refl _)
 have hL0:s₂.heap.get? L=none:=bo (by rw [hDD,hC];exact Nat.le_succ _)
 have hDL:D≠L:=by rw [hC];exact (Nat.succ_ne_self _).symm
 have hk4:∀a o,s₂.heap.get? a=some o→h₁.get? a=some o:=fun a o e=>by
  have ha:a≠L:=fun q=>by rw [q,hL0] at e;exact aB e
  exact (hsb₁.2 a ha).trans (Heap.get?_push_of_some _ (hH2▸Heap.get?_push_of_some _ e))
 have hD4:h₁.get? D=some (cR [] 0):=(hsb₁.2 D hDL).trans (Heap.get?_push_of_some _ (by rw [←hH2,←hDD];exact Heap.get?_push_size _ rfl))
 generalize hs4:({ s₂ with heap:=h₁,toks:=s₂.toks+([]:List (Str × Value)).length }:Shared)=s₄
 have e4:s₄.heap=h₁∧s₄.gens=s₂.gens∧s₄.os=s₂.os:=by rw [←hs4];exact ⟨rfl,rfl,rfl⟩
 rw [←e4.1] at hns₁ hD4 hk4
 have notW:∀a,s₂.heap.get? a=none→a∉F.W++F.V:=fun a e q=>by
  obtain ⟨_,_,o,e',_⟩:=R₂.w a q;exact aO e e'
 have cx':=wU (cl:=cl) cx hCO (notW L hL0) hcl'
 have R₄:=C9 (cl:=cl) (s':=s₄) cx R₂ hCO hk4 e4.2.1 hL0 ⟨_,hns₁⟩
 have hsol4:ba s₂.heap s₄.heap:=fun a o e _=>hk4 a o e
 have h04:It 0 ρ₂ s₄:=wk.keep _ _ _ _ _ h0 (List.prefix_refl _) hsol4 fun a _ o e=>hk4 a o e
 have hSthere:∀a∈S,∃o,s₂.heap.get? a=some o:=fun a ha=>by obtain ⟨_,_,_,o,e,_⟩:=as a ha;exact ⟨o,e⟩
 have hDS:D∉S:=fun q=>by obtain ⟨o,e⟩:=hSthere D q;exact aO hD0 e
 have notρ:∀a,s₂.heap.get? a=none→a∉ρ₂:=fun a e q=>by obtain ⟨o,e'⟩:=R₂.hp.there q;exact aO e e'
 have as4:cS C (eO F sc cl t (bO target) L) ρ₂ s₄.heap (D::S):=fun a ha=>by
  rcases List.mem_cons.mp ha with rfl | ha
  ·refine ⟨notρ a hD0,fun q=>?_,bT R₂.hp hD0,cH hD4 rfl (by decide) (fun ⟨_,_,q⟩=>by cases q) a (by exact List.mem_singleton.mpr rfl)⟩
   have q:a∈[L]++(F.W++F.V):=q
   rcases List.mem_append.mp q with q | q
   ·exact hDL (by exact List.mem_singleton.mp q)
   ·exact notW a hD0 q
  ·obtain ⟨a1,a2,a3,o,a4,a5⟩:=as a ha
   refine ⟨a1,fun q=>?_,a3,o,hk4 a o a4,a5⟩
   have q:a∈[L]++(F.W++F.V):=q
   rcases List.mem_append.mp q with q | q
   ·have:a=L:=by exact List.mem_singleton.mp q
    subst this;exact aO hL0 a4
   ·exact a2 q
 have fin:∀ρ' m' s₁' s' acc accv k',ax (L::D::S) ρ₂ s₄ ρ' s₁'→fN S s₁' s'→ba s₁'.heap s'.heap→Rel C (eO F sc cl t (bO target) L) ρ' m' s'→s'.heap.get? D=some (cR accv k')→aG C ρ' s'.heap acc accv→acc.length≤line→
   Q (.ref m'.heap.length) ⟨m₂.vars,m'.heap++[.list acc]⟩→compPost (mod C) F.A (Er C F X ρ s) use QQ (.ref D) L (.ok .next) s':=by
  intro ρ' m' s₁' s' acc accv k' st' sd hsol R' hD' rl hal hq
  have hDρ:D∉ρ':=fun q=>(st'.new D q).elim (notρ D hD0) fun q=>by exact aO q hD4
  have hLW:=R'.w L (List.mem_append_left _ (List.mem_singleton.mpr rfl))
  have hH:Hp C (ρ'++[D]) (m'.heap++[.list acc]) s'.heap:=R'.hp.alloc (fun a o e _=>e) (fun a _ o e=>e) R'.hp.base hDρ (bT R₂.hp hD0) ⟨accv,k',hD',rl.up (fun a o e _=>e) (List.prefix_append _ _),hal⟩
  have hkeep:∀a o,s₂.heap.get? a=some o→a∉ρ₂→a∉S→s'.heap.get? a=some o∨(IsD o∧∃sl,s'.heap.get? a=some { o with slots:=sl }):=fun a o e h1 h2=>by
   have hn:a∉L::D::S:=fun q=>by
    rcases List.mem_cons.mp q with rfl | q
    ·exact aO hL0 e
    ·rcases List.mem_cons.mp q with rfl | q
     ·exact aO hD0 e
     ·exact h2 q
   rcases st'.keep a o (hk4 a o e) h1 hn with q | ⟨q,sl,q'⟩
   ·exact .inl (sd.1 a _ h2 q)
   ·exact .inr ⟨q,sl,sd.1 a _ h2 q'⟩
  have hKD:∀a,a∉ρ₂→a∉S→kX s₂.heap s'.heap a:=fun a h1 h2 o e=>by
   rcases hkeep a o e h1 h2 with q | ⟨_,sl,q⟩
   ·exact ⟨_,q,rfl,rfl⟩
   ·exact ⟨_,q,rfl,rfl⟩
  have hs2:ba s₂.heap s'.heap:=fun a o e h=>hsol a o (st'.solid a o (hk4 a o e) h) h
  have hpre:ρ₂<+:ρ'++[D]:=st'.pre.trans (List.prefix_append _ _)
  have hnew:∀a∈ρ'++[D],a∈ρ₂∨s₂.heap.get? a=none:=fun a ha=>by
   rcases List.mem_append.mp ha with q | q
   ·exact (st'.new a q).imp id fun q=>by
     cases e:s₂.heap.get? a with
     | none=>rfl
     | some o=>rw [hk4 a o e] at q;exact im q
   ·have:a=D:=by exact List.mem_singleton.mp q
    subst this;exact .inr hD0
  have hgens:s'.gens=s₂.gens:=sd.2.1.trans (st'.gens.trans e4.2.1)
  have Rf:Rel C F (ρ'++[D]) ⟨m₂.vars,m'.heap++[.list acc]⟩ s':=R₂.up cx.fm hs2 hpre hH hnew (fun a ha=>hKD a (R₂.w a ha).1 fun q=>(as a q).2.1 ha)
   (fun L' hL'=>by
    obtain ⟨k3,_,o,k5,k6⟩:=R₂.out L' hL'
    refine hKD L' k3 fun q=>?_
    obtain ⟨_,_,_,o2,g1,_,g2⟩:=as L' q
    obtain rfl:=same k5 g1
    exact g2 k6) hgens
  have fr:∀a∈L::D::S,s.heap.get? a=none:=fun a ha=>by
   rcases List.mem_cons.mp ha with rfl | q
   ·exact cX st₂ hL0
   ·rcases List.mem_cons.mp q with rfl | q
    ·exact cX st₂ hD0
    ·exact hS a q
  have stf:ax F.W ρ s (ρ'++[D]) s':=by
   have g:ax F.W ρ₂ s₂ ρ₂ s₄:=⟨List.prefix_refl _,fun _ h=>.inl h,fun a o e _ _=>.inl (hk4 a o e),hsol4,fun a o e=>⟨o,hk4 a o e⟩,e4.2.1,e4.2.2⟩
   have z:=((st₂.trans g).behind st' fr).side sd fun a ha=>hS a ha
   exact ⟨z.pre.trans (List.prefix_append _ _),fun a ha=>by
    rcases List.mem_append.mp ha with q | q
    ·exact z.new a q
    ·have:a=D:=by exact List.mem_singleton.mp q
     subst this;exact .inr (cX st₂ hD0),z.keep,z.solid,z.alive,z.gens,z.os⟩
  refine hk D L (ρ'++[D]) _ s' m'.heap.length stf Rf (.ref ?_) hq (Da cx stf R (cX st₂ hL0) (fun q=>?_) (notW L hL0) R'.ns)
  ·rw [←R'.hp.len,List.getElem?_append_right (Nat.le_refl _)];simp
  ·rcases List.mem_append.mp q with q | q
   ·exact hLW.1 q
   ·exact hDL (by exact List.mem_singleton.mp q:L=D).symm
 have loop:codeAny (mod C) F.A (.compLoop (.ListComp elt' [⟨target,iter,ifs',0⟩] sc pos) 0 itv (.ref D) (compEnvC sc cl L F.env)) (compPost (mod C) F.A (Er C F X ρ s) use QQ (.ref D) L) s₄:=
  t7 cx' hnh rfl wk hlen (helt _ cx') hce (hifs _ cx') hci ht (fun _ _ _ h=>h) R₄ h04 as4 hDS hD4 hP fin
 exact codeAny_compStart_list loop (wk.self 0 ρ₂ s₄ h04 _ _ loop)
end
end Internal
end
section
namespace Internal
open PySem PyProof.Rows
section
variable {C:Glo}{F:Fm}{X:XM}{c:Cx}{n:Nat}
theorem zN (G:GOk C) (cx:ay C c F n) {elt:ME}{t:List Nat}{many:Bool}{k:IK}{src ifs:List ME}(hsrc:∀a∈src,SV C X n c F a) (helt:∀c' F',ay C c' F' n→SV C noX n c' F' elt)
  (hifs:∀c' F',ay C c' F' n→∀a∈ifs,ST C noX n c' F' a):SV C X n c F (.comp elt t many k src ifs):=by
 intro e hc Q m h
 replace hc:=ae hc
 obtain ⟨⟨elt',gs,sc⟩,hxx,hc⟩:=hc
 replace hc:=ae hc
 obtain ⟨g,hg,hc⟩:=hc
 cases cb hg
 obtain ⟨pos,rfl⟩:=nV hxx
 simp only [Bool.and_eq_true,beq_iff_eq,Bool.or_eq_true,Bool.not_eq_true'] at hc
 obtain ⟨⟨⟨⟨⟨⟨⟨⟨h0,h1⟩,h2⟩,h3⟩,h4⟩,h5⟩,h6⟩,h7⟩,h8⟩:=hc
 obtain ⟨xs,hxs,h5⟩:=ae h5
 intro s ρ R
 have ha:firstAsync [g]=false:=by
  obtain ⟨_,_,_,a⟩:=g;simp only at h1;subst h1;rfl
 have hfi:firstIter [g] F.env=eval g.iter F.env:=by cases g;rfl
 rw [eval_ListComp,ha,hfi]
 refine sq (use:=none) G cx h0 h1 h2 (fun e=>h3.resolve_left (by rw [e];decide)) h4 hxs h5 h6 h7 h8 hsrc (helt _) (hifs _) h R fun D L ρ' m' s' i st R' rx hq hl=>?_
 obtain ⟨⟨f,hf⟩,hs⟩:=hl ρ' m' s' (.refl _ _ _) R'
 refine ⟨f,hf,fun h' hsb=>?_⟩
 obtain ⟨Rf,stf,hsol⟩:=hs h' hsb
 exact ⟨ρ',m',.ref i,stf,Rf,rx.up hsol (List.prefix_refl _),hq⟩
theorem bz (G:GOk C) (cx:ay C c F n) {me:ME}(ia:SV C X n c F me) (hpl:∀e,aP c me e=true→bg e=true):SV C X n c F me∧ST C X n c F me:=⟨ia,wM G cx ia hpl⟩
mutual
theorem sE (G:GOk C):∀(me:ME) (X:XM) (c:Cx) (F:Fm),ay C c F n→SV C X n c F me∧ST C X n c F me
 | .cst v,X,c,F,cx=>bz G cx (Cy G cx) CZ
 | .var i,X,c,F,cx=>bz G cx (Cz G cx) C0
 | .glob g v,X,c,F,cx=>bz G cx (zd G cx) zE
 | .bin op a b,X,c,F,cx=>bz G cx (CA G cx (sE G a X c F cx).1 (sE G b X c F cx).1) C1
 | .neg a,X,c,F,cx=>bz G cx (CB G cx (sE G a X c F cx).1) C8
 | .not a,X,c,F,cx=>⟨CC G cx (sE G a X c F cx).1,CV G cx (sE G a X c F cx).2⟩
 | .and es,X,c,F,cx=>⟨CD G cx fun a ha=>(sEs G es X c F cx a ha).1,CW G cx fun a ha=>(sEs G es X c F cx a ha).2⟩
 | .or es,X,c,F,cx=>⟨ER G cx fun a ha=>(sEs G es X c F cx a ha).1,E0 G cx fun a ha=>(sEs G es X c F cx a ha).2⟩
 | .cmp op a b,X,c,F,cx=>⟨CE G cx (sE G a X c F cx).1 (sE G b X c F cx).1,CX G cx (sE G a X c F cx).1 (sE G b X c F cx).1⟩
 | .cmp2 op op' a b d,X,c,F,cx=>⟨zK G cx (sE G a X c F cx).1 (sE G b X c F cx).1 (sE G d X c F cx).1,zL G cx (sE G a X c F cx).1 (sE G b X c F cx).1 (sE G d X c F cx).1⟩
 | .isN p a,X,c,F,cx=>⟨CF G cx (sE G a X c F cx).1,CY G cx (sE G a X c F cx).1⟩
 | .call f args,X,c,F,cx=>bz G cx (zf G cx fun a ha=>(sEs G args X c F cx a ha).1) zH
 | .blt b args,X,c,F,cx=>bz G cx (CO G cx fun a ha=>(sEs G args X c F cx a ha).1) C7
 | .mth k o args,X,c,F,cx=>bz G cx (CG G cx (sE G o X c F cx).1 fun a ha=>(sEs G args X c F cx a ha).1) C5
 | .umth k f x o args,X,c,F,cx=>bz G cx (zA G cx (sE G o X c F cx).1 fun a ha=>(sEs G args X c F cx a ha).1) zI
 | .new k f args,X,c,F,cx=>bz G cx (CQ G cx fun a ha=>(sEs G args X c F cx a ha).1) C6
 | .attr k o x,X,c,F,cx=>bz G cx (zw G cx (sE G o X c F cx).1) zJ
 | .idx o i,X,c,F,cx=>bz G cx (CH G cx (sE G o X c F cx).1 (sE G i X c F cx).1) C2
 | .sl o lo hi,X,c,F,cx=>bz G cx (ET G cx (sE G o X c F cx).1 (sO G lo X c F cx) (sO G hi X c F cx)) E1
 | .list es,X,c,F,cx=>bz G cx (zg G cx fun a ha=>(sEs G es X c F cx a ha).1) zF
 | .tup es,X,c,F,cx=>bz G cx (CI G cx fun a ha=>(sEs G es X c F cx a ha).1) C3
 | .dict0,X,c,F,cx=>bz G cx (wu G cx) wN
 | .comp elt t many k src ifs,X,c,F,cx=>bz G cx (zN G cx (fun a ha=>(sEs G src X c F cx a ha).1) (fun c' F' cx'=>(sE G elt noX c' F' cx').1) fun c' F' cx' a ha=>(sEs G ifs noX c' F' cx' a ha).2) zG
 | .isi a ts,X,c,F,cx=>bz G cx (CU G cx (sE G a X c F cx).1) C4
theorem sEs (G:GOk C):∀(es:List ME) (X:XM) (c:Cx) (F:Fm),ay C c F n→∀a∈es,SV C X n c F a∧ST C X n c F a
 | [],X,c,F,cx,a,ha=>by exact aX ha
 | e::es,X,c,F,cx,a,ha=>(List.mem_cons.mp ha).elim (fun h=>h▸sE G e X c F cx) fun h=>sEs G es X c F cx a h
theorem sO (G:GOk C):∀(o:Option ME) (X:XM) (c:Cx) (F:Fm),ay C c F n→∀a,o=some a→SV C X n c F a
 | none,X,c,F,cx,a,ha=>by exact aB ha
 | some e,X,c,F,cx,a,ha=>(Option.some.inj ha)▸(sE G e X c F cx).1
end
theorem fk (G:GOk C) (cx:ay C c F n) (me:ME) (e:Expr) (hc:aP c me e=true) (Q:PQ) (m:MS) (h:wpE (Call C) n me Q X m):WPv C F X (eval e F.env) Q m:=(sE G me X c F cx).1 e hc Q m h
theorem wW (G:GOk C) (cx:ay C c F n) (me:ME) (e:Expr) (hc:aP c me e=true) (Q:Bool→MS→Prop) (m:MS) (h:wpE (Call C) n me (bF Q) X m):WPt C F X (isTrue e F.env (eval e F.env)) Q m:=(sE G me X c F cx).2 e hc Q m h
end
end Internal
end
section
namespace Internal
open PySem PyProof.Rows
section
variable {C:Glo}{F:Fm}{X:XM}{ρ ρ₀:List Addr}{m:MS}{s s₀:Shared}{E:Value→Shared→Prop}{A:Around}
theorem zO (ok:aV F) (R:Rel C F ρ m s) {r:Nat}{k:Int}{t:Tok}{xs:List MV}{j:Nat}{u:MV}{xv uv:Value}(rx:Rep C ρ s.heap (.ref r) xv) (hi:m.heap[r]?=some (.list xs)) (hj:fc k xs.length=some j) (hu:AS=true∧0≤k) (ru:Rep C ρ s.heap u uv) {P:Unit→Shared→Prop}(hp:∀s',Rel C F ρ (m.put r (.list (xs.set j u))) s'→ax F.W ρ s ρ s'→P () s') :
  wpAny (mod C) A (setItem xv (.int k t) uv) P E s:=absurd hu.1 (by decide)
end
end Internal
end
section
namespace Internal
open PySem
noncomputable def oe (F:Fm):Prop:=(∃outer,F.A.frames=some (F.env::outer))∧F.env.frame=some F.env.locals
theorem kA {C:Glo}{F:Fm}{X:XM}{ρ₀:List Addr}{s s₀:Shared}(ok:aV F) (fo:oe F) (hb:C.base.StaysIn s₀.heap) {e:Value}(h:Er C F X ρ₀ s₀ e s):notedBy (mod C) F.A F.env (fun e s'=>cameBackBy (mod C) F.A F.env (Er C F X ρ₀ s₀) e s') e s:=False.elim h
noncomputable def ErC (C:Glo) (X:XT) (ρ:List Addr) (s:Shared) (e:Value) (s':Shared):Prop:=False
end Internal
end
section
namespace Internal
open PySem PyProof.Rows
noncomputable def qV (e:Expr):Bool:=(qA e).isSome
theorem qW {elts:List Expr}{k:Nat}{p:Pos}{v:Expr}(h:qV v=false) (h':okX v=true) (env:Env):swappedStores [.Tuple elts k p] v env=pure none:=
 cV (P:=fun v=>qV v=false→swappedStores [.Tuple elts k p] v env=pure none) h' (fun _ _ _ _=>rfl) (fun _ _ _=>rfl) (fun _ _ _ _ _=>rfl) (fun _ _ _ _=>rfl) (fun _ _ _ _=>rfl) (fun _ _ _ _ _=>rfl) (fun _ _ _ _ _=>rfl) (fun _ _ _ _=>rfl) (fun _ _ _ _=>rfl) (fun _ _ _=>rfl) (fun _ _ _ h=>by exact tf h) (fun _ _ _ _=>rfl) (fun _ _ _ _ _=>rfl) h
noncomputable def og:ME→Bool
 | .comp ..=>true
 | _=>false
set_option genCtorIdx false in
structure VS where
 tag:Nat
 p:Pos:=vd
 ts:List Expr:=[]
 e1:Expr:=noE
 e2:Expr:=noE
 o1:Option Expr:=none
 o2:Option Expr:=none
 b1:List Stmt:=[]
 b2:List Stmt:=[]
 b3:List Stmt:=[]
 hs:List ExceptHandler:=[]
noncomputable def aQ:Stmt→VS
 | .Assign ts e2 p=>{ tag:=0,ts,e2,p }
 | .Expr e1 p=>{ tag:=1,e1,p }
 | .If e1 b1 b2 p=>{ tag:=2,e1,b1,b2,p }
 | .For e1 e2 b1 b2 p=>{ tag:=3,e1,e2,b1,b2,p }
 | .While e1 b1 b2 p=>{ tag:=4,e1,b1,b2,p }
 | .Return o1 p=>{ tag:=5,o1,p }
 | .Continue p=>{ tag:=6,p }
 | .Raise o1 o2 p=>{ tag:=8,o1,o2,p }
 | .Try b1 hs b2 b3 p=>{ tag:=9,b1,hs,b2,b3,p }
 | _=>{ tag:=7 }
noncomputable def wX (v:VS):Nat→Option Stmt
 | 0=>some (.Assign v.ts v.e2 v.p)
 | 1=>some (.Expr v.e1 v.p)
 | 2=>some (.If v.e1 v.b1 v.b2 v.p)
 | 3=>some (.For v.e1 v.e2 v.b1 v.b2 v.p)
 | 4=>some (.While v.e1 v.b1 v.b2 v.p)
 | 5=>some (.Return v.o1 v.p)
 | 6=>some (.Continue v.p)
 | 8=>some (.Raise v.o1 v.o2 v.p)
 | 9=>some (.Try v.b1 v.hs v.b2 v.b3 v.p)
 | _=>none
theorem wY (e:Stmt):∀x,wX (aQ e) (aQ e).tag=some x→e=x:=by
 cases e<;>first | exact fun x h=>Option.some.inj h | exact fun x h=>aB h
theorem wZ {e:Stmt}{n:Nat}{x:Stmt}(h:(aQ e).tag=n) (hx:wX (aQ e) n=some x):e=x:=wY e x (h▸hx)
noncomputable def fF (st:Stmt) (n:Nat):Bool:=(aQ st).tag==n
theorem cI {e:Stmt}{n:Nat}{x:Stmt}(h:fF e n=true) (hx:wX (aQ e) n=some x):e=x:=wZ (eq_of_beq h) hx
noncomputable def zP:MV→Bool
 | .none=>true
 | _=>false
noncomputable def su:ME→Bool
 | .cst v=>zP v
 | _=>false
noncomputable def exh:ExceptHandler→Option Expr × Option Str × List Stmt × Pos
 | .ExceptHandler a b c p=>(a,b,c,p)
noncomputable def Dc:Const→Bool
 | .str _=>true
 | _=>false
noncomputable def inH (c:Cx):Cx:={ c with nh:=false }
mutual
noncomputable def E3:Cx→MSt→Stmt→Bool
 | c,.asg t many e,st=>fF st 0&&au (one (aQ st).ts) fun tg=>n5 c t many tg&&okX (aQ st).e2&&(!many||!qV (aQ st).e2)&&(!dh (aQ st).e2||og e)&&(c.nh||!many)&&aP c e (aQ st).e2
 | c,.setAttr k o x e,st=>fF st 0&&au (one (aQ st).ts) fun tg=>okX (aQ st).e2&&!dh (aQ st).e2&&aP c e (aQ st).e2&&au (rU tg) fun q=>q.2.1.cps.toList==x&&cW.contains q.2.1&&c.at_ k q.2.1&&aP c o q.1
 | c,.setIdx o i e,st=>fF st 0&&au (one (aQ st).ts) fun tg=>okX (aQ st).e2&&!dh (aQ st).e2&&aP c e (aQ st).e2&&au (yH tg) fun q=>aP c o q.1&&aP c i q.2
 | c,.expr e,st=>fF st 1&&(okX (aQ st).e1&&!dh (aQ st).e1&&aP c e (aQ st).e1)
 | c,.ite d a b,st=>fF st 2&&(aP c d (aQ st).e1&&hJ c a (aQ st).b1&&hJ c b (aQ st).b2)
 | c,.for_ t many k src body,st=>fF st 3&&(c.nh&&(aQ st).b2.isEmpty&&n5 c t many (aQ st).e1&&(!lF k||many)&&okX (aQ st).e2&&au (lE c k (aQ st).e2) (fun xs=>bp c src xs)&&hJ c body (aQ st).b1)
 | c,.while_ d body,st=>fF st 4&&((aQ st).b2.isEmpty&&aP c d (aQ st).e1&&hJ c body (aQ st).b1)
 | c,.ret e,st=>fF st 5&&match (aQ st).o1 with
  | some x=>aP c e x
  | none=>su e
 | c,.cont,st=>fF st 6
 | c,.raise k,st=>!yo||fF st 8&&((aQ st).o2.isNone&&c.nh&&au (aQ st).o1 fun e=>au (xFn e) fun q=>cG c q.1&&c.xn k==some q.1&&au (one q.2.1) fun y=>au (nS y) Dc)
 | c,.try_ body k v h,st=>!yo||fF st 9&&((aQ st).b2.isEmpty&&(aQ st).b3.isEmpty&&au (one (aQ st).hs) fun hh=>au (exh hh).1 fun ty=>au (exh hh).2.1 fun nm=>k==0&&c.nm v==some nm&&c.kind nm==some .local&&!(exh hh).2.2.1.isEmpty&&au (dW ty) (fun x=>cG c x&&c.xn k==some x)&&hJ c body (aQ st).b1&&hJ (inH c) h (exh hh).2.2.1)
noncomputable def hJ:Cx→List MSt→List Stmt→Bool
 | c,[],xs=>xs.isEmpty
 | c,s::ss,xs=>match xs with
  | []=>false
  | x::xs=>E3 c s x&&hJ c ss xs
end
section
variable {C:Glo}{F:Fm}{X:XM}{c:Cx}{n:Nat}{ρ ρ' ρ₀:List Addr}{m:MS}{s s' s₀:Shared}{A:Around}{E:Value→Shared→Prop}
inductive FlR (C:Glo) (ρ:List Addr) (h:Heap):Fl→Flow→Prop
 | next:FlR C ρ h .next .next
 | brk:FlR C ρ h .brk .brk
 | cont:FlR C ρ h .cont .cont
 | ret {x v}:Rep C ρ h x v→FlR C ρ h (.ret x) (.ret v)
noncomputable def FlI (C:Glo) (ρ:List Addr) (h:Heap) (fl:Fl) (f:Flow):Prop:=match fl with
 | .next=>f=.next
 | .brk=>f=.brk
 | .cont=>f=.cont
 | .ret x=>∃v,f=.ret v∧Rep C ρ h x v
theorem FlR.inv {h:Heap}{fl:Fl}{f:Flow}(r:FlR C ρ h fl f):FlI C ρ h fl f:=FlR.casesOn (motive:=fun fl f _=>FlI C ρ h fl f) r rfl rfl rfl (fun r=>⟨_,rfl,r⟩)
inductive i0 (C:Glo) (F:Fm) (ρ:List Addr) (s:Shared) (Q:Fl→MS→Prop) (f:Flow) (s':Shared):Prop
 | mk (ρ':List Addr) (m':MS) (fl:Fl) (st:ax F.W ρ s ρ' s') (R:Rel C F ρ' m' s') (hf:FlR C ρ' s'.heap fl f) (hq:Q fl m'):i0 C F ρ s Q f s'
theorem i0.back {Q:Fl→MS→Prop}(st:ax F.W ρ₀ s₀ ρ s):∀f s',i0 C F ρ s Q f s'→i0 C F ρ₀ s₀ Q f s':=
 fun _ _ ⟨ρ',m',x,a,b,c,d⟩=>⟨ρ',m',x,st.trans a,b,c,d⟩
noncomputable def WPs (C:Glo) (F:Fm) (X:XM) (t:Sem Flow) (Q:Fl→MS→Prop) (m:MS):Prop:=
 ∀s ρ,Rel C F ρ m s→wpAny (mod C) F.A t (i0 C F ρ s Q) (Er C F X ρ s) s
inductive FD (C:Glo) (F:Fm) (items:List MV) (g:Option (Nat × List MV)) (st:MV→(Fl→MS→Prop)→MS→Prop) (Q:Fl→MS→Prop) (S:List Addr) (It:Nat→List Addr→Shared→Prop) (ρ₀:List Addr) (s₀:Shared) (k:Nat) (s:Shared):Prop
 | mk (ρ:List Addr) (m:MS) (i:Nat) (hk:k=items.length-i) (st₁:ax F.W ρ₀ s₀ ρ s) (R:Rel C F ρ m s) (hit:It i ρ s) (as:cS C F ρ s.heap S) (hf:dA g st Q (items.drop i) m)
inductive WhI (C:Glo) (F:Fm) (P:Nat→MS→Prop) (ρ₀:List Addr) (s₀:Shared) (k:Nat) (s:Shared):Prop
 | mk (ρ:List Addr) (m:MS) (st₁:ax F.W ρ₀ s₀ ρ s) (R:Rel C F ρ m s) (hw:P k m)
theorem Dd (cx:ay C c F n) (fo:oe F) (hbs:C.base.StaysIn s₀.heap) {target:Expr}{itv:Value}{items:List MV}{g:Option (Nat × List MV)}{S:List Addr}{It:Nat→List Addr→Shared→Prop}(wk:n7 C F.A target itv items g S It)
  {st:MV→(Fl→MS→Prop)→MS→Prop}{Q:Fl→MS→Prop}{body:List Stmt}(hS:∀a∈S,s₀.heap.get? a=none)
  (hb:∀x v ρ m s (P:Fl→MS→Prop),Rel C F ρ m s→Rep C ρ s.heap x v→st x P m→wpAny (mod C) F.A (assign target F.env v) (fun _ s₁=>wpAny (mod C) F.A (execs body F.env) (i0 C F ρ s P) (Er C F X ρ s) s₁) (Er C F X ρ s) s)
  (st₀:ax F.W ρ₀ s₀ ρ s) (R:Rel C F ρ m s) (h0:It 0 ρ s) (as:cS C F ρ s.heap S) (h:dA g st Q items m) :
  codeAny (mod C) F.A (.forLoop target itv body [] F.env) (fun r s'=>match r with | .ok f=>i0 C F ρ₀ s₀ Q f s' | .error e=>cameBackBy (mod C) F.A F.env (Er C F X ρ₀ s₀) e s') s:=by
 refine codeAny_forLoop_any (FD C F items g st Q S It ρ₀ s₀) (fun k s hI=>?_) _ ⟨ρ,m,0,rfl,st₀,R,h0,as,by exact h⟩
 obtain ⟨ρ,m,i,rfl,st₁,R,hit,as,hf⟩:=hI
 cases e:items[i]? with
 | none=>
  have:items.drop i=[]:=by rw [List.drop_eq_nil_iff];exact List.getElem?_eq_none_iff.mp e
  rw [this,kR] at hf
  obtain ⟨hg,hq⟩:=hf
  refine wpAny_mono (wk.done i ρ m.heap s R.hp hg hit e (fun _ _=>False) (fun s₂=>fN S s s₂) fun s₂ sd=>sd) (fun r s₁ ⟨hr,sd⟩=>?_) fun _ _ x=>x.elim
  subst hr
  exact wpAny_execs_nil ⟨ρ,m,.next,st₁.side sd hS,R.side cx.fm as sd,.next,hq⟩
 | some x=>
  obtain ⟨hlt,hx⟩:=List.getElem?_eq_some_iff.mp e
  rw [List.drop_eq_getElem_cons hlt,hx,gA] at hf
  obtain ⟨hg,hq⟩:=hf
  refine wk.item i ρ m.heap s x R.hp hg hit e _ _ _ fun v s₂ sd hit' rv=>?_
  have R₂:=R.side cx.fm as sd
  have st₂:=st₁.side sd hS
  refine wpAny_mono (hb x v ρ m s₂ _ R₂ rv hq) (fun _ s₃ h₃=>wpAny_mono h₃ (fun f s₄ h₄=>?_) fun e s' x=>kA cx.fm fo hbs (Er.back st₂ e s' x)) fun e s' x=>kA cx.fm fo hbs (Er.back st₂ e s' x)
  obtain ⟨ρ₄,m₄,fl,st₄,R₄,hfl,hq₄⟩:=h₄
  obtain ⟨as₄,kp₄⟩:=(as.shape (wk.shape _ _ _ hit')).step st₄
  have hit₄:=wk.keep _ _ _ _ _ hit' st₄.pre st₄.solid kp₄
  have hlt2:items.length-(i+1)<items.length-i:=Nat.sub_succ_lt_self _ _ hlt
  cases fl with
  | next=>obtain rfl:=hfl.inv;exact ⟨_,hlt2,ρ₄,m₄,i+1,rfl,st₂.trans st₄,R₄,hit₄,as₄,hq₄⟩
  | cont=>obtain rfl:=hfl.inv;exact ⟨_,hlt2,ρ₄,m₄,i+1,rfl,st₂.trans st₄,R₄,hit₄,as₄,hq₄⟩
  | brk=>obtain rfl:=hfl.inv;exact ⟨ρ₄,m₄,.next,st₂.trans st₄,R₄,.next,hq₄⟩
  | ret r=>obtain ⟨v,rfl,rv⟩:=hfl.inv;exact ⟨ρ₄,m₄,.ret _,st₂.trans st₄,R₄,.ret rv,hq₄⟩
theorem jX:∀{es:List (List Nat × MV)}{kvs:List (Str × Value)}{h:Heap},dS C ρ h es kvs→(kvs.map (·.1)).Nodup→∀{k:List Nat}{x:MV}{v:Value},k.length≤line→Rep C ρ h x v→dS C ρ h (bA es k x) (stored kvs (str k) v)
 | _,_,_,.nil,_,k,x,v,z,r=>by
  exact .cons z r .nil
 | _,_,_,@dS.cons _ _ _ k' x' v' es ds z' a b,hn,k,x,v,z,r=>by
  simp only [List.map_cons,List.nodup_cons] at hn
  show dS C ρ _ (match k'==k with
   | true=>(k',x)::es
   | false=>(k',x')::bA es k x) _
  by_cases e:k'=k
  ·subst e
   rw [beq_self_eq_true]
   have e1:stored ((str k',v')::ds) (str k') v=(str k',v)::ds:=by
    unfold stored
    rw [if_pos (by simp)]
    simp only [List.map_cons,if_true]
    congr 1
    conv=>rhs;rw [←List.map_id ds]
    refine List.map_congr_left fun p hp=>?_
    rw [if_neg (fun q=>hn.1 (by rw [←q];exact List.mem_map.mpr ⟨p,hp,rfl⟩))];rfl
   rw [e1]
   exact .cons z r b
  ·have e2:¬ str k'=str k:=fun q=>e (iL q)
   have e1:(k'==k)=false:=by exact beq_eq_false_iff_ne.mpr e
   rw [e1]
   have e3:stored ((str k',v')::ds) (str k) v=(str k',v')::stored ds (str k) v:=by
    unfold stored
    simp only [List.any_cons,e2,decide_false,Bool.false_or,List.map_cons,if_false]
    split<;>rfl
   rw [e3]
   exact .cons z' a (jX b hn.2 z r)
theorem lT:∀(es:List (List Nat × MV)) (k:List Nat) (x:MV),(bA es k x).length≤es.length+1
 | [],_,_=>Nat.le_refl _
 | (k',x')::r,k,x=>by
  show (match k'==k with
   | true=>(k',x)::r
   | false=>(k',x')::bA r k x).length≤_
  cases k'==k with
  | true=>exact Nat.le_succ _
  | false=>exact Nat.succ_le_succ (lT r k x)
theorem qX {v:Expr}(h:okX v=true) (x:Str) (px:Pos) (l:Nat) (env:Env):∃b,swapsWith v (some (.Name x px)) l env=pure b:=by
 cases hi:dh v with
 | false=>exact ⟨false,eE hi h _ _ _⟩
 | true=>
  unfold dh at hi
  obtain ⟨k,hk⟩:=Option.isSome_iff_exists.mp hi
  obtain ⟨p,rfl⟩:=nV hk
  exact ⟨_,rfl⟩
theorem t8 {v:Expr}(h:okX v=true) (elts:List Expr) (k:Nat) (p:Pos) (l:Nat) (env:Env):swapsWith v (some (.Tuple elts k p)) l env=pure false:=by
 cases hi:dh v with
 | false=>exact eE hi h _ _ _
 | true=>
  unfold dh at hi
  obtain ⟨k,hk⟩:=Option.isSome_iff_exists.mp hi
  obtain ⟨p,rfl⟩:=nV hk
  rfl
theorem w9 {e:ME}(h:og e=true):∃elt t many k src ifs,e=.comp elt t many k src ifs:=by
 cases e<;>first | exact ⟨_,_,_,_,_,_,rfl⟩ | exact ff h
theorem qY {v:Expr}{t:Option Expr}{l:Nat}{env:Env}(h':okX v=true) (h:swapsWith v t l env=pure true):dh v=true:=by
 cases hi:dh v with
 | true=>rfl
 | false=>
  rw [eE hi h'] at h
  exact absurd h (by intro h;injection h with h;exact ff h)
theorem xb (G:GOk C) (cx:ay C c F n) {e:ME}{v:Expr}{i:Nat}{x:Str}{px pos:Pos}(hx:c.nm i=some x) (hk:c.kind x=some .local∨(c.wr=true∧c.kind x≠some .free)) (hm:og e=true) (he:aP c e v=true)
  (hb:swapsWith v (some (.Name x px)) pos.line F.env=pure true) {Q:Fl→MS→Prop}(h:wpE (Call C) n e (fun v m=>asg [i] false v (fun m=>Q .next m) m) X m) (R:Rel C F ρ m s) :
  wpAny (mod C) F.A (exec (.Assign [.Name x px] v pos) F.env) (i0 C F ρ s Q) (Er C F X ρ s) s:=by
 obtain ⟨elt,t,many,k,src,ifs,rfl⟩:=w9 hm
 rw [exec_Assign_Name_used _ _ _ _ hb]
 obtain ⟨⟨elt',gs,sc⟩,hxx,he⟩:=ae he
 obtain ⟨g,hg,he⟩:=ae he
 obtain rfl:=cb hg
 obtain ⟨pos',rfl⟩:=nV hxx
 obtain ⟨he,h8⟩:=ao he
 obtain ⟨he,h7⟩:=ao he
 obtain ⟨he,h6⟩:=ao he
 obtain ⟨he,h5⟩:=ao he
 obtain ⟨he,h4⟩:=ao he
 obtain ⟨he,h3⟩:=ao he
 obtain ⟨he,h2⟩:=ao he
 obtain ⟨h0,h1⟩:=ao he
 have h1:=eq_of_beq h1
 have h3:=Co h3
 obtain ⟨xs,hxs,h5⟩:=ae h5
 have ha:firstAsync [g]=false:=by
  obtain ⟨_,_,_,a⟩:=g;simp only at h1;subst h1;rfl
 refine wpAny_bind (wpAny_standAt (wpAny_bind ?_))
 show wpAny _ F.A (do let _ ←comprehension (.ListComp elt' [g] sc pos') sc F.env (firstIterPos [g] pos') (newList []) (firstAsync [g]) (firstIter [g] F.env) (some (assign (.Name x px) F.env))) _ _ s
 have hfi:firstIter [g] F.env=eval g.iter F.env:=by cases g;rfl
 rw [ha,hfi]
 refine wpAny_bind (wpAny_mono (sq (use:=some (assign (.Name x px) F.env)) (QQ:=fun _ s'=>i0 C F ρ s Q .next s') G cx h0 h1 h2 (fun e=>h3.resolve_left (by rw [e];decide)) h4 hxs h5 h6 h7 h8 (fun a ha=>(sEs G src X c F cx a ha).1)
  (fun F' cx'=>(sE G elt noX _ F' cx').1) (fun F' cx' a ha=>(sEs G ifs noX _ F' cx' a ha).2) h R fun D L ρ' m' s' j st R' rx hq hl=>?_) (fun _ s' hq=>wpAny_pure (wpAny_pure hq)) fun _ _ x=>x)
 show wpAny _ _ (assign (.Name x px) F.env (.ref D)) _ _ _
 refine PyProof.Rows.assign_Name (gL cx R' hx hk rx fun s₂ st2 R₂=>?_)
 obtain ⟨⟨f,hf⟩,hs⟩:=hl ρ' _ s₂ st2 R₂
 refine ⟨f,hf,fun h' hsb=>?_⟩
 obtain ⟨Rf,stf,hsol⟩:=hs h' hsb
 exact ⟨ρ',_,.next,stf,Rf,.next,hq⟩
noncomputable def SS (C:Glo) (X:XM) (n:Nat) (c:Cx) (F:Fm) (me:MSt):Prop:=∀(e:Stmt),E3 c me e=true→∀(Q:Fl→MS→Prop) (m:MS),wpS (Call C) n me Q X m→WPs C F X (exec e F.env) Q m
noncomputable def SSs (C:Glo) (X:XM) (n:Nat) (c:Cx) (F:Fm) (ss:List MSt):Prop:=∀(es:List Stmt),hJ c ss es=true→∀(Q:Fl→MS→Prop) (m:MS),aD (Call C) n ss Q X m→WPs C F X (execs es F.env) Q m
theorem De (G:GOk C) (cx:ay C c F n) {t:List Nat}{many:Bool}{e:ME}:SS C X n c F (.asg t many e):=by
 intro st hc Q m h
 obtain ⟨hv,hc⟩:=ao hc
 obtain ⟨tg,h1,hc⟩:=ae hc
 rw [cI hv rfl,cb h1]
 clear hv h1
 generalize (aQ st).e2=v at *
 generalize (aQ st).p=pos at *
 obtain ⟨hc,he⟩:=ao hc
 obtain ⟨hc,hnh⟩:=ao hc
 obtain ⟨hc,hcm⟩:=ao hc
 obtain ⟨hc,hm⟩:=ao hc
 obtain ⟨ht,ho⟩:=ao hc
 intro s ρ R
 cases many with
 | false=>
  obtain ⟨i,x,px,rfl,rfl,h1,h2⟩:=pk ht
  obtain ⟨b,hb⟩:=qX ho x px pos.line F.env
  cases b with
  | false=>
   refine wpAny_Assign_Name ((fk G cx e v he _ m h).go R (.refl _ _ _) fun ρ₁ s₁ m₁ y w st t1 R₁ rx h₁=>?_) hb
   exact gL cx R₁ h1 (iU h2) rx fun s₂ st2 R₂=>⟨ρ₁,_,.next,t1.trans st2,R₂,.next,h₁⟩
  | true=>exact xb G cx h1 (iU h2) ((Co hcm).resolve_left fun q=>q (qY ho hb)) he hb h R
 | true=>
  obtain ⟨elts,k,p,rfl,_⟩:=gN ht
  refine PyProof.Rows.Assign_Tuple ((fk G cx e v he _ m h).go R (.refl _ _ _) fun ρ₁ s₁ m₁ y w st t1 R₁ rx h₁=>?_) (t8 ho elts k p pos.line F.env) (qW (jV hm) ho _)
  exact wpAny_mono (jD cx ht rx R₁ h₁ fun _=>cx.hn (by rw [←hnh];exact (Bool.or_false _).symm)) (fun _ s₂ ⟨m',st2,R₂,q⟩=>⟨ρ₁,m',.next,t1.trans st2,R₂,.next,q⟩) fun _ _ x=>x
theorem t9 (G:GOk C) (cx:ay C c F n) (R:Rel C F ρ m s) (t3:ax F.W ρ₀ s₀ ρ s) {x y u:MV}{xv yv uv:Value}(rx:Rep C ρ s.heap x xv) (ry:Rep C ρ s.heap y yv) (ru:Rep C ρ s.heap u uv) {Q:Fl→MS→Prop}(h:o0 x y u (Q .next) m) :
  wpAny (mod C) A (setItem xv yv uv) (fun _ s'=>i0 C F ρ₀ s₀ Q .next s') E s:=by
 refine Classical.byContradiction fun hn=>?_
 cases y with
 | str k=>
  obtain ⟨r,rfl,h1⟩:=fb h
  obtain ⟨es,hes,hlen,hq⟩:=oU h1
  obtain ⟨a,rfl,g⟩:=rx.inv
  obtain ⟨t,rfl,z⟩:=ry.inv
  obtain ⟨kvs,dk,rk,zz⟩:=R.hp.objs _ _ _ hes g
  refine hn (wpAny_setItem_pairs (knd:=strKind C.prog C.w) (k:=str k) (strKind_is _ _ _ _) dk (fun h' hd hs=>?_) (by rw [rk.length];exact Nat.le_of_lt hlen))
  have hk:∀b ob,b≠a→s.heap.get? b=some ob→h'.get? b=some ob:=fun b ob q e=>(hs.2 b q).trans e
  have hsol:ba s.heap h':=cq hk (bU (R.hp.objs _ _ _ hes g))
  have hnd:(kvs.map (·.1)).Nodup:=by obtain ⟨_,_,_,_,_,_,_,_,hn⟩:=dk;exact hn
  obtain ⟨R₄,st₄⟩:=R.put (s':={ s with heap:=h',toks:=s.toks+1 }) cx.fm g hes (o:=.dict (bA es k u)) hk rfl rfl
   ⟨_,hd,(jX rk hnd z ru).up hsol (List.prefix_refl _),Nat.le_trans (lT es k u) hlen⟩
  exact ⟨_,_,.next,t3.trans st₄,R₄,.next,hq⟩
 | int k=>
  obtain ⟨r,rfl,h1⟩:=fb h
  obtain ⟨xs,hi,h1⟩:=cD h1
  obtain ⟨j,hj,h1,hq⟩:=cj h1
  obtain ⟨t,rfl⟩:=ry.inv
  exact hn (zO cx.fm R rx hi hj h1 ru fun s' R₄ st₄=>⟨_,_,.next,t3.trans st₄,R₄,.next,hq⟩)
 | _=>exact h
set_option tactic.hygienic true in
theorem ua (G:GOk C) (cx:ay C c F n) {o i e:ME}:SS C X n c F (.setIdx o i e):=by
 intro st hc Q m h
 obtain ⟨hv,hc⟩:=ao hc
 obtain ⟨tg,h1,hc⟩:=ae hc
 rw [cI hv rfl,cb h1]
 clear hv h1
 generalize (aQ st).e2=v at *
 generalize (aQ st).p=pos at *
 obtain ⟨hc,ho⟩:=ao hc
 obtain ⟨hc,he⟩:=ao hc
 obtain ⟨hox,hcomp⟩:=ao hc
 obtain ⟨⟨ov,iv⟩,hx,ho⟩:=ae ho
 obtain ⟨p,rfl⟩:=nU hx
 obtain ⟨ho,hi⟩:=ao ho
 intro s ρ R
 refine wpAny_Assign_Subscript ((fk G cx e v he _ m h).go R (.refl _ _ _) fun ρ₁ s₁ m₁ x xv st t1 R₁ rx h₁=>?_) (eE (jV hcomp) hox _ _ _)
 refine (fk G cx o ov ho _ m₁ h₁).go R₁ t1 fun ρ₂ s₂ m₂ y yv st2 t2 R₂ ry h₂=>?_
 exact (fk G cx i iv hi _ m₂ h₂).go R₂ t2 fun ρ₃ s₃ m₃ z zv st3 t3 R₃ rz h₃=>t9 G cx R₃ t3 (ry.step st3) rz ((rx.step st2).step st3) h₃
theorem zQ (G:GOk C) (cx:ay C c F n) {e:ME}:SS C X n c F (.expr e):=by
 intro st hc Q m h
 obtain ⟨hv,hc⟩:=ao hc
 obtain ⟨hc,he⟩:=ao hc
 obtain ⟨h1,h2⟩:=ao hc
 rw [cI hv rfl]
 intro s ρ R
 exact wpAny_Expr_any ((fk G cx e _ he _ m h).go R (.refl _ _ _) fun ρ₁ s₁ m₁ y w st t1 R₁ rx h₁=>⟨_,_,.next,t1,R₁,.next,h₁⟩) cx.inter (eE (jV h2) h1 _ _ _)
theorem Df (G:GOk C) (cx:ay C c F n) {d:ME}{a b:List MSt}(ia:SSs C X n c F a) (ib:SSs C X n c F b):SS C X n c F (.ite d a b):=by
 intro st hc Q m h
 obtain ⟨hv,hc⟩:=ao hc
 obtain ⟨hc,hb⟩:=ao hc
 obtain ⟨hd,ha⟩:=ao hc
 rw [cI hv rfl]
 intro s ρ R
 refine wpAny_If ((wW G cx d _ hd _ m h).go R (.refl _ _ _) fun ρ₁ s₁ m₁ t st t1 R₁ h₁=>?_)
 cases t with
 | true=>exact wpAny_mono (ia _ ha Q m₁ h₁ s₁ ρ₁ R₁) (i0.back t1) (Er.back t1)
 | false=>exact wpAny_mono (ib _ hb Q m₁ h₁ s₁ ρ₁ R₁) (i0.back t1) (Er.back t1)
theorem Dg (G:GOk C) (cx:ay C c F n) (fo:oe F) {t:List Nat}{many:Bool}{k:IK}{src:List ME}{body:List MSt}(ib:SSs C X n c F body):SS C X n c F (.for_ t many k src body):=by
 intro st hc Q m h
 obtain ⟨hv,hc⟩:=ao hc
 obtain ⟨hc,hb⟩:=ao hc
 obtain ⟨hc,hi⟩:=ao hc
 obtain ⟨hc,hx⟩:=ao hc
 obtain ⟨hc,hm⟩:=ao hc
 obtain ⟨hc,ht⟩:=ao hc
 obtain ⟨hnh,hb2⟩:=ao hc
 rw [cI hv rfl,List.isEmpty_iff.mp hb2]
 intro s ρ R
 obtain ⟨xs,hxs,hi⟩:=ae hi
 refine wpAny_For (wpAny_mono (sa G cx hnh (fun a ha=>(sEs G src X c F cx a ha).1) hxs hi (jW ht) (fun e=>by
  obtain rfl:=(Co hm).resolve_left fun q=>q e
  obtain ⟨a,b,d,e,_⟩:=gN ht
  exact ⟨a,b,d,e,trivial⟩) (P:=fun items g m=>dA g (fun v P m=>asg t many v (fun m=>aD (Call C) n body P X m) m) Q items m) h R) (fun xv s₁ h₁=>wpAny_mono h₁ (fun itv s₂ h₂=>?_) fun _ _ x=>x) fun _ _ x=>x) (lc hx _)
 obtain ⟨ρ₂,m₂,items,g,S,It,st₂,R₂,wk,h0,as,hS,_,hf⟩:=h₂
 refine Dd cx fo R.hp.base wk hS (fun x v ρ m s P R rv hst=>?_) st₂ R₂ h0 as hf
 refine wpAny_mono (jD (E:=fun _ _=>False) cx ht rv R hst fun _=>cx.hn hnh) (fun _ s₁ ⟨m',st1,R₁,q⟩=>?_) fun _ _ x=>x.elim
 exact wpAny_mono (ib _ hb P m' q s₁ ρ R₁) (i0.back st1) (Er.back st1)
theorem xc (G:GOk C) (cx:ay C c F n) (fo:oe F) {d:ME}{body:List MSt}(ib:SSs C X n c F body):SS C X n c F (.while_ d body):=by
 intro st hc Q m h
 obtain ⟨hv,hc⟩:=ao hc
 obtain ⟨hc,hb⟩:=ao hc
 obtain ⟨hb2,hd⟩:=ao hc
 rw [cI hv rfl,List.isEmpty_iff.mp hb2]
 obtain ⟨k,h⟩:=h
 intro s ρ R
 refine wpAny_While (codeAny_whileLoop (WhI C F (bS (fun P m=>wpE (Call C) n d (bF P) X m) (fun P m=>aD (Call C) n body P X m) Q) ρ s) (fun k s₁ hI=>?_) k ⟨ρ,m,.refl _ _ _,R,h⟩)
 obtain ⟨ρ₁,m₁,st₁,R₁,hw⟩:=hI
 cases k with
 | zero=>rw [oX] at hw;exact hw.elim
 | succ k=>
  rw [fK] at hw
  refine wpAny_mono (wW G cx d _ hd _ m₁ hw s₁ ρ₁ R₁) (fun t s₂ ⟨ρ₂,m₂,st₂,R₂,h₂⟩=>?_) fun e s' x=>kA cx.fm fo R.hp.base (Er.back st₁ e s' x)
  cases t with
  | true=>
   rw [if_pos rfl]
   refine wpAny_mono (ib _ hb _ m₂ h₂ s₂ ρ₂ R₂) (fun f s₃ ⟨ρ₃,m₃,fl,st₃,R₃,hfl,h₃⟩=>?_) fun e s' x=>kA cx.fm fo R.hp.base (Er.back (st₁.trans st₂) e s' x)
   have stt:=(st₁.trans st₂).trans st₃
   cases fl with
   | next=>obtain rfl:=hfl.inv;exact ⟨k,Nat.lt_succ_self k,ρ₃,m₃,stt,R₃,h₃⟩
   | cont=>obtain rfl:=hfl.inv;exact ⟨k,Nat.lt_succ_self k,ρ₃,m₃,stt,R₃,h₃⟩
   | brk=>obtain rfl:=hfl.inv;exact ⟨ρ₃,m₃,.next,stt,R₃,.next,h₃⟩
   | ret r=>obtain ⟨v,rfl,rv⟩:=hfl.inv;exact ⟨ρ₃,m₃,.ret _,stt,R₃,.ret rv,h₃⟩
  | false=>
   rw [if_neg (by decide)]
   exact wpAny_execs_nil ⟨ρ₂,m₂,.next,st₁.trans st₂,R₂,.next,h₂⟩
theorem xd {e:ME}(h:su e=true):e=.cst .none:=by
 cases e with
 | cst v=>cases v<;>first | rfl | exact ff h
 | _=>exact ff h
theorem Dh (G:GOk C) (cx:ay C c F n) {e:ME}:SS C X n c F (.ret e):=by
 intro st hc Q m h
 obtain ⟨hv,hc⟩:=ao hc
 rw [cI hv rfl]
 clear hv
 intro s ρ R
 cases ho:(aQ st).o1 with
 | some x=>
  rw [ho] at hc
  exact wpAny_Return_some ((fk G cx e _ hc _ m h).go R (.refl _ _ _) fun ρ₁ s₁ m₁ y w st t1 R₁ rx h₁=>⟨_,_,_,t1,R₁,.ret rx,h₁⟩)
 | none=>
  rw [ho] at hc
  obtain rfl:=xd hc
  exact wpAny_Return_none ⟨ρ,m,.ret .none,.refl _ _ _,R,.ret .none,h⟩
theorem zR:SS C X n c F .cont:=by
 intro st hc Q m h
 rw [cI hc rfl]
 intro s ρ R
 exact wpAny_Continue ⟨_,_,_,.refl _ _ _,R,.cont,h⟩
theorem zS:SSs C X n c F []:=by
 intro es hc Q m h
 cases es with
 | nil=>intro s ρ R;exact wpAny_execs_nil ⟨_,_,_,.refl _ _ _,R,.next,h⟩
 | cons=>exact ff hc
theorem xe {x:MSt}{ss:List MSt}(ix:SS C X n c F x) (iss:SSs C X n c F ss):SSs C X n c F (x::ss):=by
 intro es hc Q m h
 cases es with
 | nil=>exact ff hc
 | cons e es=>
  replace hc:=ao hc
  intro s ρ R
  refine wpAny_execs_cons (wpAny_mono (ix e hc.1 _ m h s ρ R) (fun f s₁ ⟨ρ₁,m₁,fl,st,R₁,hfl,h₁⟩=>?_) fun _ _ x=>x)
  cases fl with
  | next=>obtain rfl:=hfl.inv;exact wpAny_mono (iss es hc.2 Q m₁ h₁ s₁ ρ₁ R₁) (i0.back st) (Er.back st)
  | brk=>obtain rfl:=hfl.inv;exact ⟨_,_,_,st,R₁,.brk,h₁⟩
  | cont=>obtain rfl:=hfl.inv;exact ⟨_,_,_,st,R₁,.cont,h₁⟩
  | ret r=>obtain ⟨v,rfl,rv⟩:=hfl.inv;exact ⟨_,_,_,st,R₁,.ret rv,h₁⟩
end
end Internal
end
section
namespace Internal
open PySem PyProof.Rows
theorem fq:∀(es:List (List Nat × MV)) (x:List Nat) (v:MV) (k:List Nat),aE (bA es x v) k=if k=x then some v else aE es k
 | [],x,v,k=>by
  show (match x==k with | true=>some v | false=>none)=_
  by_cases e:k=x
  ·subst e;rw [beq_self_eq_true,if_pos rfl]
  ·rw [if_neg e,beq_eq_false_iff_ne.mpr (Ne.symm e)];rfl
 | (y,w)::r,x,v,k=>by
  have ih:=fq r x v k
  by_cases e:y=x
  ·subst e
   show aE (match y==y with | true=>(y,v)::r | false=>(y,w)::bA r y v) k=_
   rw [beq_self_eq_true]
   show (match y==k with | true=>some v | false=>aE r k)=if k=y then some v else (match y==k with | true=>some w | false=>aE r k)
   by_cases e2:k=y
   ·subst e2;rw [beq_self_eq_true,if_pos rfl]
   ·rw [if_neg e2,beq_eq_false_iff_ne.mpr (Ne.symm e2)]
  ·show aE (match y==x with | true=>(y,v)::r | false=>(y,w)::bA r x v) k=_
   rw [beq_eq_false_iff_ne.mpr e]
   show (match y==k with | true=>some w | false=>aE (bA r x v) k)=if k=x then some v else (match y==k with | true=>some w | false=>aE r k)
   by_cases e2:y=k
   ·subst e2;rw [beq_self_eq_true,if_neg e]
   ·rw [beq_eq_false_iff_ne.mpr e2];exact ih
theorem pG:∀{es:List (List Nat × MV)}{k:List Nat},aE es k≠none→k∈es.map (·.1)
 | [],_,h=>absurd rfl h
 | (y,w)::r,k,h=>by
  by_cases e:y=k
  ·subst e;exact List.mem_cons_self ..
  ·refine List.mem_cons_of_mem _ (pG fun q=>h ?_)
   show (match y==k with | true=>some w | false=>aE r k)=none
   rw [beq_eq_false_iff_ne.mpr e];exact q
section
variable {C:Glo}{F:Fm}{X:XM}{c:Cx}{n:Nat}{ρ:List Addr}{m:MS}{s:Shared}{A:Around}{E:Value→Shared→Prop}
theorem xf (G:GOk C) (cx:ay C c F n) (R:Rel C F ρ m s) {k i:Nat}{x:List Nat}{y:Str}{v:Value}{u:MV}{uv:Value}(hx:Rep C ρ s.heap (.inst k i) v) (hu:Rep C ρ s.heap u uv) {es:List (List Nat × MV)}(hi:m.heap[i]?=some (.attrs es)) (hl:es.length<1000) (hy:y=str x) (hno:cW.contains y=true) (ha:c.at_ k y=true) {P:Unit→Shared→Prop}
  (h:∀s',ax F.W ρ s ρ s'→Rel C F ρ (m.put i (.attrs (bA es x u))) s'→P () s'):wpAny (mod C) A (setAttr v y uv) P E s:=by
 obtain ⟨a,K,N,da,mA,rfl,hc,hN,hao,hρ,hns,I,had,haK,h1,h2⟩:=lO G R hx hi
 obtain ⟨q1,q2,q3⟩:=G.quiet _ _ hc
 obtain ⟨nm,q,bs,sn,sub,col,dd,k0,k1,k2,k3,k5,e⟩:=lN hN
 obtain ⟨hp,gg,dr,t,os⟩:=s
 subst hy
 refine store_attr (ns:=es.map fun p=>str p.1) PySem.F.store_object e hN.ns q1 (cx.attr _ _ ha) (pC hno) haK I (fun h' tk' I' hk hx'=>?_) (fun z hz=>?_) (by rw [List.length_map,sizeLine_eq];exact n1 hl (by simp +arith only))
 ·obtain ⟨o₁,e1,e2,e3,e4,e5⟩:=hx' _ hao
  have e6:=e5 da rfl
  obtain ⟨o₂,g1,g2,g3,g4⟩:=I'
  obtain rfl:=same e1 g1
  have hns':h'.Ns1 da (fun y=>if y=str x then some uv else mA y):=by
   rcases g4 with ⟨g4,_⟩ | ⟨d',g4,_,g5⟩
   ·exact aO g4 e6
   ·obtain rfl:=same e6 g4;exact g5
  have ho:o₁=jT K da:=by
   obtain ⟨c1,d1,t1,s1⟩:=o₁
   simp only at e2 e3 e4 e6
   subst e2;subst e3;subst e4;subst e6;rfl
  subst ho
  have hkk:∀b ob,b≠da→hp.get? b=some ob→h'.get? b=some ob:=fun b ob hb eb=>by
   by_cases hba:b=a
   ·subst hba;obtain rfl:=same hao eb;exact e1
   ·exact hk b ob hba (fun o₀ dx q1 q2=>by obtain rfl:=same hao q1;obtain rfl:=Option.some.inj q2;exact hb) eb
  have hsol:ba hp h':=cq hkk (bU (R.hp.objs _ _ _ hi hρ))
  obtain ⟨R',st⟩:=R.put (s':=⟨h',gg,dr,tk',os⟩) cx.fm hρ hi (o:=.attrs (bA es x u)) hkk rfl rfl
   (show u4 _ _ _ _ _ from ⟨_,hns',fun z w e=>by
    rw [fq] at e
    by_cases ez:z=x
    ·subst ez
     obtain rfl:=Option.some.inj ((if_pos rfl).symm.trans e)
     exact ⟨uv,if_pos rfl,hu.up hsol (List.prefix_refl _)⟩
    ·rw [if_neg ez] at e
     obtain ⟨w',hw,rw'⟩:=h1 z w e
     exact ⟨w',by rw [if_neg fun q=>ez (iL q)];exact hw,rw'.up hsol (List.prefix_refl _)⟩,fun z e=>by
    rw [fq] at e
    by_cases ez:z=x
    ·subst ez;exact im ((if_pos rfl).symm.trans e)
    ·rw [if_neg ez] at e
     rw [if_neg fun q=>ez (iL q)];exact h2 z e,Nat.le_trans (lT es x u) hl⟩)
  exact h _ st R'
 ·have ez:z=str z.cps.toList:=by obtain ⟨⟨l⟩⟩:=z;rfl
  rw [ez]
  refine List.mem_map.mpr ?_
  have hk:z.cps.toList∈es.map (·.1):=pG fun q=>hz (by rw [ez];exact h2 _ q)
  obtain ⟨p,hp,e⟩:=List.mem_map.mp hk
  exact ⟨p,hp,congrArg str e⟩
theorem qZ (G:GOk C) (cx:ay C c F n) {k:Nat}{o e:ME}{x:List Nat}:SS C X n c F (.setAttr k o x e):=by
 intro st hc Q m h
 obtain ⟨hv,hc⟩:=ao hc
 obtain ⟨tg,h1,hc⟩:=ae hc
 rw [cI hv rfl,cb h1]
 clear hv h1
 generalize (aQ st).e2=v at *
 generalize (aQ st).p=pos at *
 obtain ⟨hc,ho⟩:=ao hc
 obtain ⟨hc,he⟩:=ao hc
 obtain ⟨hox,hcomp⟩:=ao hc
 obtain ⟨⟨ov,name,p⟩,hx,ho⟩:=ae ho
 obtain rfl:=k9 hx
 obtain ⟨hc,ho⟩:=ao ho
 obtain ⟨hc,hat⟩:=ao hc
 obtain ⟨hn,hno⟩:=ao hc
 intro s ρ R
 refine plainObj_wpAny_Assign_Attribute ((fk G cx e v he _ m h).go R (.refl _ _ _) fun ρ₁ s₁ m₁ u uv st t1 R₁ ru h₁=>?_) (eE (jV hcomp) hox _ _ _)
 refine (fk G cx o ov ho _ m₁ h₁).go R₁ t1 fun ρ₂ s₂ m₂ y yv st2 t2 R₂ ry h₂=>?_
 obtain ⟨i,rfl,h3⟩:=oZ h₂
 obtain ⟨es,hi,hl,hq⟩:=oY h3
 exact xf G cx R₂ ry (ru.step st2) hi hl (qQ hn) hno hat fun s' st3 R'=>⟨_,_,.next,t2.trans st3,R',.next,hq⟩
end
end Internal
end
section
namespace Internal
open PySem PyProof.Rows
section
variable {C:Glo}{F:Fm}{X:XM}{c:Cx}{n:Nat}{ρ:List Addr}{m:MS}{s:Shared}{A:Around}{E:Value→Shared→Prop}
theorem xg (G:GOk C) (cx:ay C c F n) {k:Nat}:SS C X n c F (.raise k):=fun st hc Q m h=>ff h.1
end
end Internal
end
section
namespace Internal
open PySem PyProof.Rows
section
variable {C:Glo}{F:Fm}{X:XM}{c:Cx}{n:Nat}{ρ ρ₀:List Addr}{m:MS}{s s₀:Shared}{A:Around}{E:Value→Shared→Prop}
theorem Di (G:GOk C) (cx:ay C c F n) (fo:oe F) {body h:List MSt}{k v:Nat}(ib:∀X',SSs C X' n c F body) (ih:∀F',ay C (inH c) F' n→oe F'→SSs C noX n (inH c) F' h):SS C X n c F (.try_ body k v h):=fun st hc Q m h=>ff h.1
end
end Internal
end
section
namespace Internal
open PySem PyProof.Rows
section
variable {C:Glo}{n:Nat}
mutual
theorem Dj (G:GOk C):∀(me:MSt) (X:XM) (c:Cx) (F:Fm),ay C c F n→oe F→SS C X n c F me
 | .asg t many e,X,c,F,cx,fo=>De G cx
 | .setAttr k o x e,X,c,F,cx,fo=>qZ G cx
 | .setIdx o i e,X,c,F,cx,fo=>ua G cx
 | .expr e,X,c,F,cx,fo=>zQ G cx
 | .ite d a b,X,c,F,cx,fo=>Df G cx (d5 G a X c F cx fo) (d5 G b X c F cx fo)
 | .for_ t many k src body,X,c,F,cx,fo=>Dg G cx fo (d5 G body X c F cx fo)
 | .while_ d body,X,c,F,cx,fo=>xc G cx fo (d5 G body X c F cx fo)
 | .ret e,X,c,F,cx,fo=>Dh G cx
 | .cont,X,c,F,cx,fo=>zR
 | .raise k,X,c,F,cx,fo=>xg G cx
 | .try_ body k v h,X,c,F,cx,fo=>Di G cx fo (fun X'=>d5 G body X' c F cx fo) fun F' cx' fo'=>d5 G h noX _ F' cx' fo'
theorem d5 (G:GOk C):∀(ss:List MSt) (X:XM) (c:Cx) (F:Fm),ay C c F n→oe F→SSs C X n c F ss
 | [],X,c,F,cx,fo=>zS
 | x::ss,X,c,F,cx,fo=>xe (Dj G x X c F cx fo) (d5 G ss X c F cx fo)
end
end
end Internal
end
section
namespace Internal
open PySem PyProof.Rows
set_option genCtorIdx false in
structure Sg where
 fn:Nat→Option Str
 gl:Nat→Option (Str × MV)
 hf:Nat→Bool
 cn:Nat→Option Str
 xn:Nat→Option Str
 mt:Nat→Option (Nat × Str)
 at_:Nat→Str→Bool
noncomputable def zT (sc:Scope) (ns:List Str) (z:Sg) (nh:Bool):Cx:=⟨fun x=>sc.names.lookup x,fun i=>ns[i]?,z.fn,z.gl,true,fun i=>decide (ns.length≤i),nh,z.hf,z.cn,z.xn,z.mt,z.at_⟩
noncomputable def sv (C:Glo) (g b:Addr) (z:Sg):Prop:=vq C g b z.fn z.gl z.cn z.xn
structure FE (C:Glo) (z:Sg):Prop where
 meth:∀f k x,z.mt f=some (k,x)→∃a,C.fa f=some a∧C.cm k x=some (.ref a)∧∃o,C.base.get? a=some o∧o.cls=.type "function"
 attr:∀k x,z.at_ k x=true→C.cm k x=none
 hf:z.hf=C.hf
noncomputable def oh (sc:Scope) (ps ns:List Str):Bool:=
 ps.isPrefixOf ns&&decide ns.Nodup&&ns.all (fun x=>sc.names.lookup x==some .local||(sc.names.lookup x==some .cell&&((cellsFrom 0 sc.names []).lookup x).isSome))
theorem pH {sc:Scope}{ps ns:List Str}(h:oh sc ps ns=true):ps<+:ns∧ns.Nodup∧∀x∈ns,sc.names.lookup x=some .local∨(sc.names.lookup x=some .cell∧((cellsFrom 0 sc.names []).lookup x).isSome=true):=by
 obtain ⟨h,h3⟩:=ao h
 obtain ⟨h1,h2⟩:=ao h
 refine ⟨List.isPrefixOf_iff_prefix.mp h1,of_decide_eq_true h2,fun x hx=>?_⟩
 rcases Bool.or_eq_true_iff.mp (List.all_eq_true.mp h3 x hx) with q | q
 ·exact .inl (eq_of_beq q)
 ·exact .inr ⟨eq_of_beq (ao q).1,(ao q).2⟩
inductive E4 (C:Glo) (z:Sg) (nh:Bool) (d:Fn) (a:Addr):Prop
 | mk (o:Obj) (fd:FuncData) (body:List Stmt) (ps ns:List Str) (ho:C.base.get? a=some o) (hd:o.data=.func fd) (hcd:C.base.CodeRec fd.code fd.qualname) (hbody:fd.body=.stmts body) (hclo:fd.closure=[]) (hco:fd.scope.isCoroutine=false) (hgen:fd.scope.isGenerator=false)
   (hk:fd.scope.kind=.function) (hbind:∀vals:List Value,vals.length=ps.length→bindArgs fd ⟨vals,[]⟩=pure (ps.zip vals)) (hps:ps.length=d.args) (hns:oh fd.scope ps ns=true) (hchk:hJ (zT fd.scope ns z nh) d.body body=true) (hgl:sv C fd.globals fd.builtins z)
noncomputable def sw (C:Glo) (z:Sg) (P:Nat→Option Fn):Prop:=FE C z∧∀f d a,P f=some d→C.fa f=some a→E4 C z (!C.hf f) d a
theorem dE:∀(names:List (Str × NameKind)) (n k:Nat) (acc acc':List (Str × Addr)) (x:Str),(∀y,(acc.lookup y).isSome=(acc'.lookup y).isSome)→((cellsFrom n names acc).lookup x).isSome=((cellsFrom k names acc').lookup x).isSome
 | [],n,k,acc,acc',x,h=>h x
 | (y,kd)::r,n,k,acc,acc',x,h=>by
  unfold cellsFrom
  split
  ·refine dE r _ _ _ _ x fun z=>?_
   simp only [List.lookup_cons]
   split
   ·rfl
   ·exact h z
  ·exact dE r _ _ _ _ x h
section
variable {C:Glo}{ρ:List Addr}{h:Heap}
theorem zU {ps:List Str}{ws:List Value}(hl:ws.length=ps.length) {i:Nat}{x:Str}{w:Value}(e1:ps[i]?=some x) (e2:ws[i]?=some w):(ps.zip ws)[i]?=some (x,w):=by
 rw [List.getElem?_zip_eq_some];exact ⟨e1,e2⟩
theorem jY (k:Str→Option NameKind):∀(l:List (Str × Value)) (m:Str→Option Value) (x:Str),(∀p∈l,p.1≠x)→bindL k l m x=m x
 | [],m,x,_=>rfl
 | (n,v)::r,m,x,h=>by
  unfold bindL
  rw [jY k r _ x fun p hp=>h p (List.mem_cons_of_mem _ hp)]
  have:n≠x:=h _ (List.mem_cons_self ..)
  split
  ·exact if_neg fun q:x=n=>this q.symm
  ·rfl
theorem jZ (k:Str→Option NameKind):∀(l:List (Str × Value)) (m:Str→Option Value) (x:Str),(∀p∈l,p.1≠x)→bindC k l m x=m x
 | [],m,x,_=>rfl
 | (n,v)::r,m,x,h=>by
  unfold bindC
  rw [jZ k r _ x fun p hp=>h p (List.mem_cons_of_mem _ hp)]
  have:n≠x:=h _ (List.mem_cons_self ..)
  split
  ·rfl
  ·exact if_neg fun q:x=n=>this q.symm
theorem ub (k:Str→Option NameKind) (l:List (Str × Value)) (m:Str→Option Value) (x:Str) (w:Value) (hn:(l.map (·.1)).Nodup) (hm:(x,w)∈l) (hk:k x=some .local):bindL k l m x=some w:=by
 induction l generalizing m with
 | nil=>exact aX hm
 | cons p r ih=>
  obtain ⟨h1,h2⟩:=List.nodup_cons.mp hn
  unfold bindL
  rcases List.mem_cons.mp hm with e | hm
  ·subst e
   rw [jY k r _ _ fun p hp q=>h1 (List.mem_map.mpr ⟨p,hp,q⟩),if_pos hk];exact if_pos rfl
  ·exact ih _ h2 hm
theorem uc (k:Str→Option NameKind) (l:List (Str × Value)) (m:Str→Option Value) (x:Str) (w:Value) (hn:(l.map (·.1)).Nodup) (hm:(x,w)∈l) (hk:k x≠some .local):bindC k l m x=some w:=by
 induction l generalizing m with
 | nil=>exact aX hm
 | cons p r ih=>
  obtain ⟨n,v⟩:=p
  simp only [List.map_cons,List.nodup_cons] at hn
  unfold bindC
  rcases List.mem_cons.mp hm with e | hm
  ·cases e
   rw [jZ k r _ _ fun p hp q=>hn.1 (List.mem_map.mpr ⟨p,hp,q⟩),if_neg hk];simp
  ·exact ih _ hn.2 hm
theorem ud {d:Fn}{vs:List MV}{hp:List MO}{i:Nat}{v:MV}(e:(cE d vs hp).get i=some v):vs[i]?=some v:=by
 have hw:(vs.map some++List.replicate _ none)[i]?=some (some v):=MS.get_at e
 rcases Nat.lt_or_ge i (vs.map some).length with hi | hi
 ·rw [List.getElem?_append_left hi,List.getElem?_map] at hw
  obtain ⟨u,h1,h2⟩:=Option.map_eq_some_iff.mp hw
  exact h1.trans h2
 ·rw [List.getElem?_append_right hi] at hw
  exact aB (List.eq_of_mem_replicate (List.mem_of_getElem? hw)).symm
noncomputable def jE (A:Around) (env:Env) (ns:List Str) (frs:List Addr):Fm where
 env:=env
 A:=A.deeper env
 W:=env.locals::ns.filterMap (fun x=>if env.kindOf x=some .local then none else env.cells.lookup x)
 V:=[]
 lay:=fun i=>match ns[i]? with
  | some x=>if env.kindOf x=some .local then some (.nm env.locals x) else match env.cells.lookup x with
   | some c=>some (.cl c)
   | none=>none
  | none=>none
 frs:=env.locals::frs
theorem zV {A:Around}{env:Env}{ns:List Str}{frs:List Addr}{i:Nat}{l:Loc}(e:(jE A env ns frs).lay i=some l):∃x,ns[i]?=some x∧((env.kindOf x=some .local∧l=.nm env.locals x)∨(env.kindOf x≠some .local∧∃c,env.cells.lookup x=some c∧l=.cl c)):=by
 replace e:(match ns[i]? with
  | some x=>if env.kindOf x=some .local then some (.nm env.locals x) else match env.cells.lookup x with
   | some c=>some (.cl c)
   | none=>none
  | none=>none)=some l:=e
 cases hx:ns[i]? with
 | none=>rw [hx] at e;exact aB e
 | some x=>
  rw [hx] at e
  refine ⟨x,rfl,?_⟩
  by_cases q:env.kindOf x=some .local
  ·exact .inl ⟨q,(Option.some.inj ((if_pos q).symm.trans e)).symm⟩
  ·replace e:=(if_neg q).symm.trans e
   cases hc:env.cells.lookup x with
   | none=>rw [hc] at e;exact aB e
   | some c=>rw [hc] at e;exact .inr ⟨q,c,rfl,(Option.some.inj e).symm⟩
inductive Dk (C:Glo) (Q:MV→List MO→Prop) (ρ:List Addr) (s:Shared) (v:Value) (s':Shared):Prop
 | mk (ρ':List Addr) (hp':List MO) (x:MV) (st:ax [] ρ s ρ' s') (H:Hp C ρ' hp' s'.heap) (rx:Rep C ρ' s'.heap x v) (hq:Q x hp'):Dk C Q ρ s v s'
theorem nq (G:GOk C) {z:Sg}{P:Nat→Option Fn}(H:sw C z P) {n f:Nat}{vs:List MV}{Q:MV→List MO→Prop}{X:XT}{hp:List MO}{d:Fn}(hP:P f=some d) (hlen:vs.length=d.args)
  (hw:aD (Call C) n d.body (fin Q) (fun c m=>X c m.heap) (cE d vs hp)) {A:Around}{s:Shared}{ws:List Value}{a:Addr}(hA:A.handled=none∨C.hf f=true) (hH:Hp C ρ hp s.heap) (hgens:s.gens=#[]) (rl:aG C ρ s.heap vs ws)
  {frs:List Addr}(hfrs:∃es,A.frames=some es∧∀e∈es,e.scope.kind≠.module∧∃L∈frs,e.frame=some L) (hout:∀L∈frs,EB C ρ s.heap L)
  (hroom:A.depth+(n+1)≤999) (hunits:A.units≤3 * A.depth+4) (hfa:C.fa f=some a) :
  wpAny (mod C) A (call (.ref a) ws) (Dk C Q ρ s) (ErC C X ρ s) s:=by
 obtain ⟨o,fd,body,ps,ns,ho,hd,hcd,hbody,hclo,hco,hgen,hk,hbind,hps,hns,hchk,hgl⟩:=H.2 f d a hP hfa
 obtain ⟨hpre,hnd,hall⟩:=pH hns
 have hwl:ws.length=ps.length:=by rw [rl.length,hlen,hps]
 have hmem:∀x∈ps,x∈ns:=fun x hx=>hpre.subset hx
 have hcellS:∀k x,((cellsFrom k fd.scope.names []).lookup x).isSome=((cellsFrom 0 fd.scope.names []).lookup x).isSome:=fun k x=>dE _ _ _ _ _ _ fun _=>rfl
 have hzip:∀p∈ps.zip ws,p.1∈ps:=fun p hp=>(List.of_mem_zip (a:=p.1) (b:=p.2) hp).1
 have hzn:((ps.zip ws).map (·.1)).Nodup:=by
  rw [List.map_fst_zip (n1 (Nat.le_of_eq hwl.symm) (by simp +arith only))]
  exact hnd.sublist hpre.sublist
 refine wpAny_call (codeAny_call_cells (by show _<1000;exact n1 hroom (by simp +arith only)) (hH.base _ _ ho) hd (G.nolimit.keeps hH.base) (hcd.keeps hH.base) hbody (hbind ws hwl) hclo (fun x hx=>?_) (fun s₁ ic=>?_) hco hgen hk)
 ·rcases hall _ (hmem _ (hzip x hx)) with q | ⟨q,q'⟩
  ·exact .inl q
  ·exact .inr ⟨q,by rw [hcellS];exact q'⟩
 ·generalize henv:callEnvC fd s.heap.objs.size a=env at ic ⊢
  have eL:env.locals=s.heap.objs.size:=by rw [←henv];rfl
  have eK:∀x,env.kindOf x=fd.scope.names.lookup x:=fun x=>by rw [←henv];rfl
  have eC:env.cells=cellsFrom (s.heap.objs.size+1) fd.scope.names []:=by rw [←henv];rfl
  have eS:env.scope=fd.scope:=by rw [←henv];rfl
  have eF:env.frame=some env.locals:=by rw [←henv];rfl
  have eG:env.globals=fd.globals∧env.builtins=fd.builtins:=by rw [←henv];exact ⟨rfl,rfl⟩
  obtain ⟨⟨⟨h₁,tk,hs₁⟩,hns1,hkeep,hfresh⟩,hcell,hapart,habove⟩:=ic
  have fL:s.heap.get? env.locals=none:=bo hfresh
  have hcl:∀x c,env.cells.lookup x=some c→s₁.heap.IsCell c (bindC env.kindOf (ps.zip ws) (fun _=>none) x)∧s.heap.get? c=none:=fun x c e=>by
   refine ⟨hcell x c e,bo ?_⟩
   have:=habove x c (mem_of_lookup e)
   exact Nat.le_of_lt (Nat.lt_of_le_of_lt hfresh this)
  have hg1:s₁.gens=s.gens∧s₁.os=s.os:=by rw [hs₁];exact ⟨rfl,rfl⟩
  have hW:∀b∈(jE A env ns frs).W,s.heap.get? b=none∧WOk s₁.heap b:=fun b hb=>by
   rcases List.mem_cons.mp hb with rfl | hb
   ·obtain ⟨o,es,ep,e1,e2,_⟩:=hns1
    exact ⟨fL,o,e1,.inl ⟨es,ep,e2⟩⟩
   ·obtain ⟨x,hx,e⟩:=List.mem_filterMap.mp hb
    split at e
    ·exact aB e
    ·obtain ⟨⟨o,e1,e2⟩,e3⟩:=hcl x b e
     exact ⟨e3,o,e1,.inr ⟨_,e2⟩⟩
  have hlay:∀i l,(jE A env ns frs).lay i=some l→∃x,ns[i]?=some x∧((env.kindOf x=some .local∧l=.nm env.locals x)∨(env.kindOf x≠some .local∧∃c,env.cells.lookup x=some c∧l=.cl c)):=fun i l e=>zV e
  have hidx:∀(i j:Nat) (x:Str),ns[i]?=some x→ns[j]?=some x→i=j:=fun i j x e1 e2=>by
   have h1:=List.getElem?_eq_some_iff.mp e1
   have h2:=List.getElem?_eq_some_iff.mp e2
   exact (List.getElem_inj hnd).mp (h1.2.trans h2.2.symm)
  have ok':aV (jE A env ns frs):=by
   refine ⟨List.mem_cons_self ..,fun i l e=>?_,fun i j l e1 e2=>?_,?_,?_⟩
   ·obtain ⟨x,hx,⟨q,rfl⟩ | ⟨q,c,hc,rfl⟩⟩:=hlay i l e
    ·exact List.mem_cons_self ..
    ·refine List.mem_append_left _ (List.mem_cons_of_mem _ (List.mem_filterMap.mpr ⟨x,List.mem_of_getElem? hx,?_⟩))
     rw [if_neg q];exact hc
   ·obtain ⟨x,hx,q1⟩:=hlay i l e1
    obtain ⟨y,hy,q2⟩:=hlay j l e2
    rcases q1 with ⟨_,rfl⟩ | ⟨_,c,hc,rfl⟩
    ·rcases q2 with ⟨_,q⟩ | ⟨_,c',_,q⟩
     ·cases q;exact hidx i j x hx hy
     ·cases q
    ·rcases q2 with ⟨_,q⟩ | ⟨_,c',hc',q⟩
     ·cases q
     ·cases q
      have:=name_of_addr hapart (mem_of_lookup hc) (mem_of_lookup hc')
      subst this
      exact hidx i j x hx hy
   ·show env.scope.kind=.function
    rw [eS];exact hk
   ·obtain ⟨es,h1,h2⟩:=hfrs
    refine ⟨env::es,by show A.frames.map (env::·)=_;rw [h1];rfl,fun e he=>?_⟩
    rcases List.mem_cons.mp he with rfl | he
    ·exact ⟨by rw [eS,hk];decide,_,List.mem_cons_self ..,eF⟩
    ·obtain ⟨q1,L,q2,q3⟩:=h2 e he
     exact ⟨q1,L,List.mem_cons_of_mem _ q2,q3⟩
  have fo:oe (jE A env ns frs):=by
   obtain ⟨es,h1,_⟩:=hfrs
   exact ⟨⟨es,by show A.frames.map (env::·)=_;rw [h1];rfl⟩,eF⟩
  have cx:ay C (zT fd.scope ns z (!C.hf f)) (jE A env ns frs) n:=by
   refine ⟨ok',fun x=>eK x,fun i x e=>?_,?_,H.1.meth,H.1.attr,fun e=>?_,H.1.hf,?_,?_,?_,fun i a e _=>(List.mem_append.mp (ok'.lay i _ e)).elim id (fun q=>nomatch q),fun i e=>?_⟩
   ·have hx:ns[i]?=some x:=e
    rcases hall x (List.mem_of_getElem? hx) with q | ⟨q,q'⟩
    ·refine .inl ⟨(eK x).trans q,?_⟩
     simp only [jE,hx,eK,q,if_true]
    ·have hne:fd.scope.names.lookup x≠some .local:=by rw [q];intro q;cases q
     rw [←hcellS (s.heap.objs.size+1),←eC] at q'
     obtain ⟨c,hc⟩:=Option.isSome_iff_exists.mp q'
     refine .inr ⟨c,.inl ((eK x).trans q),hc,?_⟩
     simp only [jE,hx,eK,q,hc]
     rfl
   ·show sv C env.globals env.builtins z
    rw [eG.1,eG.2];exact hgl
   ·refine hA.resolve_right fun q=>?_
    replace e:(!C.hf f)=true:=e
    rw [q] at e;cases e
   ·show A.units+3≤3 * (A.depth+1)+4
    exact n1 hunits (by simp +arith only)
   ·show A.depth+1+n≤999
    exact n1 hroom (by simp +arith only)
   ·show interactive env=false
    unfold interactive
    rw [eS,hk];rfl
   ·have e:ns.length≤i:=by simpa [zT] using e
    simp only [jE,List.getElem?_eq_none e]
  have hk':∀b ob,s.heap.get? b=some ob→s₁.heap.get? b=some ob:=hkeep
  have hs0:ba s.heap s₁.heap:=fun b ob e _=>hk' b ob e
  have R₁:Rel C (jE A env ns frs) ρ (cE d vs hp) s₁:=by
   refine ⟨?_,⟨_,hns1⟩,fun b hb=>?_,fun i v e=>?_,fun i c e=>?_,fun L hL=>?_,hg1.1.trans hgens⟩
   ·show Hp C ρ hp s₁.heap
    exact hH.up hs0 (fun b _ ob e=>hk' b ob e) fun b ob e=>hk' b ob (hH.base b ob e)
   ·have hb:b∈(jE A env ns frs).W:=(List.mem_append.mp hb).elim id fun q=>by exact aX q
    obtain ⟨h1,h2⟩:=hW b hb
    refine ⟨fun q=>?_,bT (m:=⟨[],hp⟩) hH h1,h2⟩
    obtain ⟨o',e'⟩:=Hp.there (m:=⟨[],hp⟩) hH q
    exact aO h1 e'
   ·have hv:=ud e
    obtain ⟨w,hw1,hw2⟩:=rl.get hv
    have hi:i<ps.length:=by rw [←hwl];exact (List.getElem?_eq_some_iff.mp hw1).1
    have hpi:ps[i]?=some ps[i]:=List.getElem?_eq_getElem hi
    have hni:ns[i]?=some ps[i]:=by
     obtain ⟨t,rfl⟩:=hpre
     rw [List.getElem?_append_left hi];exact hpi
    have hz:(ps[i],w)∈ps.zip ws:=List.mem_of_getElem? (zU hwl hpi hw1)
    rcases cx.nm i ps[i] hni with ⟨q1,q2⟩ | ⟨c,q1,q2,q3⟩
    ·refine ⟨_,q2,_,w,hns1,?_,hw2.up hs0 (List.prefix_refl _)⟩
     exact ub _ _ _ _ _ hzn hz q1
    ·refine ⟨_,q3,w,?_,hw2.up hs0 (List.prefix_refl _)⟩
     have:=(hcl ps[i] c q2).1
     rw [uc _ _ _ _ w hzn hz] at this
     ·exact this
     ·intro q
      have q1':env.kindOf ps[i]=some .cell∨env.kindOf ps[i]=some .free∧cdc ps[i]=false:=q1
      rw [q] at q1'
      rcases q1' with q1' | ⟨q1',_⟩<;>cases q1'
   ·obtain ⟨x,hx,⟨q,q'⟩ | ⟨q,c',hc,q'⟩⟩:=hlay i _ e
    ·cases q'
    ·cases q';exact ⟨_,(hcl x c hc).1⟩
   ·rcases List.mem_cons.mp hL with rfl | hL
    ·refine ⟨fun q=>?_,bT (m:=⟨[],hp⟩) hH fL,?_⟩
     ·obtain ⟨o',e'⟩:=Hp.there (m:=⟨[],hp⟩) hH q
      exact aO fL e'
     ·obtain ⟨o,es,ep,e1,e2,_⟩:=hns1
      exact ⟨o,e1,es,ep,e2⟩
    ·obtain ⟨h1,h2,o,h3,h4⟩:=hout L hL
     exact ⟨h1,h2,o,hk' L o h3,h4⟩
  have hnW:∀b ob,s.heap.get? b=some ob→b∉(jE A env ns frs).W:=fun b ob e q=>by rw [(hW b q).1] at e;exact aB e
  have hnn:∀b,s₁.heap.get? b=none→s.heap.get? b=none:=fun b q=>by
   cases e:s.heap.get? b with
   | none=>rfl
   | some ob=>rw [hk' b ob e] at q;exact im q
  have hst:∀{ρ' s'},ax (jE A env ns frs).W ρ s₁ ρ' s'→ax [] ρ s ρ' s':=fun {ρ' s'} st=>
   ⟨st.pre,fun b hb=>(st.new b hb).imp id (hnn b),fun b ob e h1 _=>st.keep b ob (hk' b ob e) h1 (hnW b ob e),fun b ob e hsd=>st.solid b ob (hk' b ob e) hsd,fun b ob e=>st.alive b ob (hk' b ob e),st.gens.trans hg1.1,st.os.trans hg1.2⟩
  refine wpAny_mono (d5 G d.body (fun c m=>X c m.heap) _ _ cx fo body hchk (fin Q) (cE d vs hp) hw s₁ ρ R₁) (fun fl s' hf=>?_) fun e s' he=>?_
  rotate_left
  ·exact False.elim he
  obtain ⟨ρ',m',f',st,R',hfl,hq⟩:=hf
  have key:∀v x,Rep C ρ' s'.heap x v→Q x m'.heap→Dk C Q ρ s v s':=fun v x rx hq=>⟨ρ',m'.heap,x,hst st,R'.hp,rx,hq⟩
  cases f' with
  | next=>obtain rfl:=hfl.inv;exact key .none .none .none hq
  | brk=>exact hq.elim
  | cont=>exact hq.elim
  | ret r=>obtain ⟨v,rfl,rv⟩:=hfl.inv;exact key _ _ rv hq
theorem ue {F:Fm}{m:MS}{s s':Shared}{ρ':List Addr}{hp':List MO}(okF:aV F) (R:Rel C F ρ m s) (st:ax [] ρ s ρ' s') (hH:Hp C ρ' hp' s'.heap):ax F.W ρ s ρ' s'∧Rel C F ρ' ⟨m.vars,hp'⟩ s':=by
 have hD:∀b ob,s.heap.get? b=some ob→b∉ρ→kX s.heap s'.heap b:=fun b ob e hb ob' e'=>by
  obtain rfl:=same e e'
  rcases st.keep b ob e hb (by exact List.not_mem_nil) with q | ⟨_,sl,q⟩
  ·exact ⟨_,q,rfl,rfl⟩
  ·exact ⟨_,q,rfl,rfl⟩
 refine ⟨⟨st.pre,st.new,fun b ob e h1 _=>st.keep b ob e h1 (by exact List.not_mem_nil),st.solid,st.alive,st.gens,st.os⟩,R.up okF st.solid st.pre hH st.new (fun b hb=>?_) (fun L hL=>?_) st.gens⟩
 ·obtain ⟨h1,_,ob,e,_⟩:=R.w b hb
  exact hD b ob e h1
 ·obtain ⟨h1,_,ob,e,_⟩:=R.out L hL
  exact hD L ob e h1
set_option tactic.hygienic true in
theorem Dl (G:GOk C) {z:Sg}{P:Nat→Option Fn}(H:sw C z P):aF P (Call C):=by
 intro n f vs Q X hp d hP hlen hw F m s ρ ws a okF hA hm R rl hroom hunits hfa
 refine wpAny_mono (nq G H hP hlen hw hA (by rw [←hm];exact R.hp) R.gens rl okF.frs R.out hroom hunits hfa) (fun v s' hr=>?_) fun e s' hr=>?_
 ·obtain ⟨ρ',hp',x,st,hH,rx,hq⟩:=hr
  obtain ⟨st',R'⟩:=ue okF R st hH
  exact ⟨ρ',⟨m.vars,hp'⟩,x,st',R',rx,rfl,hq⟩
 ·exact False.elim hr
end
end Internal
end
section
namespace Internal
open PySem
noncomputable def fu (ns:List Str) (mg:Str→Option Value) (h:Heap):Prop:=ns=[]
theorem fu.keeps {ns:List Str}{mg:Str→Option Value}{h h':Heap}(x:fu ns mg h) (k:∀b o,h.get? b=some o→h'.get? b=some o):fu ns mg h':=x
end Internal
end
section
namespace Internal
open PySem
noncomputable def jF (x:Str) (es:List (List Nat × Int)) (prog:Program) (w:World) (h:Heap):Prop:=∃mg a kvs,h.Ns mainGlobals mg∧mg x=some (.ref a)∧(a==sysModules)=false∧h.DictOf (strKind prog w) a kvs∧CK es kvs
theorem q8 {e:DictEntry}{x:Int × Str × Int}(h:jv e=some x):∃k t i u,e.key=.str k t∧e.val=.int i u∧x=(e.hash,k,i):=by
 unfold jv at h
 cases hk:e.key with
 | str k t=>
  rw [hk] at h
  cases hv:e.val with
  | int i u=>rw [hv] at h;exact ⟨k,t,i,u,rfl,rfl,(Option.some.inj h).symm⟩
  | _=>rw [hv] at h;exact aB h
 | _=>rw [hk] at h;exact aB h
theorem mP {e:DictEntry}{l:List DictEntry}{ys:List (Int × Str × Int)}(h:dz (e::l)=some ys):∃x xs,jv e=some x∧dz l=some xs∧ys=x::xs:=by
 replace h:(match jv e with
  | some x=>match dz l with
   | some xs=>some (x::xs)
   | none=>none
  | none=>none)=some ys:=h
 cases h1:jv e with
 | none=>rw [h1] at h;exact aB h
 | some x=>
  rw [h1] at h
  cases h2:dz l with
  | none=>rw [h2] at h;exact aB h
  | some xs=>rw [h2] at h;exact ⟨x,xs,rfl,rfl,(Option.some.inj h).symm⟩
theorem q9 {prog:Program}{w:World}{es:List (List Nat × Int)}{l:List DictEntry}(h:dz l=some (es.map fun p=>(hashStr w (str p.1),str p.1,p.2))) (hl:∀p∈es,p.1.length≤line) :
  ∃kvs,(∀e∈l,∃k,(strKind prog w).is k e.key=true∧e.hash=(strKind prog w).hash k)∧Pairs (strKind prog w) l kvs∧CK es kvs∧kvs.map (·.1)=es.map fun p=>str p.1:=by
 induction l generalizing es with
 | nil=>
  cases es with
  | nil=>exact ⟨[],fun e he=>aX he,.nil,.nil,rfl⟩
  | cons=>exact nomatch Option.some.inj h
 | cons e l ih=>
  obtain ⟨x,xs,h1,h2,h3⟩:=mP h
  cases es with
  | nil=>exact nomatch h3
  | cons p es=>
   obtain ⟨hx,rfl⟩:=List.cons.inj h3
   obtain ⟨kvs,k1,k2,k3,k4⟩:=ih h2 fun p hp=>hl p (List.mem_cons_of_mem _ hp)
   obtain ⟨s,t,j,u,ek,ev,rfl⟩:=q8 h1
   have e1:hashStr w (str p.1)=e.hash:=congrArg Prod.fst hx
   obtain rfl:str p.1=s:=congrArg (fun q=>q.2.1) hx
   obtain rfl:p.2=j:=congrArg (fun q=>q.2.2) hx
   have hk:(strKind prog w).is (str p.1) e.key=true:=by rw [ek];exact beq_self_eq_true _
   refine ⟨(str p.1,.int p.2 u)::kvs,fun e' he=>?_,.cons hk ev k2,.cons (hl _ (List.mem_cons_self ..)) k3,congrArg (str p.1::·) k4⟩
   rcases List.mem_cons.mp he with rfl | he
   ·exact ⟨str p.1,hk,e1.symm⟩
   ·exact k1 e' he
theorem E5 {prog:Program}{w:World}{x:Str}{es:List (List Nat × Int)}(hl:∀p∈es,p.1.length≤line) (hn:(es.map fun p=>str p.1).Nodup) {s:Shared}(h:mS x s=oS es w):jF x es prog w s.heap:=by
 unfold mS at h
 refine Classical.byContradiction fun hz=>?_
 cases ha:s.heap.nsMap mainGlobals x with
 | none=>rw [ha] at h;exact aB h
 | some v=>
 rw [ha] at h
 cases v with
 | ref a=>
  dsimp only at h
  cases ho:s.heap.get? a with
  | none=>rw [ho] at h;exact aB h
  | some o=>
  rw [ho] at h
  dsimp only at h
  cases hd:o.data with
  | dict ds ep=>
   rw [hd] at h
   dsimp only at h
   cases hc:(a != sysModules&&o.cls==.type "dict"&&o.dict.isNone&&o.slots.size==0&&s.heap.isNs mainGlobals) with
   | false=>rw [hc] at h;exact aB h
   | true=>
     rw [hc] at h
     refine hz ?_
     obtain ⟨hc,h5⟩:=Bool.and_eq_true_iff.mp hc
     obtain ⟨hc,h4⟩:=Bool.and_eq_true_iff.mp hc
     obtain ⟨hc,h3⟩:=Bool.and_eq_true_iff.mp hc
     obtain ⟨h1,h2⟩:=Bool.and_eq_true_iff.mp hc
     obtain ⟨kvs,k1,k2,k3,k4⟩:=q9 (prog:=prog) h hl
     refine ⟨_,a,kvs,.of_isNs h5,ha,by simpa using h1,⟨o,ds,ep,ho,⟨eq_of_beq h2,Option.isNone_iff_eq_none.mp h3,?_⟩,hd,fun e he=>k1 e (by simpa using he),k2,by rw [k4];exact hn⟩,k3⟩
     exact Array.eq_empty_of_size_eq_zero (eq_of_beq h4)
  | _=>rw [hd] at h;exact aB h
 | _=>exact aB h
theorem jF.keeps {x:Str}{es:List (List Nat × Int)}{prog:Program}{w:World}{h h':Heap}(y:jF x es prog w h) (k:∀b o,h.get? b=some o→h'.get? b=some o):jF x es prog w h':=by
 obtain ⟨mg,a,kvs,h1,h2,h3,⟨o,ds,ep,e,r⟩,h5⟩:=y
 exact ⟨mg,a,kvs,h1.keeps k,h2,h3,⟨o,ds,ep,k _ _ e,r⟩,h5⟩
end Internal
end
section
namespace Internal
open PySem PyProof.Rows
noncomputable abbrev Tab:=List (Nat × Str × List Str × Fn)
noncomputable abbrev zW:=List (Nat × Nat × Str × List Str × Fn)
noncomputable abbrev FF:=List (Nat × Str × List Str)
noncomputable def pI (tab:Tab) (f:Nat):Option Str:=(tab.lookup f).map (·.1)
noncomputable def fnP (tab:Tab) (f:Nat):Option Fn:=(tab.lookup f).map (·.2.2)
noncomputable def uf (mt:zW) (f:Nat):Option (Nat × Str):=(mt.lookup f).map fun e=>(e.1,e.2.1)
noncomputable def mtP (mt:zW) (f:Nat):Option Fn:=(mt.lookup f).map (·.2.2.2)
set_option genCtorIdx false in
structure gZ where
 tab:Tab
 mt:zW
 ct:FF
 xs:List Str
 hf:Nat→Bool
 gl:Nat→Option (Str × MV)
noncomputable def gZ.P (t:gZ) (f:Nat):Option Fn:=(fnP t.tab f).or (mtP t.mt f)
noncomputable def gZ.sg (t:gZ):Sg where
 fn:=pI t.tab
 gl:=t.gl
 hf:=t.hf
 cn k:=(t.ct.lookup k).map (·.1)
 xn k:=t.xs[k]?
 mt:=uf t.mt
 at_ k y:=match t.ct.lookup k with
  | some e=>e.2.contains y
  | none=>false
noncomputable def dm:Option Value→Option Addr
 | some (.ref a)=>some a
 | _=>none
noncomputable def lW (z:Sg) (nh:Bool) (ns:List Str) (d:Fn) (params:Arguments) (scope:Scope) (body:List Stmt):Bool:=
 params.posonlyargs.isEmpty&&params.vararg.isNone&&params.kwonlyargs.isEmpty&&params.kwarg.isNone&&!scope.isCoroutine&&!scope.isGenerator&&scope.kind==.function&&
 (params.args.map (·.arg)).length==d.args&&oh scope (params.args.map (·.arg)) ns&&hJ (zT scope ns z nh) d.body body
noncomputable def pJ (recs:List DefRec) (t:gZ):Bool:=
 t.tab.all fun e=>recs.any fun r=>r.name==e.2.1&&lW t.sg (!t.hf e.1) e.2.2.1 e.2.2.2 r.params r.scope r.body
noncomputable def lX (cs:List ClsRec) (t:gZ):Bool:=
 t.mt.all fun e=>(t.tab.lookup e.1).isNone&&au (t.ct.lookup e.2.1) fun c=>cs.any fun k=>k.name==c.1&&k.meths.any fun m=>m.name==e.2.2.1&&lW t.sg (!t.hf e.1) e.2.2.2.1 e.2.2.2.2 m.params m.scope m.body
noncomputable def pK (cs:List ClsRec) (t:gZ):Bool:=t.ct.all fun e=>cs.any fun k=>k.name==e.2.1&&e.2.2.all fun x=>k.statics.contains x
noncomputable def eqV (v w:Value):Bool:=match v with
 | .builtin a=>match w with
  | .builtin b=>a==b
  | _=>false
 | .type a=>match w with
  | .type b=>a==b
  | _=>false
 | _=>false
theorem Dm {v w:Value}(h:eqV v w=true):v=w:=by
 cases v with
 | builtin a=>
  cases w with
  | builtin b=>exact congrArg _ (eq_of_beq h)
  | _=>exact ff h
 | type a=>
  cases w with
  | type b=>exact congrArg _ (eq_of_beq h)
  | _=>exact ff h
 | _=>exact ff h
noncomputable def Bp (p:Program) (loose:List Str):Bool:=
 ch.all fun q=>!startupNames.contains q.1&&!loose.contains q.1&&!((recsOf p).map (·.name)).contains q.1&&!((litsOf p).map (·.1)).contains q.1&&!((clssOf p loose).map (·.name)).contains q.1&&!(q.1==("__name__":Str))&&
  au (bootBuiltins q.1) (eqV q.2)
set_option tactic.hygienic true in
theorem dF {α:Type}:∀{l:List (Nat × α)}{k:Nat}{v:α},l.lookup k=some v→(k,v)∈l
 | [],k,v,h=>by exact aB h
 | (a,b)::r,k,v,h=>by
  rw [List.lookup_cons] at h
  split at h
  ·rename_i e
   obtain rfl:=Option.some.inj h
   have:k=a:=by exact eq_of_beq e
   subst this
   exact List.mem_cons_self ..
  ·exact List.mem_cons_of_mem _ (dF h)
set_option tactic.hygienic true in
theorem lY:∀{ps:List Str}{vs:List Value}{x:Str},vs.length=ps.length→x∈ps→((ps.zip vs).lookup x).isSome=true
 | [],_,_,_,h=>by exact aX h
 | p::ps,[],_,h,_=>by cases h
 | p::ps,v::vs,x,hl,h=>by
  rw [List.zip_cons_cons,List.lookup_cons]
  split
  ·rfl
  ·rename_i e
   refine lY (by simpa using hl) ?_
   rcases List.mem_cons.mp h with rfl | h
   ·simp at e
   ·exact h
theorem hO:∀{ps:List Str}{vs:List Value}(pre:List (Str × Value)),vs.length=ps.length→ps.Nodup→(∀x∈ps,pre.lookup x=none)→ps.filterMap (fun n=>((pre++ps.zip vs).lookup n).map (n,·))=ps.zip vs
 | [],_,_,_,_,_=>rfl
 | p::ps,[],_,h,_,_=>by cases h
 | p::ps,v::vs,pre,hl,hn,hp=>by
  rw [List.nodup_cons] at hn
  have e1:(pre++(p::ps).zip (v::vs)).lookup p=some v:=by
   rw [List.lookup_append,hp p (List.mem_cons_self ..)]
   simp [List.lookup_cons]
  rw [List.filterMap_cons,e1]
  simp only [Option.map_some]
  rw [List.zip_cons_cons]
  congr 1
  have e2:pre++(p,v)::ps.zip vs=(pre++[(p,v)])++ps.zip vs:=by simp
  rw [e2]
  refine hO (pre++[(p,v)]) (by simpa using hl) hn.2 fun x hx=>?_
  rw [List.lookup_append,hp x (List.mem_cons_of_mem _ hx)]
  have:(x==p)=false:=by
   cases e:x==p with
   | false=>rfl
   | true=>
    have:x=p:=by exact eq_of_beq e
    subst this;exact absurd hx hn.1
  simp [List.lookup_cons,this]
theorem pL {fd:FuncData}{vals:List Value}(h1:fd.params.posonlyargs=[]) (h2:fd.params.vararg=none) (h3:fd.params.kwonlyargs=[]) (h4:fd.params.kwarg=none) (h5:fd.defaults=.none)
  (e5:(decide (vals.length > (fd.params.args.map (·.arg)).length))=false) (e2:(fd.params.args.map (·.arg)).filter (fun n=>(((fd.params.args.map (·.arg)).zip vals).lookup n).isNone)=[])
  (e3:(fd.params.args.map (·.arg)).filterMap (fun n=>(((fd.params.args.map (·.arg)).zip vals).lookup n).map (n,·))=(fd.params.args.map (·.arg)).zip vals):bindArgs fd ⟨vals,[]⟩=pure ((fd.params.args.map (·.arg)).zip vals):=by
 obtain ⟨a1,a2,⟨b1,b2,b3,b4,b5,b6,b7⟩,a4,a5,a6,a7,a8,a9,a10,a11,a12,a13,a14,a15⟩:=fd
 dsimp only at h1 h2 h3 h4 h5 e5 e2 e3 ⊢
 subst h1 h2 h3 h4 h5
 refine (if_neg (c:=(decide (vals.length > (b2.map (·.arg)).length)&&true)=true) (by rw [e5];decide)).trans ?_
 have hd:∀k,List.drop k ((none:Option (Array Value)).getD #[]).toList=[]:=fun k=>List.drop_nil
 rw [hd]
 refine (if_neg (c:=(!(((b2.map (·.arg)).take ((b2.map (·.arg)).length-0)).filter (fun n=>(((b2.map (·.arg)).zip vals).lookup n).isNone)).isEmpty)=true) (by rw [Nat.sub_zero,List.take_length,e2];decide)).trans ?_
 have hz:(List.drop ((b2.map (·.arg)).length-0) (b2.map (·.arg))).zip ([]:List Value)=[]:=List.zip_nil_right
 refine (congrArg (fun l=>(forIn (m:=Sem) l ((b2.map (·.arg)).zip vals) _ >>= _)) hz).trans ?_
 exact congrArg (fun l=>(pure l:Sem (List (Str × Value)))) ((congrArg (List.filterMap _) (List.append_nil (b2.map (·.arg)))).trans e3)
theorem re {fd:FuncData}{vals:List Value}(h1:fd.params.posonlyargs=[]) (h2:fd.params.vararg=none) (h3:fd.params.kwonlyargs=[]) (h4:fd.params.kwarg=none) (h5:fd.defaults=.none)
  (hn:(fd.params.args.map (·.arg)).Nodup) (hl:vals.length=(fd.params.args.map (·.arg)).length):bindArgs fd ⟨vals,[]⟩=pure ((fd.params.args.map (·.arg)).zip vals):=by
 have e1:∀x∈fd.params.args.map (·.arg),(((fd.params.args.map (·.arg)).zip vals).lookup x).isNone=false:=fun x hx=>by
  have:=lY hl hx
  cases e:((fd.params.args.map (·.arg)).zip vals).lookup x with
  | none=>rw [e] at this;cases this
  | some=>rfl
 have e2:(fd.params.args.map (·.arg)).filter (fun n=>(((fd.params.args.map (·.arg)).zip vals).lookup n).isNone)=[]:=by
  rw [List.filter_eq_nil_iff];intro x hx;rw [e1 x hx];simp
 have e3:=hO (ps:=fd.params.args.map (·.arg)) (vs:=vals) [] hl hn fun _ _=>rfl
 rw [List.nil_append] at e3
 exact pL h1 h2 h3 h4 h5 (decide_eq_false (by rw [hl];exact Nat.lt_irrefl _)) e2 e3
end Internal
end
section
namespace Internal
open PySem PySem.W PyProof.Rows
section
variable {p:Program}{loose:List Str}{mean:ExcName→Option Value}{mg mb:Str→Option Value}{h:Heap}{prog:Program}{w:World}{t:gZ}{cm:Nat→Str→Option Value}
noncomputable abbrev ec (prog:Program) (w:World) (h:Heap) (t:gZ) (mg:Str→Option Value) (cm:Nat→Str→Option Value):Glo where
 prog:=prog
 w:=w
 base:=h
 fa f:=match pI t.tab f with
  | some x=>dm (mg x)
  | none=>match uf t.mt f with
   | some q=>dm (cm q.1 q.2)
   | none=>none
 ca k:=match t.ct.lookup k with
  | some e=>dm (mg e.1)
  | none=>none
 xa k:=match t.xs[k]? with
  | some x=>dm (mg x)
  | none=>none
 cm:=cm
 hf:=t.hf
theorem lZ {o:Option Value}{a:Addr}(e:dm o=some a):o=some (.ref a):=by
 cases o with
 | none=>exact aB e
 | some v=>cases v<;>first | ((first | exact aB e | obtain rfl:=Option.some.inj e);rfl) | exact aB e
end
end Internal
end
section
namespace Internal
open PySem PySem.W PyProof.Rows
section
variable {p:Program}{loose:List Str}{mean:ExcName→Option Value}{mg mb:Str→Option Value}{h:Heap}{prog:Program}{w:World}{t:gZ}{cm:Nat→Str→Option Value}
theorem E6 (XF:fu t.xs mg h):GX (ec prog w h t mg cm) where
 nox:=fun k=>by
  show (match t.xs[k]? with
   | some x=>dm (mg x)
   | none=>none)=none
  rw [show t.xs=[] from XF];rfl
theorem Dn (XF:fu t.xs mg h) {k:Nat}{x:Str}(e:t.sg.xn k=some x):∃K,(ec prog w h t mg cm).xa k=some K∧mg x=some (.ref K):=by
 replace e:t.xs[k]?=some x:=e
 rw [show t.xs=[] from XF] at e;exact aB e
theorem Dp {C:Glo}{ρ:List Addr}{s s':Shared}{e:Value}{P:Prop}(hx:ErC C (fun _ _=>False) ρ s e s'):P:=False.elim hx
end
end Internal
end
section
namespace Internal
open PySem PySem.W PyProof.Rows
section
variable {p:Program}{loose:List Str}{mean:ExcName→Option Value}{mg mb:Str→Option Value}{h:Heap}{prog:Program}{w:World}{t:gZ}{cm:Nat→Str→Option Value}
noncomputable def xh (t:gZ) (mg:Str→Option Value) (h:Heap) (cm:Nat→Str→Option Value):Prop:=∀k e,t.ct.lookup k=some e→∃K N,mg e.1=some (.ref K)∧ClsAt h K N (cm k)
inductive FdO (h:Heap) (v:Option Value) (ps:Arguments) (sc:Scope) (body:List Stmt):Prop
 | mk (a:Addr) (o:Obj) (fd:FuncData) (h1:v=some (.ref a)) (h2:h.get? a=some o) (h3:o.data=.func fd) (h4:h.CodeRec fd.code fd.qualname) (h5:fd.body=.stmts body) (h6:fd.closure=[]) (h7:fd.defaults=.none) (h8:fd.params=ps) (h9:fd.scope=sc) (h10:fd.globals=mainGlobals) (h11:fd.builtins=builtinsNs)
theorem Dq (T:Top p loose mean mg mb h) {r:DefRec}(hr:r∈recsOf p):FdO h (mg r.name) r.params r.scope r.body:=by
 obtain ⟨a,o,pm,code,doc,h1,h2,h3,h4⟩:=T.fn r hr
 exact ⟨a,o,_,h1,h2,h3,h4,rfl,rfl,rfl,rfl,rfl,rfl,rfl⟩
theorem xi {c:ClsRec}{K N:Addr}{mN:Str→Option Value}(P:PlainAt h c K N mN) {m:MethRec}(hm:m∈c.meths):FdO h (mN m.name) m.params m.scope m.body:=by
 obtain ⟨a,o,pm,code,doc,h1,h2,_,h3,h4⟩:=P.meths m hm
 exact ⟨a,o,_,h1,h2,h3,h4,rfl,rfl,rfl,rfl,rfl,rfl,rfl⟩
theorem rg (hchk:pJ (recsOf p) t=true) {f:Nat}{x:Str}{ns:List Str}{d:Fn}(e:t.tab.lookup f=some (x,ns,d)):∃r∈recsOf p,r.name=x∧lW t.sg (!t.hf f) ns d r.params r.scope r.body=true:=by
 unfold pJ at hchk
 rw [List.all_eq_true] at hchk
 have:=hchk _ (dF e)
 rw [List.any_eq_true] at this
 obtain ⟨r,hr,h⟩:=this
 rw [Bool.and_eq_true] at h
 exact ⟨r,hr,eq_of_beq h.1,h.2⟩
theorem zX {K N N':Addr}{m m':Str→Option Value}(x:ClsAt h K N m) (y:ClsAt h K N' m'):m=m':=by
 obtain ⟨nm,q,bs,sn,sub,col,dd,k0,k1,k2,k3,k5,e⟩:=lN x
 obtain ⟨nm',q',bs',sn',sub',col',dd',l0,l1,l2,l3,l5,e'⟩:=lN y
 have hN:N=N':=by
  have:=congrArg Obj.data (same e e')
  injection this with q
  injection q
 subst hN
 exact jz x.ns y.ns
theorem l7 (TE:TopE p loose mg h) (hcm:xh t mg h cm) {k:Nat}{e:Str × List Str}(hk:t.ct.lookup k=some e) {c:ClsRec}(hc:c∈plainsOf p loose) (hn:c.name=e.1):∃K N,mg e.1=some (.ref K)∧PlainAt h c K N (cm k):=by
 obtain ⟨K,N,h1,h2⟩:=hcm k e hk
 obtain ⟨C,N',mN,h3,P⟩:=TE c hc
 rw [hn,h1] at h3;cases h3
 have:=zX P.cls h2
 subst this
 exact ⟨K,N',h1,P.ofCmp⟩
inductive Dr (pl:List ClsRec) (t:gZ) (f k:Nat) (x:Str) (ns:List Str) (d:Fn):Prop
 | mk (h0:(t.tab.lookup f).isNone=true) (ce:Str × List Str) (hce:t.ct.lookup k=some ce) (c:ClsRec) (hc:c∈pl) (hn:c.name=ce.1) (m:MethRec) (hm:m∈c.meths) (hmn:m.name=x) (hck:lW t.sg (!t.hf f) ns d m.params m.scope m.body=true)
theorem oi (hm:lX (plainsOf p loose) t=true) {f k:Nat}{x:Str}{ns:List Str}{d:Fn}(e:t.mt.lookup f=some (k,x,ns,d)):Dr (plainsOf p loose) t f k x ns d:=by
 unfold lX at hm
 rw [List.all_eq_true] at hm
 have:=hm _ (dF e)
 rw [Bool.and_eq_true] at this
 obtain ⟨h0,h1⟩:=this
 obtain ⟨ce,hce,h1⟩:=ae h1
 rw [List.any_eq_true] at h1
 obtain ⟨c,hc,h1⟩:=h1
 rw [Bool.and_eq_true] at h1
 obtain ⟨h2,h3⟩:=h1
 rw [List.any_eq_true] at h3
 obtain ⟨m,hm,h3⟩:=h3
 rw [Bool.and_eq_true] at h3
 exact ⟨h0,ce,hce,c,hc,eq_of_beq h2,m,hm,eq_of_beq h3.1,h3.2⟩
theorem E7 (TE:TopE p loose mg h) (hct:pK (plainsOf p loose) t=true):∃cm,xh t mg h cm:=by
 refine Classical.axiomOfChoice (r:=fun k m=>∀e,t.ct.lookup k=some e→∃K N,mg e.1=some (.ref K)∧ClsAt h K N m) fun k=>?_
 cases hk:t.ct.lookup k with
 | none=>exact ⟨fun _=>none,fun e he=>by exact aB he⟩
 | some e=>
  unfold pK at hct
  rw [List.all_eq_true] at hct
  have:=hct _ (dF hk)
  rw [List.any_eq_true] at this
  obtain ⟨c,hc,h1⟩:=this
  rw [Bool.and_eq_true] at h1
  obtain ⟨C,N,mN,h3,P⟩:=TE c hc
  refine ⟨mN,fun e' he=>?_⟩
  obtain rfl:=Option.some.inj he
  exact ⟨C,N,by rw [←eq_of_beq h1.1];exact h3,P.cls⟩
theorem Bq (hct:pK (plainsOf p loose) t=true) {k:Nat}{e:Str × List Str}(hk:t.ct.lookup k=some e):∃c∈plainsOf p loose,c.name=e.1∧∀x,e.2.contains x=true→x∈c.statics:=by
 unfold pK at hct
 rw [List.all_eq_true] at hct
 have:=hct _ (dF hk)
 rw [List.any_eq_true] at this
 obtain ⟨c,hc,h1⟩:=this
 rw [Bool.and_eq_true] at h1
 refine ⟨c,hc,eq_of_beq h1.1,fun x hx=>?_⟩
 have:=List.all_eq_true.mp h1.2 x (List.contains_iff_mem.mp hx)
 exact List.contains_iff_mem.mp this
theorem Br {f:Nat}{x:Str}{ns:List Str}{d:Fn}(e:t.tab.lookup f=some (x,ns,d)) {a:Addr}(h1:mg x=some (.ref a)):(ec prog w h t mg cm).fa f=some a:=by
 show (match pI t.tab f with
  | some x=>dm (mg x)
  | none=>_)=some a
 unfold pI
 rw [e]
 show dm (mg x)=some a
 rw [h1];rfl
theorem E8 {f k:Nat}{x:Str}{ns:List Str}{d:Fn}(e0:(t.tab.lookup f).isNone=true) (e:t.mt.lookup f=some (k,x,ns,d)) {a:Addr}(h1:cm k x=some (.ref a)):(ec prog w h t mg cm).fa f=some a:=by
 show (match pI t.tab f with
  | some x=>dm (mg x)
  | none=>match uf t.mt f with
   | some q=>dm (cm q.1 q.2)
   | none=>none)=some a
 unfold pI uf
 rw [Option.isNone_iff_eq_none.mp e0,e]
 show dm (cm k x)=some a
 rw [h1];rfl
theorem xj {f:Nat}{a:Addr}(e:(ec prog w h t mg cm).fa f=some a):(∃x ns d,t.tab.lookup f=some (x,ns,d)∧mg x=some (.ref a))∨(t.tab.lookup f=none∧∃k x ns d,t.mt.lookup f=some (k,x,ns,d)∧cm k x=some (.ref a)):=by
 replace e:(match pI t.tab f with
  | some x=>dm (mg x)
  | none=>match uf t.mt f with
   | some q=>dm (cm q.1 q.2)
   | none=>none)=some a:=e
 unfold pI uf at e
 cases q:t.tab.lookup f with
 | some z=>
  obtain ⟨x,ns,d⟩:=z
  rw [q] at e
  exact .inl ⟨x,ns,d,rfl,lZ e⟩
 | none=>
  rw [q] at e
  cases q2:t.mt.lookup f with
  | none=>rw [q2] at e;cases e
  | some z=>
   obtain ⟨k,x,ns,d⟩:=z
   rw [q2] at e
   exact .inr ⟨rfl,k,x,ns,d,rfl,lZ e⟩
theorem xk {k:Nat}{K:Addr}(e:(ec prog w h t mg cm).ca k=some K):∃ce,t.ct.lookup k=some ce∧mg ce.1=some (.ref K):=by
 replace e:(match t.ct.lookup k with
  | some e=>dm (mg e.1)
  | none=>none)=some K:=e
 cases q:t.ct.lookup k with
 | none=>rw [q] at e;cases e
 | some ce=>rw [q] at e;exact ⟨ce,rfl,lZ e⟩
theorem E9 (T:Top p loose mean mg mb h) (TE:TopE p loose mg h) (XF:fu t.xs mg h) (hcm:xh t mg h cm) (hi:importsNone p=true) (hchk:pJ (recsOf p) t=true) (hm:lX (plainsOf p loose) t=true) (hct:pK (plainsOf p loose) t=true):GOk (ec prog w h t mg cm) where
 sys:=by
  obtain ⟨mm,⟨o,es,ep,e,_⟩,_⟩:=(T.seer hi).mods
  show (h.get? sysModules).isSome=true
  rw [e];rfl
 nolimit:=T.nolimit
 fns:=fun f a e=>by
  rcases xj e with ⟨x,ns,d,e1,e2⟩ | ⟨_,k,x,ns,d,e1,e2⟩
  ·obtain ⟨r,hr,rfl,_⟩:=rg hchk e1
   obtain ⟨a',o,fd,h1,h2,h3⟩:=Dq T hr
   rw [e2] at h1;cases h1
   exact ⟨o,_,h2,h3⟩
  ·obtain ⟨_,ce,hce,c,hc,hn,m,hm,rfl,_⟩:=oi hm e1
   obtain ⟨K,N,_,P⟩:=l7 TE hcm hce hc hn
   obtain ⟨a',o,fd,h1,h2,h3⟩:=xi P hm
   rw [e2] at h1;cases h1
   exact ⟨o,_,h2,h3⟩
 cls:=fun k K e=>by
  obtain ⟨ce,h1,h2⟩:=xk e
  obtain ⟨K',N,h3,h4⟩:=hcm k ce h1
  rw [h2] at h3;cases h3
  exact ⟨N,h4⟩
 quiet:=fun k K e=>by
  obtain ⟨ce,h1,h2⟩:=xk e
  obtain ⟨c,hc,hn,_⟩:=Bq hct h1
  obtain ⟨K',N,_,P⟩:=l7 TE hcm h1 hc hn
  exact ⟨P.quiet _ (List.mem_append_left _ (.head _)),P.quiet _ (List.mem_append_left _ (.tail _ (.head _))),P.quiet _ (List.mem_append_left _ (.tail _ (.tail _ (.head _))))⟩
 x:=E6 XF
theorem xl {C:Glo}{z:Sg}{nh:Bool}{ns:List Str}{d:Fn}{a:Addr}{v:Option Value}{ps:Arguments}{sc:Scope}{body:List Stmt}(fo:FdO C.base v ps sc body) (hv:v=some (.ref a)) (hc:lW z nh ns d ps sc body=true) (hg:sv C mainGlobals builtinsNs z):E4 C z nh d a:=by
 obtain ⟨a',o,fd,h1,ho,hd,hcr,hb,hcl,hdf,rfl,rfl,h10,h11⟩:=fo
 obtain rfl:a=a':=by rw [hv] at h1;exact Value.ref.inj (Option.some.inj h1)
 obtain ⟨hc,c10⟩:=ao hc
 obtain ⟨hc,c9⟩:=ao hc
 obtain ⟨hc,c8⟩:=ao hc
 obtain ⟨hc,c7⟩:=ao hc
 obtain ⟨hc,c6⟩:=ao hc
 obtain ⟨hc,c5⟩:=ao hc
 obtain ⟨hc,c4⟩:=ao hc
 obtain ⟨hc,c3⟩:=ao hc
 obtain ⟨c1,c2⟩:=ao hc
 have hnd:(fd.params.args.map (·.arg)).Nodup:=by
  have:=(ao (ao c9).1)
  exact (of_decide_eq_true this.2).sublist (List.isPrefixOf_iff_prefix.mp this.1).sublist
 exact ⟨o,fd,body,fd.params.args.map (fun x:Arg=>x.arg),ns,ho,hd,hcr,hb,hcl,jV c5,jV c6,eq_of_beq c7,fun vals hv=>re (List.isEmpty_iff.mp c1) (Option.isNone_iff_eq_none.mp c2) (List.isEmpty_iff.mp c3) (Option.isNone_iff_eq_none.mp c4) hdf hnd hv,eq_of_beq c8,c9,c10,by rw [h10,h11];exact hg⟩
theorem Fa (T:Top p loose mean mg mb h) (TE:TopE p loose mg h) (XF:fu t.xs mg h) (hcm:xh t mg h cm) (hchk:pJ (recsOf p) t=true) (hm:lX (plainsOf p loose) t=true) (hct:pK (plainsOf p loose) t=true) (hb:Bp p loose=true)
  (hgl:∀g x v,t.gl g=some (x,v)→∃u,mg x=some u∧∀ρ h',h.StaysIn h'→Rep (ec prog w h t mg cm) ρ h' v u):sw (ec prog w h t mg cm) t.sg t.P:=by
 have hG:sv (ec prog w h t mg cm) mainGlobals builtinsNs t.sg:=by
  refine ⟨mg,mb,T.g,T.b,fun f' x' e'=>?_,hgl,fun x' v' hm=>?_,fun k x e=>?_,fun k x e=>?_⟩
  ·obtain ⟨⟨y,ns,d⟩,q,rfl⟩:=Option.map_eq_some_iff.mp e'
   obtain ⟨r,hr,hrn,_⟩:=rg hchk q
   obtain ⟨a,_,_,g1,_⟩:=Dq T hr
   rw [hrn] at g1
   exact ⟨a,Br q g1,g1⟩
  ·have:=List.all_eq_true.mp hb _ hm
   obtain ⟨hc,b7⟩:=ao this
   obtain ⟨hc,b6⟩:=ao hc
   obtain ⟨hc,b5⟩:=ao hc
   obtain ⟨hc,b4⟩:=ao hc
   obtain ⟨hc,b3⟩:=ao hc
   obtain ⟨b1,b2⟩:=ao hc
   have no:∀{l:List Str},(!l.contains x')=true→x'∉l:=fun q hx=>by
    have q:=jV q
    rw [List.contains_iff_mem.mpr hx] at q;exact tf q
   refine ⟨T.free x' (no b1) (no b2) (no b3) (no b4) (no b5),?_⟩
   rw [T.builtins x' fun e=>by
    have q:=jV b6
    rw [beq_iff_eq.mpr e] at q;exact tf q]
   obtain ⟨u,h1,h2⟩:=ae b7
   exact h1.trans (congrArg some (Dm h2).symm)
  ·obtain ⟨ce,q,rfl⟩:=Option.map_eq_some_iff.mp e
   obtain ⟨K,N,h1,_⟩:=hcm k ce q
   refine ⟨K,?_,h1⟩
   show (match t.ct.lookup k with
    | some e=>dm (mg e.1)
    | none=>none)=some K
   rw [q]
   show dm (mg ce.1)=some K
   rw [h1];rfl
  ·exact Dn XF e
 refine ⟨⟨fun f k x e=>?_,fun k x e=>?_,rfl⟩,fun f d a hP e=>?_⟩
 ·obtain ⟨⟨k',x',ns,d⟩,q,e⟩:=Option.map_eq_some_iff.mp e
  obtain ⟨rfl,rfl⟩:=Prod.mk.inj e
  obtain ⟨h0,ce,hce,c,hc,hn,m,hm,hmn,_⟩:=oi hm q
  obtain ⟨K,N,_,P⟩:=l7 TE hcm hce hc hn
  obtain ⟨a',o,pm,cd,doc,h1,h2,h3,_⟩:=P.meths m hm
  rw [hmn] at h1
  exact ⟨a',E8 h0 q h1,h1,o,h2,h3⟩
 ·replace e:(match t.ct.lookup k with
   | some e=>e.2.contains x
   | none=>false)=true:=e
  cases q:t.ct.lookup k with
  | none=>rw [q] at e;exact ff e
  | some ce=>
   rw [q] at e
   obtain ⟨c,hc,hn,hq⟩:=Bq hct q
   obtain ⟨K',N,_,P⟩:=l7 TE hcm q hc hn
   exact P.quiet _ (List.mem_append_right _ (hq x e))
 ·replace hP:(fnP t.tab f).or (mtP t.mt f)=some d:=hP
  unfold fnP mtP at hP
  rcases xj e with ⟨x,ns,d',e1,e2⟩ | ⟨e0,k,x,ns,d',e1,e2⟩
  ·rw [e1] at hP
   obtain rfl:d'=d:=Option.some.inj hP
   obtain ⟨r,hr,hrn,hc⟩:=rg hchk e1
   exact xl (C:=ec prog w h t mg cm) (Dq T hr) (by rw [hrn];exact e2) hc hG
  ·rw [e0,e1] at hP
   obtain rfl:d'=d:=Option.some.inj hP
   obtain ⟨_,ce,hce,c,hc,hn,m,hm,hmn,hck⟩:=oi hm e1
   obtain ⟨K,N,_,P⟩:=l7 TE hcm hce hc hn
   exact xl (C:=ec prog w h t mg cm) (xi P hm) (by rw [hmn];exact e2) hck hG
theorem Ds {P:Params}{a:Addr}{vs:List Value}{is:List Int}{xs:List WData}(W:Well P h (.ref a) (.list xs)) (hl:h.IsList a vs.toArray) (hI:IntsAre vs is) (hz:is.length≤line) {ρ:List Addr}{h':Heap} :
  Rep (ec prog w h t mg cm) ρ h' (.scr is) (.ref a):=by
 cases W with
 | @list _ us _ e _=>
  obtain ⟨o,e',hc,n,hd⟩:=hl
  obtain rfl:=same e e'
  simp only [Data.seq.injEq] at hd
  have:us=vs:=by simpa using hd.1
  subst this
  exact .scr e hI hz
theorem xm (T:Top p loose mean mg mb h) (TE:TopE p loose mg h) (XF:fu t.xs mg h) (hcm:xh t mg h cm) (hi:importsNone p=true) (hchk:pJ (recsOf p) t=true) (hm:lX (plainsOf p loose) t=true) (hct:pK (plainsOf p loose) t=true) (hb:Bp p loose=true)
  (hgl:∀g x v,t.gl g=some (x,v)→∃u,mg x=some u∧∀ρ h',h.StaysIn h'→Rep (ec prog w h t mg cm) ρ h' v u)
  {s:Shared}(hs:s.heap=h) (hg:s.gens=#[]) {f:Nat}{x:Str}{ns:List Str}{d:Fn}(hf:t.tab.lookup f=some (x,ns,d)) {fa:Addr}(hmg:mg x=some (.ref fa)) (hd:d.args=1) {is:List Int}{a:Addr}
  (hr:Rep (ec prog w h t mg cm) [] h (.scr is) (.ref a)) (hlaw:∀K:KT,aF t.P K→aD K 600 d.body (fin fun v _=>v=.bool true) (fun _ _=>False) (cE d [.scr is] [])) {E:Value→Shared→Prop}{Q:Value→Shared→Prop}
  (hQ:∀s',(∀b o,h.get? b=some o→s'.heap.get? b=some o)→s'.os=s.os→s'.gens=#[]→Q (.bool true) s'):wpAny (model prog w) callerA (call (.ref fa) [.ref a]) Q E s:=by
 subst hs
 have G:GOk (ec prog w s.heap t mg cm):=E9 T TE XF hcm hi hchk hm hct
 have H:sw (ec prog w s.heap t mg cm) t.sg t.P:=Fa T TE XF hcm hchk hm hct hb hgl
 have hfa:(ec prog w s.heap t mg cm).fa f=some fa:=Br hf hmg
 have hP:t.P f=some d:=by
  show (fnP t.tab f).or (mtP t.mt f)=some d
  unfold fnP
  rw [hf];rfl
 have hH:Hp (ec prog w s.heap t mg cm) [] [] s.heap:=⟨fun b o e=>e,rfl,List.nodup_nil,fun _ h=>(by exact aX h),fun i o a e=>(by simp at e)⟩
 refine wpAny_mono (nq (C:=ec prog w s.heap t mg cm) (X:=fun _ _=>False) G H hP (vs:=[.scr is]) (by rw [hd];rfl) (hlaw _ (Dl G H)) (A:=callerA) (.inl rfl) hH hg (.cons hr .nil) (frs:=[]) ⟨[],rfl,fun e he=>(by exact aX he)⟩ (fun L hL=>(by exact aX hL)) (by show 1+300+601≤999;exact nb rfl) (by show 4≤3 * 301+4;exact nb rfl) hfa)
  (fun v s' hr=>?_) fun e s' hx=>Dp hx
 obtain ⟨ρ',hp',y,st,hH',ry,hq⟩:=hr
 subst hq
 cases ry
 exact hQ s' hH'.base st.os (st.gens.trans hg)
theorem xo {R:WRecords}{t:WTm}{c:WCtx}(h:WTm.value R t c=some (.bool true)):WTm.holds R t c=true:=by
 unfold WTm.holds;rw [h]
theorem ug (l:OpenLaw) (args ds:List WData):l.row.toRowW.claim.post args (.bool true) ds=true:=by
 show (WShape.has [] (.bool true) .bool&&WTm.holds [] (.eq .res (.lit (.bool true))) _)=true
 rw [Bool.and_eq_true]
 have e:W.same (WData.bool true) (WData.bool true)=true:=by decide +kernel
 refine ⟨by decide +kernel,?_⟩
 exact xo (congrArg (fun b=>some (WData.bool b)) e)
end
end Internal
end
section
namespace Internal
open PySem PySem.W PyProof.Rows
section
variable {p:Program}{loose:List Str}{mean:ExcName→Option Value}{mg mb:Str→Option Value}{h:Heap}{prog:Program}{w w':World}{t:gZ}{cm:Nat→Str→Option Value}
noncomputable def zY (prog:Program) (w:World) (h:Heap) (t:gZ) (mg:Str→Option Value) (cm:Nat→Str→Option Value) (x:Str) (v:MV):Prop:=∃u,mg x=some u∧∀ρ h',h.StaysIn h'→Rep (ec prog w h t mg cm) ρ h' v u
noncomputable def isI (o:Option PyData) (i:Int):Bool:=match o with
 | some (.int j)=>j==i
 | _=>false
theorem Dt {o:Option PyData}{i:Int}(h:isI o i=true):o=some (.int i):=by
 cases o with
 | none=>exact ff h
 | some d=>
  cases d with
  | int j=>exact congrArg (fun j=>some (PyData.int j)) (eq_of_beq h)
  | _=>exact ff h
noncomputable def isT (o:Option PyData) (s:List Nat):Bool:=match o with
 | some (.str x)=>x.cps.toList==s
 | _=>false
theorem Du {o:Option PyData}{s:List Nat}(h:isT o s=true):o=some (.str (str s)):=by
 cases o with
 | none=>exact ff h
 | some d=>
  cases d with
  | str x=>obtain rfl:=eq_of_beq h;rfl
  | _=>exact ff h
theorem oj (T:Top p loose mean mg mb h) {x:Str}{i:Int}(e:isI (valOf p x) i=true):zY prog w h t mg cm x (.int i):=by
 obtain ⟨v,h1,h2⟩:=T.const x _ (Dt e)
 refine ⟨v,h1,fun ρ h' _=>?_⟩
 cases h2 h'
 exact .int _ _
theorem xp (T:Top p loose mean mg mb h) {x:Str}{s:List Nat}(e:isT (valOf p x) s=true) (hs:s.length≤line):zY prog w h t mg cm x (.str s):=by
 obtain ⟨v,h1,h2⟩:=T.const x _ (Du e)
 refine ⟨v,h1,fun ρ h' _=>?_⟩
 cases h2 h'
 exact .str _ _ hs
theorem xq (B:Tables p w' mg h) {x:Str}{ss:List (List Nat)}(e:tupStrsOf p x=some (ss.map fun s=>(str s:Str))) (hs:∀s∈ss,s.length≤line):zY prog w h t mg cm x (.gt ss):=by
 obtain ⟨a,vs,h1,⟨o,h2,h3,n,h4⟩,h5⟩:=B.tupS x _ e
 refine ⟨.ref a,h1,fun ρ h' _=>.gt h2 h3 h4 ?_⟩
 clear e h1 h2 h3 h4
 induction ss generalizing vs with
 | nil=>cases h5;exact .nil
 | cons s ss ih=>
  cases h5 with
  | cons _ t r=>exact .cons (.str _ _ (hs s (List.mem_cons_self ..))) (ih (fun x hx=>hs x (List.mem_cons_of_mem _ hx)) _ r)
theorem zZ (T:Top p loose mean mg mb h) {x:Str}{es:List (List Nat × Int)}(y:jF x es prog w h):zY prog w h t mg cm x (.cdict es):=by
 obtain ⟨mg',a,kvs,h1,h2,h3,h4,h5⟩:=y
 cases jz h1 T.g
 exact ⟨.ref a,h2,fun ρ h' _=>.cdict h3 h4 h5⟩
end
end Internal
end
section
namespace Internal
open PySem
noncomputable abbrev vA:ME:=.cst (.int 1)
noncomputable abbrev vB:ME:=.cst (.int 0)
noncomputable abbrev vC:ME:=.var 0
noncomputable abbrev vD:ME:=.cst (.str [110,117,109,98,101,114])
noncomputable abbrev vE:ME:=.var 1
noncomputable abbrev vF:ME:=.cst (.str [110,97,109,101])
noncomputable abbrev vG:ME:=.cst (.str [115,101,116])
noncomputable abbrev vH:ME:=.cst (.int 2)
noncomputable abbrev vI:ME:=.var 2
noncomputable abbrev vJ:ME:=.var 3
noncomputable abbrev vK:ME:=.cst (.str [119,104,105,108,101])
noncomputable abbrev vL:ME:=.cst (.str [115,107,105,112])
noncomputable abbrev vM:ME:=.cst (.int 3)
noncomputable abbrev vN:ME:=.cst (.int 5)
noncomputable abbrev vO:ME:=.cst (.str [116,101,108,108])
noncomputable abbrev vP:ME:=.cst (.str [97,98,99,100,101,102,103,104,105,106,107,108,109,110,111,112,113,114,115,116,117,118,119,120,121,122])
noncomputable abbrev vQ:ME:=.cst (.int 4)
noncomputable abbrev vR:ME:=.var 4
noncomputable abbrev vS:ME:=.var 5
noncomputable abbrev vT:ME:=.cst (.bool false)
noncomputable abbrev vU:ME:=.cst (.str [105,102])
noncomputable abbrev vV:ME:=.cst (.int 8)
noncomputable abbrev vW:ME:=.cst (.str [110,111,117,103,104,116])
noncomputable abbrev vX:ME:=.cst (.str [43])
noncomputable abbrev vY:ME:=.var 6
noncomputable abbrev vZ:ME:=.cst (.str [47])
noncomputable abbrev uA:ME:=.cst (.str [60])
noncomputable abbrev uB:ME:=.cst (.str [111,112,101,110])
noncomputable abbrev uC:ME:=.var 7
noncomputable abbrev uD:ME:=.cst (.int 10)
noncomputable abbrev uE:ME:=.cst (.str [101,108,115,101])
noncomputable abbrev uF:ME:=.cst (.int 6)
noncomputable abbrev uG:ME:=.cst (.str [101,110,100])
noncomputable abbrev uH:ME:=.cst (.int 12)
noncomputable abbrev uI:ME:=.cst (.int 7)
noncomputable abbrev uJ:ME:=.cst (.str [115,101,99,114,101,116])
noncomputable abbrev uK:ME:=.cst (.int 15)
noncomputable def fR:Fn:=⟨2,2,[.ret (.and [.isi vC [.int],.not (.isi vC [.bool]),.cmp2 .le .le vB vC vE])]⟩
noncomputable def i6:Fn:=⟨1,1,[.ret (.call 22 [vC,.bin .sub (.glob 0 (.int 1000000)) vA])]⟩
noncomputable def l8:Fn:=⟨1,2,[.ite (.or [.not (.isi vC [.str]),.not (.cmp2 .le .le vA (.blt .len [vC]) (.glob 5 (.int 8))),.cmp .inn vC (.glob 1 (.gt [[115,101,116],[116,101,108,108],[115,107,105,112],[105,102],[101,108,115,101],[119,104,105,108,101],[101,110,100]]))]) [.ret vT] [],.ite (.cmp .nin (.idx vC vB) (.glob 3 (.str [97,98,99,100,101,102,103,104,105,106,107,108,109,110,111,112,113,114,115,116,117,118,119,120,121,122]))) [.ret vT] [],.for_ [1] false .val [vC] [.ite (.and [.cmp .nin vE (.glob 3 (.str [97,98,99,100,101,102,103,104,105,106,107,108,109,110,111,112,113,114,115,116,117,118,119,120,121,122])),.cmp .nin vE (.glob 4 (.str [48,49,50,51,52,53,54,55,56,57]))]) [.ret vT] []],.ret (.cst (.bool true))]⟩
noncomputable def co:Fn:=⟨2,3,[.ite (.cmp .gt vE (.glob 6 (.int 12))) [.raise 4] [],.ite (.or [.not (.isi vC [.tuple]),.not (.cmp2 .le .le vH (.blt .len [vC]) vM),.not (.isi (.idx vC vB) [.str])]) [.raise 3] [],.ite (.cmp .eq (.blt .len [vC]) vH) [.asg [2] false (.or [.and [.cmp .eq (.idx vC vB) vD,.call 23 [.idx vC vA]],.and [.cmp .eq (.idx vC vB) vF,.call 24 [.idx vC vA]]]),.ite (.not vI) [.raise 3] [],.ret (.cst .none)] [],.ite (.cmp .nin (.idx vC vB) (.glob 2 (.gt [[43],[45],[42],[47],[60],[61]]))) [.raise 3] [],.expr (.call 55 [.idx vC vA,.bin .add vE vA]),.expr (.call 55 [.idx vC vH,.bin .add vE vA])]⟩
noncomputable def dt:Fn:=⟨1,1,[.ite (.cmp .eq (.idx vC vB) vD) [.ret (.list [])] [],.ite (.cmp .eq (.idx vC vB) vF) [.ret (.list [.idx vC vA])] [],.ret (.bin .add (.call 0 [.idx vC vA]) (.call 0 [.idx vC vH]))]⟩
noncomputable def j0:Fn:=⟨1,1,[.ret (.blt .sortedSet [.call 0 [vC]])]⟩
noncomputable def bK:Fn:=⟨1,2,[.ite (.cmp .eq (.blt .len [vC]) vH) [.ret (.list [])] [],.asg [1] false (.bin .add (.call 2 [.idx vC vA]) (.call 2 [.idx vC vH])),.ite (.cmp .eq (.idx vC vB) vZ) [.asg [1] false (.bin .add vE (.call 0 [.idx vC vH]))] [],.ret vE]⟩
noncomputable def fS:Fn:=⟨1,1,[.ret (.blt .sortedSet [.call 2 [vC]])]⟩
noncomputable def fv:Fn:=⟨1,1,[.ite (.cmp .eq (.blt .len [vC]) vH) [.ret vT] [],.ret (.or [.cmp .eq (.idx vC vB) vZ,.call 4 [.idx vC vA],.call 4 [.idx vC vH]])]⟩
noncomputable def nt:Fn:=⟨3,3,[.ite (.cmp .eq vC vX) [.ret (.bin .mod (.bin .add vE vI) (.glob 0 (.int 1000000)))] [],.ite (.cmp .eq vC (.cst (.str [45]))) [.ret (.bin .mod (.bin .sub vE vI) (.glob 0 (.int 1000000)))] [],.ite (.cmp .eq vC (.cst (.str [42]))) [.ret (.bin .mod (.bin .mul vE vI) (.glob 0 (.int 1000000)))] [],.ite (.cmp .eq vC uA) [.ret (.blt .int [.cmp .lt vE vI])] [],.ite (.cmp .eq vC (.cst (.str [61]))) [.ret (.blt .int [.cmp .eq vE vI])] [],.ite (.cmp .eq vI vB) [.ret (.cst .none)] [],.ret (.bin .fdiv vE vI)]⟩
noncomputable def c0:Fn:=⟨2,4,[.ite (.cmp .eq (.idx vC vB) vD) [.ret (.idx vC vA)] [],.ite (.cmp .eq (.idx vC vB) vF) [.ret (.idx vE (.idx vC vA))] [],.asg [2] false (.call 18 [.idx vC vA,vE]),.asg [3] false (.call 18 [.idx vC vH,vE]),.ite (.or [.isN true vI,.isN true vJ]) [.ret (.cst .none)] [],.ret (.call 17 [.idx vC vB,vI,vJ])]⟩
noncomputable def j4:Fn:=⟨1,1,[.ret (.isi vC [.list,.tuple])]⟩
noncomputable def i7:Fn:=⟨1,1,[.ite (.cmp .eq (.idx vC vB) vU) [.ret (.list [.idx vC vH,.idx vC vM])] [],.ite (.cmp .eq (.idx vC vB) vK) [.ret (.list [.idx vC vH])] [],.ret (.list [])]⟩
noncomputable def hX:Fn:=⟨1,1,[.ite (.cmp .eq (.idx vC vB) vL) [.ret (.cst .none)] [],.ite (.cmp .eq (.idx vC vB) vG) [.ret (.idx vC vH)] [],.ret (.idx vC vA)]⟩
noncomputable def j5:Fn:=⟨1,2,[.ite (.or [.not (.isi vC [.tuple]),.cmp .eq (.blt .len [vC]) vB,.not (.isi (.idx vC vB) [.str])]) [.ret vT] [],.ite (.or [.cmp .nin (.idx vC vB) (.glob 9 (.cdict [([115,101,116],3),([116,101,108,108],2),([115,107,105,112],1),([105,102],4),([119,104,105,108,101],3)])),.cmp .ne (.blt .len [vC]) (.idx (.glob 9 (.cdict [([115,101,116],3),([116,101,108,108],2),([115,107,105,112],1),([105,102],4),([119,104,105,108,101],3)])) (.idx vC vB))]) [.ret vT] [],.ite (.and [.cmp .eq (.idx vC vB) vG,.not (.call 24 [.idx vC vA])]) [.ret vT] [],.ret (.blt .all [.comp (.call 56 [vE]) [1] false .val [.call 25 [vC]] []])]⟩
noncomputable def i8:Fn:=⟨2,4,[.for_ [2] false .val [vC] [.ite (.not (.call 57 [vI])) [.raise 3] [],.ite (.cmp .gt vE (.glob 7 (.int 8))) [.raise 4] [],.ite (.cmp .ne (.idx vI vB) vL) [.expr (.call 55 [.call 26 [vI],vA])] [],.for_ [3] false .val [.call 25 [vI]] [.expr (.call 58 [vJ,.bin .add vE vA])]]]⟩
noncomputable def hY:Fn:=⟨2,3,[.ite (.not (.call 56 [vC])) [.raise 1] [],.for_ [2] false .val [vC] [.ite (.not (.call 24 [vI])) [.raise 1] [],.ite (.cmp .inn vI vE) [.raise 2] [],.expr (.mth .append vE [vI])]]⟩
noncomputable def l9:Fn:=⟨1,3,[.asg [1] false (.list []),.for_ [2] false .val [vC] [.ite (.cmp .eq (.idx vI vB) vU) [.expr (.mth .append vE [.tup [.idx vI vB,.idx vI vA,.call 60 [.idx vI vH],.call 60 [.idx vI vM]]])] [.ite (.cmp .eq (.idx vI vB) vK) [.expr (.mth .append vE [.tup [.idx vI vB,.idx vI vA,.call 60 [.idx vI vH]]])] [.expr (.mth .append vE [vI])]]],.ret (.blt .tuple [vE])]⟩
noncomputable def j6:Fn:=⟨3,8,[.asg [3] false (.list []),.asg [4] false vE,.for_ [5] false .val [vC] [.expr (.mth .append vJ [.tup [vR,vS,vI]]),.asg [4] false (.bin .add vR vA),.for_ [6] false .val [.call 25 [vS]] [.asg [7] false (.call 61 [vY,vR,.bin .add vI (.tup [.idx vS vA])]),.expr (.mth .extend vJ [uC]),.asg [4] false (.bin .add vR (.blt .len [uC]))]],.ret vJ]⟩
noncomputable def j7:Fn:=⟨1,2,[.asg [1] false (.list []),.ite (.cmp .eq (.idx vC vB) vG) [.expr (.mth .append vE [.idx vC vA])] [],.ite (.cmp .ne (.idx vC vB) vL) [.expr (.mth .extend vE [.call 1 [.call 26 [vC]]])] [],.ret vE]⟩
noncomputable def dp:Fn:=⟨4,6,[.asg [4] false (.list []),.expr (.call 59 [vE,vR]),.asg [5] false (.blt .len [vR]),.expr (.call 59 [vI,vR]),.ite (.not (.call 56 [vJ])) [.raise 3] [],.expr (.call 58 [vJ,vA]),.setAttr 0 vC [111,112,101,110,115] (.sl vR none (some vS)),.setAttr 0 vC [115,101,99,114,101,116,115] (.sl vR (some vS) none),.setAttr 0 vC [114,111,119,115] (.call 60 [vJ])]⟩
noncomputable def eP:Fn:=⟨1,5,[.asg [1] false (.bin .add (.attr 0 vC [111,112,101,110,115]) (.attr 0 vC [115,101,99,114,101,116,115])),.for_ [2,3,4] true .val [.call 61 [.attr 0 vC [114,111,119,115],vA,.tup []]] [.asg [1] false (.bin .add vE (.call 62 [vJ]))],.ret (.blt .sortedSet [vE])]⟩
noncomputable def fG:Fn:=⟨2,2,[.ite (.cmp .inn vE (.attr 0 vC [111,112,101,110,115])) [.ret uB] [],.ite (.cmp .inn vE (.attr 0 vC [115,101,99,114,101,116,115])) [.ret uJ] [],.ret (.cst (.str [102,114,101,101]))]⟩
noncomputable def fH:Fn:=⟨1,1,[.ret (.tup [.blt .list [.attr 0 vC [111,112,101,110,115]],.blt .list [.attr 0 vC [115,101,99,114,101,116,115]]])]⟩
noncomputable def eR:Fn:=⟨1,1,[.ret (.attr 0 vC [114,111,119,115])]⟩
noncomputable def dG:Fn:=⟨2,6,[.asg [2,3] true (.umth 0 66 [116,111,108,100] vC []),.asg [4] false (.bin .add vI vJ),.ite (.or [.not (.isi vE [.dict]),.cmp .ne (.blt .len [vE]) (.blt .len [vR])]) [.raise 5] [],.for_ [5] false .val [vR] [.ite (.or [.cmp .nin vS vE,.not (.call 23 [.idx vE vS])]) [.raise 5] []]]⟩
noncomputable def dq:Fn:=⟨4,5,[.setAttr 1 vC [110,117,109,98,101,114,115] .dict0,.for_ [4] false .val [.umth 0 64 [110,97,109,101,115] vE []] [.setIdx (.attr 1 vC [110,117,109,98,101,114,115]) vR (.mth .get vI [vR,vB])],.setAttr 1 vC [116,117,114,110,115] vJ,.setAttr 1 vC [115,97,105,100] (.list [])]⟩
noncomputable def cu:Fn:=⟨3,6,[.asg [3] false vI,.for_ [4] false .val [vE] [.asg [5] false (.umth 1 85 [100,111,95,114,111,119] vC [vR,vJ]),.ite (.isN false vS) [.ret vS] [],.asg [3] false (.bin .add vJ (.blt .len [.call 61 [.tup [vR],vA,.tup []]]))],.ret (.cst .none)]⟩
noncomputable def bC:Fn:=⟨3,4,[.ite (.cmp .eq (.idx vE vB) vL) [.ret (.cst .none)] [],.ite (.cmp .eq (.idx vE vB) vK) [.ret (.umth 1 86 [100,111,95,108,111,111,112] vC [vE,vI])] [],.asg [3] false (.call 18 [.call 26 [vE],.attr 1 vC [110,117,109,98,101,114,115]]),.ite (.isN true vJ) [.ret (.tup [vW,vI])] [],.ite (.cmp .eq (.idx vE vB) vG) [.setIdx (.attr 1 vC [110,117,109,98,101,114,115]) (.idx vE vA) vJ] [.ite (.cmp .eq (.idx vE vB) vO) [.expr (.mth .append (.attr 1 vC [115,97,105,100]) [vJ])] [.ite (.cmp .ne vJ vB) [.ret (.umth 1 84 [100,111,95,114,111,119,115] vC [.idx vE vH,.bin .add vI vA])] [.ret (.umth 1 84 [100,111,95,114,111,119,115] vC [.idx vE vM,.bin .add (.bin .add vI vA) (.blt .len [.call 61 [.idx vE vH,vA,.tup []]])])]]],.ret (.cst .none)]⟩
noncomputable def cv:Fn:=⟨3,5,[.while_ (.cst (.bool true)) [.asg [3] false (.call 18 [.idx vE vA,.attr 1 vC [110,117,109,98,101,114,115]]),.ite (.isN true vJ) [.ret (.tup [vW,vI])] [],.ite (.cmp .eq vJ vB) [.ret (.cst .none)] [],.ite (.cmp .eq (.attr 1 vC [116,117,114,110,115]) vB) [.ret (.tup [.cst (.str [116,105,114,101,100]),vI])] [],.setAttr 1 vC [116,117,114,110,115] (.bin .sub (.attr 1 vC [116,117,114,110,115]) vA),.asg [4] false (.umth 1 84 [100,111,95,114,111,119,115] vC [.idx (.call 25 [vE]) vB,.bin .add vI vA]),.ite (.isN false vR) [.ret vR] []]]⟩
noncomputable def rh:Fn:=⟨3,7,[.expr (.call 82 [vC,vE]),.ite (.not (.call 22 [vI,.glob 10 (.int 1000)])) [.raise 6] [],.asg [3] false (.new 1 83 [vC,vE,vI]),.asg [4] false (.umth 1 84 [100,111,95,114,111,119,115] vJ [.umth 0 67 [98,108,111,99,107] vC [],vA]),.ite (.isN true vR) [.asg [4] false (.tup [.cst (.str [100,111,110,101]),vB])] [],.asg [5] false (.comp (.tup [vY,.idx (.attr 1 vJ [110,117,109,98,101,114,115]) vY]) [6] false .val [.umth 0 64 [110,97,109,101,115] vC []] []),.ret (.tup [.idx vR vB,.idx vR vA,vS,.attr 1 vJ [115,97,105,100]])]⟩
noncomputable def fT:Fn:=⟨1,3,[.asg [1] false (.list []),.for_ [2] false .val [vC] [.expr (.mth .extend vE [.call 1 [vI]])],.ret vE]⟩
noncomputable def hZ:Fn:=⟨2,3,[.asg [2] false (.call 101 [vE]),.ite (.cmp .ne (.idx vC vB) vL) [.asg [2] false (.bin .add vI (.call 1 [.call 26 [vC]]))] [],.ret (.blt .sortedSet [vI])]⟩
noncomputable def pM:Fn:=⟨1,6,[.asg [1] false (.list []),.for_ [2,3,4] true .val [.call 61 [.umth 0 67 [98,108,111,99,107] vC [],vA,.tup []]] [.ite (.cmp .eq (.idx vJ vB) vG) [.expr (.mth .extend vE [.comp (.tup [vI,vS,.idx vJ vA]) [5] false .val [.call 102 [vJ,vR]] []])] []],.ret vE]⟩
noncomputable def i9:Fn:=⟨1,9,[.asg [1] false .dict0,.asg [2] false (.list []),.for_ [3] false .val [.idx (.umth 0 66 [116,111,108,100] vC []) vA] [.setIdx vE vJ (.list [.tup [vB,vJ]]),.expr (.mth .append vI [vJ])],.asg [4] false (.call 103 [vC]),.asg [5] false vB,.while_ (.cmp .lt vS (.blt .len [vI])) [.asg [6] false (.idx vI vS),.asg [5] false (.bin .add vS vA),.for_ [7,8,3] true .val [vR] [.ite (.and [.cmp .eq (.var 8) vY,.cmp .nin vJ vE,.cmp .eq (.umth 0 65 [107,105,110,100] vC [vJ]) (.cst (.str [102,114,101,101]))]) [.setIdx vE vJ (.bin .add (.idx vE vY) (.list [.tup [uC,vJ]])),.expr (.mth .append vI [vJ])] []]],.ret vE]⟩
noncomputable def pN:Fn:=⟨1,4,[.asg [1] false (.call 104 [vC]),.asg [2] false (.list []),.for_ [3] false .val [.umth 0 64 [110,97,109,101,115] vC []] [.ite (.cmp .inn vJ vE) [.expr (.mth .append vI [.tup [vJ,uJ]])] [.expr (.mth .append vI [.tup [vJ,uB]])]],.ret vI]⟩
noncomputable def d6:Fn:=⟨3,4,[.asg [3] false (.list []),.ite (.and [.cmp .eq (.idx vE vB) vG,.cmp .eq (.umth 0 65 [107,105,110,100] vC [.idx vE vA]) uB]) [.expr (.mth .append vJ [.tup [vG,.call 102 [vE,vI]]])] [],.ite (.cmp .eq (.idx vE vB) vO) [.expr (.mth .append vJ [.tup [vO,.call 102 [vE,vI]]])] [],.ite (.cmp .eq (.idx vE vB) vK) [.expr (.mth .append vJ [.tup [.cst (.str [116,117,114,110]),.call 102 [vE,vI]]])] [],.ite (.and [.cmp .ne (.idx vE vB) vL,.call 4 [.call 26 [vE]]]) [.expr (.mth .append vJ [.tup [vW,.bin .add (.call 3 [.call 26 [vE]]) (.call 101 [vI])]])] [],.ret vJ]⟩
noncomputable def j8:Fn:=⟨2,4,[.asg [2] false (.cst .none),.for_ [3] false .val [vE] [.ite (.and [.cmp .inn vJ vC,.or [.isN true vI,.cmp .lt (.blt .len [.idx vC vJ]) (.blt .len [vI])]]) [.asg [2] false (.idx vC vJ)] []],.ret vI]⟩
noncomputable def nu:Fn:=⟨1,9,[.asg [1] false (.call 104 [vC]),.for_ [2,3,4] true .val [.call 61 [.umth 0 67 [98,108,111,99,107] vC [],vA,.tup []]] [.for_ [5,6] true .val [.call 111 [vC,vJ,vR]] [.asg [7] false (.call 112 [vE,vY]),.ite (.isN false uC) [.asg [8] false (.cst (.str [])),.ite (.cmp .eq vS vG) [.asg [8] false (.idx vJ vA)] [],.ret (.tup [vS,.bin .add uC (.list [.tup [vI,.var 8]])])] []]],.ret (.cst .none)]⟩
noncomputable def fU:Fn:=⟨2,2,[.ite (.cmp .lt vE (.blt .len [vC])) [.ret (.idx vC vE)] [],.ret vB]⟩
noncomputable def ja:Fn:=⟨1,1,[.ret (.bin .mod (.bin .add (.bin .mul vC (.cst (.int 48271))) (.cst (.int 7919))) (.cst (.int 2147483647)))]⟩
noncomputable def fV:Fn:=⟨1,4,[.asg [1] false (.idx vP (.bin .mod (.bin .fdiv vC vV) (.cst (.int 26)))),.asg [2] false vC,.for_ [3] false .range1 [.bin .mod vC vV] [.asg [2] false (.call 6 [vI]),.asg [1] false (.bin .add vE (.idx (.cst (.str [97,98,99,100,101,102,103,104,105,106,107,108,109,110,111,112,113,114,115,116,117,118,119,120,121,122,48,49,50,51,52,53,54,55,56,57])) (.bin .mod vI (.cst (.int 36)))))],.ite (.cmp .inn vE (.list [vG,vO,vL,vU,uE,vK,uG])) [.ret (.bin .add vE (.cst (.str [48])))] [],.ret vE]⟩
noncomputable def fW:Fn:=⟨2,6,[.asg [2] false vP,.asg [3] false (.bin .mod vE (.blt .len [vC])),.ite (.cmp .gt vJ vB) [.asg [2] false (.bin .add vI (.cst (.str [48,49,50,51,52,53,54,55,56,57])))] [],.asg [4] false (.bin .add (.bin .add (.mth .find vI [.idx vC vJ]) vA) (.bin .mod (.bin .fdiv vE vV) (.bin .sub (.blt .len [vI]) vA))),.asg [5] false (.bin .add (.bin .add (.sl vC none (some vJ)) (.idx vI (.bin .mod vR (.blt .len [vI])))) (.sl vC (some (.bin .add vJ vA)) none)),.ite (.cmp .inn vS (.list [vG,vO,vL,vU,uE,vK,uG])) [.ret (.bin .add vS (.cst (.str [48])))] [],.ret vS]⟩
noncomputable def fw:Fn:=⟨2,5,[.asg [2] false (.list []),.for_ [3] false .range1 [uD] [.asg [0] false (.call 6 [vC]),.asg [4] false (.call 7 [.bin .fdiv vC vN]),.ite (.and [.cmp .eq (.bin .mod vJ vH) vA,.cmp .eq (.bin .mod (.bin .fdiv vE vQ) vH) vA]) [.asg [4] false (.call 8 [.idx vI (.bin .sub vJ vA),.call 6 [.bin .add vE vJ]])] [],.while_ (.or [.cmp .inn vR vI,.cmp .inn vR (.list [vG,vO,vL,vU,uE,vK,uG])]) [.asg [4] false (.bin .add (.sl vR none (some uI)) (.idx vP (.bin .mod (.bin .add (.bin .add vE (.blt .len [vR])) vJ) (.cst (.int 26))))),.asg [1] false (.bin .add vE vN)],.expr (.mth .append vI [vR])],.ret vI]⟩
noncomputable def eh:Fn:=⟨2,2,[.ite (.and [.cmp .ne vE (.list []),.cmp .gt (.bin .mod vC vM) vB]) [.ret (.tup [vF,.idx vE (.bin .mod (.bin .fdiv vC vM) (.blt .len [vE]))])] [],.ite (.cmp .eq (.bin .mod (.bin .fdiv vC vM) vQ) vB) [.ret (.tup [vD,.bin .mod (.bin .fdiv vC uH) (.bin .pow uD uF)])] [],.ret (.tup [vD,.bin .mod (.bin .fdiv vC uH) vN])]⟩
noncomputable def cJ:Fn:=⟨5,7,[.asg [0] false (.call 6 [vC]),.ite (.or [.cmp .eq vR vA,.cmp .lt (.bin .mod vC vV) vM]) [.ret (.call 10 [.bin .fdiv vC vV,vE])] [],.asg [5] false (.idx (.list [vX,.cst (.str [45]),.cst (.str [42]),uA,.cst (.str [61]),vX,.cst (.str [45]),uA,vZ,vZ]) (.bin .mod (.bin .fdiv vC vV) (.idx (.list [vV,uD]) (.blt .int [vJ])))),.asg [6] false (.call 11 [.bin .add (.bin .mul vC vM) vA,vE,vI,vJ,.bin .sub vR vA]),.ite (.and [.cmp .eq vS vZ,.cmp .lt (.bin .mod (.bin .fdiv vC (.cst (.int 80))) vQ) vM]) [.ret (.tup [vS,vY,.tup [vD,.bin .add vA (.bin .mod (.bin .fdiv vC (.cst (.int 320))) (.cst (.int 9)))]])] [],.ite (.cmp .eq vS vZ) [.ret (.tup [vS,vY,.call 11 [.bin .add (.bin .mul vC vN) vH,vI,vI,vJ,.bin .sub vR vA]])] [],.ret (.tup [vS,vY,.call 11 [.bin .add (.bin .mul vC vN) vH,vE,vI,vJ,.bin .sub vR vA]])]⟩
noncomputable def bi:Fn:=⟨1,1,[.ite (.cmp .eq (.idx vC vB) vD) [.ret (.list [])] [],.ite (.cmp .eq (.idx vC vB) vF) [.ret (.list [.idx vC vA])] [],.ret (.bin .add (.call 37 [.idx vC vA]) (.call 37 [.idx vC vH]))]⟩
noncomputable def bM:Fn:=⟨4,8,[.asg [4] false (.sl vC none (some vN)),.asg [5] false vC,.ite (.or [.and [.cmp .eq vJ vB,.cmp .eq (.bin .mod (.bin .fdiv vE uH) vH) vB],.and [.cmp .eq vJ vH,vI,.cmp .gt (.bin .mod (.bin .fdiv vE uH) vM) vB]]) [.asg [5] false vR] [.ite (.cmp .eq vJ vH) [.asg [5] false (.sl vC (some vN) none)] []],.ite (.cmp .gt vJ vB) [.asg [4] false vS] [],.asg [6] false (.call 11 [vE,vS,vR,.or [.cmp .gt vJ vB,.not vI],.bin .add vA (.bin .mod (.bin .fdiv vE (.cst (.int 24))) vQ)]),.ret (.tup [vY,.cmp .ne (.comp uC [7] false .val [.call 37 [vY]] [.cmp .inn uC (.sl vC (some vN) none)]) (.list [])])]⟩
noncomputable def ej:Fn:=⟨1,2,[.asg [1] false (.mth .pop vC []),.ite (.cmp .eq (.idx vE vB) vK) [.ite (.and [.cmp .eq (.idx (.idx vE vA) vB) uA,.cmp .eq (.idx (.idx (.idx vE vA) vA) vB) vF]) [.expr (.mth .append (.idx vE vH) [.tup [vG,.idx (.idx (.idx vE vA) vA) vA,.tup [vX,.idx (.idx vE vA) vA,.tup [vD,vA]]]])] [],.expr (.mth .append (.idx (.idx vC (.neg vA)) vH) [.tup [vK,.idx vE vA,.blt .tuple [.idx vE vH]]])] [.ite (.isN true (.idx vE vQ)) [.expr (.mth .append vC [.list [.idx vE vB,.idx vE vA,.list [],.idx vE vM,.blt .tuple [.idx vE vH]]])] [.expr (.mth .append (.idx (.idx vC (.neg vA)) vH) [.tup [vU,.idx vE vA,.idx vE vQ,.blt .tuple [.idx vE vH]]])]]]⟩
noncomputable def fy:Fn:=⟨4,11,[.asg [4] false (.bin .mod vI uH),.asg [5] false (.cmp .ne (.comp (.var 10) [10] false .val [vC] [.idx (.var 10) vM]) (.list [])),.asg [6,7] true (.call 38 [vE,vI,vS,vJ]),.asg [8] false (.and [.cmp .eq vJ vB,.or [vS,uC]]),.ite (.cmp .eq vJ vH) [.asg [4] false (.idx (.list [vB,vQ,vV,vB]) (.bin .mod (.bin .fdiv vI uI) vQ))] [],.ite (.cmp .lt vR vQ) [.asg [9] false (.idx (.list [vE,vE,.idx (.list [.sl vE none (some vN),.sl vE (some vN) none]) (.blt .int [.cmp .eq (.bin .mod (.bin .fdiv vI uI) vQ) vM])]) vJ),.ite (.var 8) [.asg [9] false (.sl vE (some vN) none)] [],.expr (.mth .append (.idx (.idx vC (.neg vA)) vH) [.tup [vG,.idx (.var 9) (.bin .mod (.bin .fdiv vI (.cst (.int 96))) (.blt .len [.var 9])),vY]])] [.ite (.and [.cmp .eq vR vQ,.not (.var 8)]) [.expr (.mth .append (.idx (.idx vC (.neg vA)) vH) [.tup [vO,vY]])] [.ite (.cmp .eq vR vN) [.expr (.mth .append (.idx (.idx vC (.neg vA)) vH) [.tup [vL]])] [.ite (.and [.cmp .lt vR vV,.cmp .lt (.blt .len [vC]) vV]) [.expr (.mth .append vC [.list [vU,vY,.list [],uC,.cst .none]])] [.ite (.and [.cmp .lt vR uD,.cmp .lt (.blt .len [vC]) vV,.not (.var 8)]) [.ite (.and [.cmp .eq vJ vB,.cmp .gt (.bin .mod (.bin .fdiv vI (.cst (.int 96))) vQ) vB]) [.asg [6] false (.tup [uA,.tup [vF,.idx vE (.bin .mod (.bin .fdiv vI (.cst (.int 384))) vN)],.tup [vD,.bin .add vA (.bin .mod (.bin .fdiv vI (.cst (.int 1920))) vQ)]])] [],.expr (.mth .append vC [.list [vK,vY,.list [],uC,.cst .none]])] [.ite (.cmp .gt (.blt .len [vC]) vA) [.expr (.call 39 [vC])] []]]]]]]⟩
noncomputable def di:Fn:=⟨3,8,[.asg [3] false (.list [.list [.cst (.str []),.cst .none,.list [],vT,.cst .none]]),.for_ [4,5] true .enum [vC] [.asg [6] false (.call 6 [.bin .mul (.call 6 [.bin .add vS (.bin .mul (.cst (.int 131)) vR)]) (.bin .add vR vH)]),.asg [7] false vB,.ite (.and [.cmp .eq vI vA,.cmp .eq (.bin .mod (.bin .fdiv vY (.cst (.int 4096))) vQ) vB]) [.asg [7] false vA] [],.ite (.and [.cmp .gt vI vA,.cmp .eq vR (.bin .mod vI (.blt .len [vC]))]) [.asg [7] false vH] [],.expr (.call 40 [vJ,vE,vY,uC])],.while_ (.cmp .gt (.blt .len [vJ]) vA) [.expr (.call 39 [vJ])],.ret (.idx (.idx vJ vB) vH)]⟩
noncomputable def ie:Fn:=⟨1,1,[.ite (.cmp .eq (.idx vC vB) vG) [.ret (.list [])] [],.ret (.blt .list [.sl vC (some vH) none])]⟩
noncomputable def fX:Fn:=⟨1,1,[.ite (.cmp .eq (.idx vC vB) vL) [.ret (.tup [vD,vB])] [],.ret (.idx vC (.bin .add vA (.blt .int [.cmp .eq (.idx vC vB) vG])))]⟩
noncomputable def ig:Fn:=⟨3,5,[.for_ [3] false .val [vC] [.expr (.mth .append vI [.tup [vJ,vE]]),.for_ [4] false .val [.call 72 [vJ]] [.expr (.call 107 [vR,.bin .add vE (.call 37 [.call 106 [vJ]]),vI])]],.ret vI]⟩
noncomputable def ij:Fn:=⟨3,7,[.asg [3] false .dict0,.for_ [4,5] true .enum [vI] [.asg [6] false (.call 6 [.call 5 [vC,.bin .add vE vR]]),.setIdx vJ vS (.idx (.list [.bin .mod (.bin .fdiv vY vV) vQ,.bin .mod (.bin .fdiv vY vV) (.bin .pow uD uF)]) (.blt .int [.cmp .gt (.bin .mod vY vV) vN]))],.ret vJ]⟩
noncomputable def j9:Fn:=⟨2,4,[.asg [2] false (.blt .dict [.call 105 [vC]]),.ret (.comp vJ [3] false .val [vE] [.cmp .eq (.idx vI (.idx vJ vB)) uB])]⟩
noncomputable def fY:Fn:=⟨3,3,[.ite (.or [.cmp .ne (.idx vE vB) (.idx vI vB),.cmp .ne (.idx vE vA) (.idx vI vA),.cmp .ne (.idx vE vM) (.idx vI vM)]) [.ret vT] [],.ret (.cmp .eq (.call 127 [vC,.idx vE vH]) (.call 127 [vC,.idx vI vH]))]⟩
noncomputable def fZ:Fn:=⟨2,4,[.asg [2,3] true (.idx (.call 107 [vC,.list [],.list []]) (.bin .sub (.idx (.idx (.idx vE vA) (.neg vA)) vB) vA)),.ite (.cmp .nin (.idx (.idx (.idx vE vA) (.neg vH)) vA) (.bin .add (.call 37 [.call 106 [vI]]) vJ)) [.ret vT] [],.ret (.or [.cmp .eq (.idx vE vB) vW,.cmp .inn (.tup [.idx vE vB,.idx vI vB]) (.tup [.tup [vG,vG],.tup [vO,vO],.tup [.cst (.str [116,117,114,110]),vK]])])]⟩
noncomputable def bX:Fn:=⟨4,8,[.asg [4] false (.idx vC (.bin .mod vJ vN)),.asg [5] false (.idx (.list [.tup [vF,vI],.tup [vX,.tup [vF,vR],.tup [vF,vI]],.tup [uA,.tup [vF,vI],.tup [vD,vH]]]) (.bin .mod (.bin .fdiv vJ vN) vM)),.asg [6] false (.tup [vG,vR,.tup [vX,.tup [vF,vR],.tup [vD,vA]]]),.ite (.cmp .eq vE vB) [.ret (.tup [vG,.idx vC (.bin .mod (.bin .fdiv vJ uK) vN),vS])] [],.ite (.cmp .eq vE vA) [.ret (.tup [vO,vS])] [],.ite (.cmp .eq vE vH) [.ret (.tup [vK,.tup [uA,.tup [vF,vI],.tup [vD,vM]],.tup [.tup [vG,vI,.tup [vX,.tup [vF,vI],.tup [vD,vA]]]]])] [],.ite (.cmp .eq vE vM) [.ret (.tup [vG,.idx vC (.bin .add vN (.bin .mod (.bin .fdiv vJ uK) vN)),.tup [vZ,.tup [vD,uI],vS]])] [],.asg [7] false (.idx (.list [.tup [vG,.idx vC (.bin .mod (.bin .fdiv vJ uK) vN),.tup [vX,.tup [vF,vR],.tup [vD,vA]]],.tup [vO,.tup [vF,vR]]]) (.bin .mod vE vH)),.ite (.cmp .eq vE uF) [.asg [7] false (.tup [vK,.tup [uA,.tup [vF,vR],.tup [vD,vM]],.tup [vY]])] [],.ite (.cmp .eq vE uI) [.asg [7] false (.tup [vG,.idx vC (.bin .add vN (.bin .mod (.bin .fdiv vJ uK) vN)),.tup [vZ,.tup [vF,vR],.tup [vD,.bin .mod (.bin .fdiv vJ (.cst (.int 75))) vH]]])] [],.ret (.tup [vU,vS,.idx (.list [.tup [uC],.tup []]) (.bin .mod (.bin .fdiv vJ (.cst (.int 150))) vH),.idx (.list [.tup [uC],.tup []]) (.bin .sub vA (.bin .mod (.bin .fdiv vJ (.cst (.int 150))) vH))])]⟩
noncomputable def bj:Fn:=⟨3,7,[.asg [3] false (.idx vC (.bin .add vN (.bin .mod (.bin .fdiv vI (.cst (.int 24))) vN))),.asg [4] false (.list []),.ite (.cmp .eq (.bin .mod vI vM) vA) [.expr (.mth .append vR [.tup [vG,.idx vC (.bin .add vN (.bin .mod (.bin .fdiv vI (.cst (.int 120))) vN)),.tup [vX,.tup [vF,vJ],.tup [vD,vA]]]]),.asg [3] false (.idx vC (.bin .add vN (.bin .mod (.bin .fdiv vI (.cst (.int 120))) vN)))] [],.asg [5] false (.call 123 [vC,.bin .mod (.bin .fdiv vI vM) vV,vJ,.call 6 [vI]]),.ite (.or [.cmp .eq (.bin .mod (.bin .fdiv vI (.cst (.int 500))) vM) vA,.cmp .eq (.bin .mod (.bin .fdiv vI (.cst (.int 500))) uF) vH]) [.asg [5] false (.tup [vU,.tup [.cst (.str [61]),.tup [vF,.idx vC vB],.tup [vF,.idx vC vB]],.tup [vS],.tup [.tup [vL]]])] [],.asg [6] false (.bin .mod (.bin .fdiv vI (.cst (.int 1500))) (.bin .add (.blt .len [vE]) vA)),.ite (.cmp .gt (.bin .mod (.bin .fdiv vI (.cst (.int 500))) vM) vB) [.asg [6] false vB] [],.ret (.bin .add (.bin .add (.bin .add (.sl vE none (some vY)) vR) (.list [vS])) (.sl vE (some vY) none))]⟩
noncomputable def jb:Fn:=⟨4,7,[.asg [4] false (.call 5 [vC,vH]),.asg [5] false (.call 41 [.sl vC (some vE) (some vI),vJ,.blt .int [.cmp .eq (.bin .mod vR vQ) vM]]),.ite (.or [.cmp .eq (.bin .mod vR vQ) vA,.cmp .eq (.bin .mod vR vQ) vH]) [.asg [6] false (.bin .add (.bin .add (.bin .fdiv vR vQ) (.bin .mul (.cst (.int 1009)) (.bin .mod (.call 5 [vC,vB]) (.bin .pow uD uF)))) (.bin .mul (.cst (.int 31)) (.bin .mod (.call 5 [vC,vA]) (.bin .pow uD uF)))),.ret (.call 124 [vJ,vS,.call 6 [.call 6 [vY]]])] [],.ret vS]⟩
noncomputable def f6:Fn:=⟨2,8,[.asg [2] false (.idx (.list [vB,.bin .mod (.bin .fdiv vE vQ) vM,.bin .mod (.bin .fdiv vE vQ) (.cst (.int 20)),vB]) (.bin .mod vE vQ)),.asg [3] false (.list [.comp (.bin .add (.cst (.str [121,111])) (.blt .str [vR])) [4] false .range1 [vI] [],.comp (.bin .add (.cst (.str [121,115])) (.blt .str [vS])) [5] false .range1 [.bin .add vI (.bin .mod (.bin .fdiv vE vQ) vH)] []]),.ret (.comp (.comp uC [7] false .val [vY] [.cmp .nin uC vC]) [6] false .val [vJ] [])]⟩
noncomputable def d7:Fn:=⟨3,8,[.asg [3] false (.list [.blt .list [.idx vE vB],.blt .list [.idx vE vA]]),.asg [4] false vI,.for_ [5,6] true .enum [vC] [.ite (.cmp .gt (.bin .mod vR vM) vB) [.expr (.mth .append (.idx vJ (.bin .fdiv vS vN)) [vY])] [],.asg [4] false (.bin .fdiv vR vM)],.asg [7] false (.list [.bin .mod (.bin .fdiv vI (.cst (.int 27))) (.blt .max [vA,.blt .len [.idx vJ vB]]),.bin .mod (.bin .fdiv vI (.cst (.int 189))) (.blt .max [vA,.blt .len [.idx vJ vA]])]),.ret (.list [.bin .add (.sl (.idx vJ vB) (some (.idx uC vB)) none) (.sl (.idx vJ vB) none (some (.idx uC vB))),.bin .add (.sl (.idx vJ vA) (some (.idx uC vA)) none) (.sl (.idx vJ vA) none (some (.idx uC vA)))])]⟩
noncomputable def b0:Fn:=⟨1,12,[.asg [1] false (.call 9 [.call 5 [vC,vB],.call 5 [vC,vA]]),.asg [2] false (.call 95 [vE,.call 6 [.call 5 [vC,vA]]]),.asg [3] false (.call 96 [vE,vI,.call 6 [.call 5 [vC,vB]]]),.asg [4] false (.blt .tuple [.call 125 [vC,.cst (.int 14),.cst (.int 38),vE]]),.asg [5] false (.new 0 63 [.idx vJ vB,.idx vJ vA,vR]),.asg [6] false (.call 113 [vS]),.ite (.isN false vY) [.ret (.call 129 [vR,vY])] [],.asg [7] false (.call 89 [vC,vM,.bin .add (.idx vJ vB) (.idx vJ vA)]),.asg [8] false (.call 89 [vC,.cst (.int 9),.bin .add (.idx vJ vB) (.idx vJ vA)]),.for_ [9] false .val [.idx vJ vA] [.ite (.cmp .gt (.bin .mod (.call 5 [vC,vA]) vQ) vB) [.setIdx (.var 8) (.var 9) (.idx (.list [vB,.bin .add vA (.bin .mod (.idx (.var 8) (.var 9)) vM)]) (.blt .int [.cmp .eq (.idx uC (.var 9)) vB]))] []],.for_ [9] false .val [.idx vJ vB] [.setIdx (.var 8) (.var 9) (.idx uC (.var 9))],.asg [10] false (.bin .mod (.call 5 [vC,.cst (.int 13)]) (.cst (.int 26))),.asg [11] false (.call 87 [vS,uC,.var 10]),.ite (.not (.call 128 [vS,.var 11,.call 87 [vS,.var 8,.var 10]])) [.ret vT] [],.ret (.call 128 [vS,.call 87 [vS,uC,.var 10],.var 11])]⟩
noncomputable def gl:Nat→Option (Str × MV)
 | 0=>some ("MODULUS",(.int 1000000))
 | 1=>some ("WORDS",(.gt [[115,101,116],[116,101,108,108],[115,107,105,112],[105,102],[101,108,115,101],[119,104,105,108,101],[101,110,100]]))
 | 10=>some ("MOST_TURNS",(.int 1000))
 | 2=>some ("SIGNS",(.gt [[43],[45],[42],[47],[60],[61]]))
 | 3=>some ("LETTERS",(.str [97,98,99,100,101,102,103,104,105,106,107,108,109,110,111,112,113,114,115,116,117,118,119,120,121,122]))
 | 4=>some ("FIGURES",(.str [48,49,50,51,52,53,54,55,56,57]))
 | 5=>some ("MOST_SIGNS",(.int 8))
 | 6=>some ("DEEPEST",(.int 12))
 | 7=>some ("DEEPEST_ROW",(.int 8))
 | 9=>some ("THINGS",(.cdict [([115,101,116],3),([116,101,108,108],2),([115,107,105,112],1),([105,102],4),([119,104,105,108,101],3)]))
 | _=>none
noncomputable def tab:Tab:=(22,"is_whole",["thing","most"],fR)::
 (23,"is_number",["thing"],i6)::
 (24,"is_name",["thing","sign"],l8)::
 (55,"need_formula",["thing","deep","good"],co)::
 (0,"all_names",["formula"],dt)::
 (1,"names_in",["formula"],j0)::
 (2,"all_right_names",["formula","found"],bK)::
 (3,"right_names",["formula"],fS)::
 (4,"divides",["formula"],fv)::
 (17,"joined",["sign","one","other"],nt)::
 (18,"reckoned",["formula","values","one","other"],c0)::
 (56,"is_block",["thing"],j4)::
 (25,"blocks_in",["row"],i7)::
 (26,"formula_of",["row"],hX)::
 (57,"has_form",["row"],j5)::
 (58,"need_rows",["block","deep","row","inner"],i8)::
 (59,"need_names",["names","known","name"],hY)::
 (60,"settled",["block","rows","row"],l9)::
 (61,"numbered",["block","first","above","found","number","row","inner","rows"],j6)::
 (62,"names_of",["row","found"],j7)::
 (82,"need_values",["program","values","opens","secrets","names","name"],dG)::
 (87,"run",["program","values","turns","running","stop","pairs"],rh)::
 (101,"names_above",["above","found","formula"],fT)::
 (102,"sources_of",["row","above","found"],hZ)::
 (103,"flows",["program","found","number","row","above"],pM)::
 (104,"roads",["program","found","waiting","name","ways","at","source","number","one"],i9)::
 (105,"kinds",["program","secret","found","name"],pN)::
 (111,"leaks_of",["program","row","above","found"],d6)::
 (112,"shortest",["secret","names","best","name"],j8)::
 (113,"looked",["program","secret","number","row","above","way","names","road","last"],nu)::
 (5,"_law_cell_at",["_law_script","_law_k"],fU)::
 (6,"_law_mixed",["_law_number"],ja)::
 (7,"_law_name_by",["_law_cell","_law_found","_law_number","_law_k"],fV)::
 (8,"_law_twin",["_law_name","_law_cell","_law_some","_law_at","_law_step","_law_found"],fW)::
 (9,"_law_names",["_law_one","_law_other","_law_names_here","_law_k","_law_name"],fw)::
 (10,"_law_end_by",["_law_number","_law_names_here"],eh)::
 (11,"_law_formula_by",["_law_number","_law_names_here","_law_low","_law_divide","_law_left","_law_sign","_law_one"],cJ)::
 (37,"_law_all_names",["_law_formula_here"],bi)::
 (38,"_law_row_by",["_law_names_here","_law_more_here","_law_dark","_law_mode","_law_low","_law_some","_law_formula_here"],bM)::
 (39,"_law_closed",["_law_stack","_law_frame"],ej)::
 (40,"_law_put",["_law_stack","_law_names_here","_law_more_here","_law_mode","_law_way","_law_dark","_law_formula_here","_law_secret","_law_shut","_law_some"],fy)::
 (41,"_law_block_by",["_law_cells","_law_names_here","_law_loose","_law_stack","_law_turn","_law_cell","_law_more_here","_law_mode"],di)::
 (72,"_law_blocks",["_law_row"],ie)::
 (106,"_law_formula",["_law_row"],fX)::
 (107,"_law_listed",["_law_block","_law_around","_law_rows","_law_row","_law_inner"],ig)::
 (89,"_law_values",["_law_script","_law_at","_law_names_here","_law_values_here","_law_k","_law_name","_law_cell"],ij)::
 (127,"_law_open",["_law_program","_law_pairs","_law_known"],j9)::
 (128,"_law_alike",["_law_program","_law_one","_law_other"],fY)::
 (129,"_law_leaks",["_law_block","_law_told_here","_law_row","_law_around"],fZ)::
 (123,"_law_leaking",["_law_names_here","_law_way","_law_dark","_law_cell","_law_low","_law_one","_law_more_here","_law_inner"],bX)::
 (124,"_law_with_leak",["_law_names_here","_law_block","_law_cell","_law_dark","_law_rows","_law_leak","_law_at"],bj)::
 (125,"_law_drawn",["_law_script","_law_low","_law_high","_law_names_here","_law_cell","_law_block","_law_more_here"],jb)::
 (95,"_law_more",["_law_names_here","_law_cell","_law_many","_law_found"],f6)::
 (96,"_law_told",["_law_names_here","_law_more_here","_law_cell","_law_rows","_law_number","_law_k","_law_name","_law_at"],d7)::
 (130,"law",["_law_script","_law_names_here","_law_more_here","_law_pairs","_law_block","_law_program","_law_told_here","_law_values_here","_law_others","_law_name","_law_turns","_law_one"],b0)::[]
noncomputable def mtab:zW:=[(63,0,"__init__",["self","opens","secrets","block","known","many"],dp),
 (64,0,"names",["self","found","number","row","above"],eP),
 (65,0,"kind",["self","name"],fG),
 (66,0,"told",["self"],fH),
 (67,0,"block",["self"],eR),
 (83,1,"__init__",["self","program","values","turns","name"],dq),
 (84,1,"do_rows",["self","block","first","number","row","stop"],cu),
 (85,1,"do_row",["self","row","number","value"],bC),
 (86,1,"do_loop",["self","row","number","value","stop"],cv)]
noncomputable def PP (f:Nat):Option Fn:=(fnP tab f).or (mtP mtab f)
end Internal
end
section
namespace Internal
theorem ma {g:Option (Nat × List MV)}{step:MV→(Fl→MS→Prop)→MS→Prop}{Q:Fl→MS→Prop}(I:Nat→MS→Prop) (Rt:MV→MS→Prop) {items:List MV}{m:MS}(h0:I 0 m) (hg:∀i m,I i m→aW g m.heap)
  (hstep:∀i x m (P:Fl→MS→Prop),items[i]?=some x→I i m→(∀m',I (i+1) m'→P .next m')→(∀m',I (i+1) m'→P .cont m')→(∀r m',Rt r m'→P (.ret r) m')→step x P m)
  (hend:∀m,I items.length m→Q .next m) (hret:∀r m,Rt r m→Q (.ret r) m):dA g step Q items m:=by
 have key:∀(l:List MV) (i:Nat) (m:MS),i+l.length=items.length→items.drop i=l→I i m→dA g step Q l m:=by
  intro l
  induction l with
  | nil=>
   intro i m hl e hI
   have hl:i=items.length:=hl
   subst hl
   rw [kR]
   exact ⟨hg _ m hI,hend m hI⟩
  | cons x l ih=>
   intro i m hl e hI
   have hlt:i<items.length:=by simp only [List.length_cons] at hl;exact n1 (Nat.le_of_eq hl) (by simp +arith only)
   have e':=List.drop_eq_getElem_cons hlt
   rw [e] at e'
   simp only [List.cons.injEq] at e'
   rw [gA]
   refine ⟨hg i m hI,hstep i x m _ (by rw [List.getElem?_eq_getElem hlt,e'.1]) hI (fun m' h'=>?_) (fun m' h'=>?_) fun r m' h'=>hret r m' h'⟩
   ·exact ih (i+1) m' (by simp only [List.length_cons] at hl;lia) e'.2.symm h'
   ·exact ih (i+1) m' (by simp only [List.length_cons] at hl;lia) e'.2.symm h'
 exact key items 0 m (by simp) (by simp) h0
theorem iz {σ:Type}(st:Nat→σ→MS) (I:Nat→σ→Prop) {g:Option (Nat × List MV)}{step:MV→(Fl→MS→Prop)→MS→Prop}{Q:Fl→MS→Prop}{items:List MV}{m:MS}(w:σ) (e0:m=st 0 w) (h0:I 0 w) (hg:∀i w,I i w→aW g (st i w).heap)
  (hstep:∀i x w (P:Fl→MS→Prop),items[i]?=some x→I i w→(∀w,I (i+1) w→P .next (st (i+1) w))→(∀w,I (i+1) w→P .cont (st (i+1) w))→step x P (st i w)) (hend:∀w,I items.length w→Q .next (st items.length w)):dA g step Q items m:=by
 refine ma (fun i m=>∃w,m=st i w∧I i w) (fun _ _=>False) ⟨w,e0,h0⟩ (fun i m hI=>?_) (fun i x m P hx hI h1 h2 _=>?_) (fun m hI=>?_) (fun _ _ h=>h.elim)
 ·obtain ⟨w,rfl,h⟩:=hI;exact hg i w h
 ·obtain ⟨w,rfl,h⟩:=hI;exact hstep i x w P hx h (fun w h=>h1 _ ⟨w,rfl,h⟩) fun w h=>h2 _ ⟨w,rfl,h⟩
 ·obtain ⟨w,rfl,h⟩:=hI;exact hend w h
theorem gP {α β:Type}(st:Nat→α→β→MS) (I:Nat→α→β→Prop) {g:Option (Nat × List MV)}{step:MV→(Fl→MS→Prop)→MS→Prop}{Q:Fl→MS→Prop}{items:List MV}{m:MS}(a:α) (b:β) (e0:m=st 0 a b) (h0:I 0 a b) (hg:∀i a b,I i a b→aW g (st i a b).heap)
  (hstep:∀i x a b (P:Fl→MS→Prop),items[i]?=some x→I i a b→(∀a b,I (i+1) a b→P .next (st (i+1) a b))→(∀a b,I (i+1) a b→P .cont (st (i+1) a b))→step x P (st i a b)) (hend:∀a b,I items.length a b→Q .next (st items.length a b)):dA g step Q items m:=
 iz (fun i (w:α × β)=>st i w.1 w.2) (fun i w=>I i w.1 w.2) (a,b) e0 h0 (fun i w=>hg i w.1 w.2) (fun i x w P hx hI h1 h2=>hstep i x w.1 w.2 P hx hI (fun a b h=>h1 (a,b) h) fun a b h=>h2 (a,b) h) fun w=>hend w.1 w.2
theorem fz {α β γ:Type}(st:Nat→α→β→γ→MS) (I:Nat→α→β→γ→Prop) {g:Option (Nat × List MV)}{step:MV→(Fl→MS→Prop)→MS→Prop}{Q:Fl→MS→Prop}{items:List MV}{m:MS}(a:α) (b:β) (c:γ) (e0:m=st 0 a b c) (h0:I 0 a b c) (hg:∀i a b c,I i a b c→aW g (st i a b c).heap)
  (hstep:∀i x a b c (P:Fl→MS→Prop),items[i]?=some x→I i a b c→(∀a b c,I (i+1) a b c→P .next (st (i+1) a b c))→(∀a b c,I (i+1) a b c→P .cont (st (i+1) a b c))→step x P (st i a b c)) (hend:∀a b c,I items.length a b c→Q .next (st items.length a b c)):dA g step Q items m:=
 iz (fun i (w:α × β × γ)=>st i w.1 w.2.1 w.2.2) (fun i w=>I i w.1 w.2.1 w.2.2) (a,b,c) e0 h0 (fun i w=>hg i w.1 w.2.1 w.2.2) (fun i x w P hx hI h1 h2=>hstep i x w.1 w.2.1 w.2.2 P hx hI (fun a b c h=>h1 (a,b,c) h) fun a b c h=>h2 (a,b,c) h) fun w=>hend w.1 w.2.1 w.2.2
theorem sx {α β γ δ:Type}(st:Nat→α→β→γ→δ→MS) (I:Nat→α→β→γ→δ→Prop) {g:Option (Nat × List MV)}{step:MV→(Fl→MS→Prop)→MS→Prop}{Q:Fl→MS→Prop}{items:List MV}{m:MS}(a:α) (b:β) (c:γ) (d:δ) (e0:m=st 0 a b c d) (h0:I 0 a b c d) (hg:∀i a b c d,I i a b c d→aW g (st i a b c d).heap)
  (hstep:∀i x a b c d (P:Fl→MS→Prop),items[i]?=some x→I i a b c d→(∀a b c d,I (i+1) a b c d→P .next (st (i+1) a b c d))→(∀a b c d,I (i+1) a b c d→P .cont (st (i+1) a b c d))→step x P (st i a b c d)) (hend:∀a b c d,I items.length a b c d→Q .next (st items.length a b c d)):dA g step Q items m:=
 iz (fun i (w:α × β × γ × δ)=>st i w.1 w.2.1 w.2.2.1 w.2.2.2) (fun i w=>I i w.1 w.2.1 w.2.2.1 w.2.2.2) (a,b,c,d) e0 h0 (fun i w=>hg i w.1 w.2.1 w.2.2.1 w.2.2.2) (fun i x w P hx hI h1 h2=>hstep i x w.1 w.2.1 w.2.2.1 w.2.2.2 P hx hI (fun a b c d h=>h1 (a,b,c,d) h) fun a b c d h=>h2 (a,b,c,d) h) fun w=>hend w.1 w.2.1 w.2.2.1 w.2.2.2
theorem om {α β γ δ ε:Type}(st:Nat→α→β→γ→δ→ε→MS) (I:Nat→α→β→γ→δ→ε→Prop) {g:Option (Nat × List MV)}{step:MV→(Fl→MS→Prop)→MS→Prop}{Q:Fl→MS→Prop}{items:List MV}{m:MS}(a:α) (b:β) (c:γ) (d:δ) (e:ε) (e0:m=st 0 a b c d e) (h0:I 0 a b c d e) (hg:∀i a b c d e,I i a b c d e→aW g (st i a b c d e).heap)
  (hstep:∀i x a b c d e (P:Fl→MS→Prop),items[i]?=some x→I i a b c d e→(∀a b c d e,I (i+1) a b c d e→P .next (st (i+1) a b c d e))→(∀a b c d e,I (i+1) a b c d e→P .cont (st (i+1) a b c d e))→step x P (st i a b c d e)) (hend:∀a b c d e,I items.length a b c d e→Q .next (st items.length a b c d e)):dA g step Q items m:=
 iz (fun i (w:α × β × γ × δ × ε)=>st i w.1 w.2.1 w.2.2.1 w.2.2.2.1 w.2.2.2.2) (fun i w=>I i w.1 w.2.1 w.2.2.1 w.2.2.2.1 w.2.2.2.2) (a,b,c,d,e) e0 h0 (fun i w=>hg i w.1 w.2.1 w.2.2.1 w.2.2.2.1 w.2.2.2.2) (fun i x w P hx hI h1 h2=>hstep i x w.1 w.2.1 w.2.2.1 w.2.2.2.1 w.2.2.2.2 P hx hI (fun a b c d e h=>h1 (a,b,c,d,e) h) fun a b c d e h=>h2 (a,b,c,d,e) h) fun w=>hend w.1 w.2.1 w.2.2.1 w.2.2.2.1 w.2.2.2.2
theorem kB {α β γ δ ε ζ:Type}(st:Nat→α→β→γ→δ→ε→ζ→MS) (I:Nat→α→β→γ→δ→ε→ζ→Prop) {g:Option (Nat × List MV)}{step:MV→(Fl→MS→Prop)→MS→Prop}{Q:Fl→MS→Prop}{items:List MV}{m:MS}(a:α) (b:β) (c:γ) (d:δ) (e:ε) (f:ζ) (e0:m=st 0 a b c d e f) (h0:I 0 a b c d e f) (hg:∀i a b c d e f,I i a b c d e f→aW g (st i a b c d e f).heap)
  (hstep:∀i x a b c d e f (P:Fl→MS→Prop),items[i]?=some x→I i a b c d e f→(∀a b c d e f,I (i+1) a b c d e f→P .next (st (i+1) a b c d e f))→(∀a b c d e f,I (i+1) a b c d e f→P .cont (st (i+1) a b c d e f))→step x P (st i a b c d e f)) (hend:∀a b c d e f,I items.length a b c d e f→Q .next (st items.length a b c d e f)):dA g step Q items m:=
 iz (fun i (w:α × β × γ × δ × ε × ζ)=>st i w.1 w.2.1 w.2.2.1 w.2.2.2.1 w.2.2.2.2.1 w.2.2.2.2.2) (fun i w=>I i w.1 w.2.1 w.2.2.1 w.2.2.2.1 w.2.2.2.2.1 w.2.2.2.2.2) (a,b,c,d,e,f) e0 h0 (fun i w=>hg i w.1 w.2.1 w.2.2.1 w.2.2.2.1 w.2.2.2.2.1 w.2.2.2.2.2) (fun i x w P hx hI h1 h2=>hstep i x w.1 w.2.1 w.2.2.1 w.2.2.2.1 w.2.2.2.2.1 w.2.2.2.2.2 P hx hI (fun a b c d e f h=>h1 (a,b,c,d,e,f) h) fun a b c d e f h=>h2 (a,b,c,d,e,f) h) fun w=>hend w.1 w.2.1 w.2.2.1 w.2.2.2.1 w.2.2.2.2.1 w.2.2.2.2.2
structure A3 (p1 p2 p3:Prop):Prop where
 h1:p1
 h2:p2
 h3:p3
structure A4 (p1 p2 p3 p4:Prop):Prop where
 h1:p1
 h2:p2
 h3:p3
 h4:p4
structure A5 (p1 p2 p3 p4 p5:Prop):Prop where
 h1:p1
 h2:p2
 h3:p3
 h4:p4
 h5:p5
structure A6 (p1 p2 p3 p4 p5 p6:Prop):Prop where
 h1:p1
 h2:p2
 h3:p3
 h4:p4
 h5:p5
 h6:p6
structure A7 (p1 p2 p3 p4 p5 p6 p7:Prop):Prop where
 h1:p1
 h2:p2
 h3:p3
 h4:p4
 h5:p5
 h6:p6
 h7:p7
theorem gQ {c:(Bool→MS→Prop)→MS→Prop}{b:(Fl→MS→Prop)→MS→Prop}{Q:Fl→MS→Prop}(I:Nat→MS→Prop) (hno:∀m,¬ I 0 m)
  (hturn:∀k m (W:MS→Prop),I (k+1) m→(∀m',I k m'→W m')→c (fun t m=>match t with
   | true=>b (fun f m=>match f with
    | .next=>W m
    | .cont=>W m
    | .brk=>Q .next m
    | .ret r=>Q (.ret r) m) m
   | false=>Q .next m) m):∀(k:Nat) (m:MS),I k m→bS c b Q k m
 | 0,m,h=>(hno m h).elim
 | k+1,m,h=>by
  rw [fK]
  exact hturn k m (fun m=>bS c b Q k m) h fun m' h'=>gQ I hno hturn k m' h'
noncomputable abbrev Hpp:=List MO
theorem aa {h hp:List MO}{o:MO}(x:h<+:hp):h<+:hp++[o]:=x.trans (List.prefix_append _ _)
theorem ai (h:List MO):h<+:h:=List.prefix_refl _
theorem ag {h hp:List MO}(x:h<+:hp) {i:Nat}{o:MO}(e:h[i]?=some o):hp[i]?=some o:=by
 obtain ⟨t,rfl⟩:=x
 rw [List.getElem?_append_left (List.getElem?_eq_some_iff.mp e).1];exact e
theorem aJ {h hp:List MO}(x:h<+:hp) {i:Nat}{o:MO}(e:h.length≤i):h<+:hp.set i o:=by
 obtain ⟨t,rfl⟩:=x
 rw [List.set_append_right _ _ e]
 exact List.prefix_append _ _
theorem ac {α:Type}(h:List α) (o:α):(h++[o])[h.length]?=some o:=by simp
theorem ah {α:Type}{h:List α}{o o':α}{i:Nat}(e:h[i]?=some o):(h++[o'])[i]?=some o:=by
 rw [List.getElem?_append_left (List.getElem?_eq_some_iff.mp e).1];exact e
theorem get_set {α:Type}{h:List α}{o o':α}{i:Nat}(e:h[i]?=some o):(h.set i o')[i]?=some o':=by
 have:=(List.getElem?_eq_some_iff.mp e).1
 simp [this]
theorem jc {m:MS}{o:MO}:(m.push o).heap[m.heap.length]?=some o:=ac _ _
theorem fA {m:MS}{o o':MO}{i:Nat}(e:m.heap[i]?=some o):(m.push o').heap[i]?=some o:=ah e
theorem uh {m:MS}{o o':MO}:((m.push o).push o').heap[m.heap.length]?=some o:=ah (ac _ _)
theorem ka {k:Int}{hp:List MO}(h1:-16777216≤k) (h2:k≤16777216):d9 .range1 [.int k] hp=some ((List.range k.toNat).map (fun (i:Nat)=>.int i),none):=by
 show (match decide (-16777216≤k∧k≤16777216) with
  | true=>some ((List.range k.toNat).map (fun (i:Nat)=>MV.int i),none)
  | false=>none)=_
 rw [decide_eq_true ⟨h1,h2⟩]
theorem aH {r:Nat}{xs:List MV}{hp:List MO}(e:hp[r]?=some (.list xs)):d9 .val [.ref r] hp=some (xs,some (r,xs)):=by
 show (match hp[r]? with
  | some (.list xs)=>some (xs,some (r,xs))
  | _=>none)=_
 rw [e]
theorem jG {r:Nat}{xs:List MV}{hp:List MO}(e:hp[r]?=some (.list xs)):d9 .enum [.ref r] hp=some (xs.zipIdx.map (fun p=>.tup [.int p.2,p.1]),some (r,xs)):=by
 show (match hp[r]? with
  | some (.list xs)=>some (xs.zipIdx.map (fun p:MV × Nat=>MV.tup [.int p.2,p.1]),some (r,xs))
  | _=>none)=_
 rw [e]
theorem mc {k i:Nat}{x:MV}(e:((List.range k).map (fun (i:Nat)=>MV.int i))[i]?=some x):i<k∧x=.int i:=by
 simp only [List.getElem?_map,Option.map_eq_some_iff] at e
 obtain ⟨j,h1,h2⟩:=e
 obtain ⟨h3,h4⟩:=List.getElem?_eq_some_iff.mp h1
 simp at h3 h4;subst h4
 exact ⟨h3,h2.symm⟩
theorem nv (k:Nat):((List.range k).map (fun (i:Nat)=>MV.int i)).length=k:=by simp
theorem oo {xs:List MV}{i:Nat}{x:MV}(e:(xs.zipIdx.map (fun p=>MV.tup [.int p.2,p.1]))[i]?=some x):∃y,xs[i]?=some y∧x=.tup [.int i,y]:=by
 simp only [List.getElem?_map,Option.map_eq_some_iff] at e
 obtain ⟨⟨y,j⟩,hj,rfl⟩:=e
 rw [List.getElem?_zipIdx] at hj
 simp only [Option.map_eq_some_iff,Nat.zero_add] at hj
 obtain ⟨y',hy,hj⟩:=hj
 cases hj
 exact ⟨y,hy,rfl⟩
theorem pO (xs:List MV):(xs.zipIdx.map (fun p=>MV.tup [.int p.2,p.1])).length=xs.length:=by simp
theorem bc {hp:List MO}{r:Nat}{xs:List MV}(e:hp[r]?=some (.list xs)):lst (.ref r) hp=some (r,xs):=by
 show tq r hp[r]?=_;rw [e];rfl
theorem aK {hp:List MO}{r:Nat}{xs:List MV}(e:hp[r]?=some (.list xs)):kP .append (.ref r) hp=true:=by
 show (tq r hp[r]?).isSome=true;rw [e];rfl
noncomputable def b2n:Bool→Nat
 | true=>1
 | false=>0
noncomputable def sel {α:Type}(d:Bool) (a b:α):α:=match d with
 | true=>b
 | false=>a
theorem jd {α:Type}{a b:α}{d:Bool}:fc (b2i d) [a,b].length=some (b2n d):=by cases d<;>rfl
theorem kC {α:Type}{a b:α}{d:Bool}:[a,b][b2n d]?=some (sel d a b):=by cases d<;>rfl
inductive kb {α:Type}(P:Nat→α→Prop):Nat→List α→Prop
 | nil {n}:kb P n []
 | cons {n a l}:P n a→kb P (n+1) l→kb P n (a::l)
theorem kb.get {α:Type}{P:Nat→α→Prop}{n:Nat}{l:List α}(h:kb P n l) (j:Nat) (hj:j<l.length):∃t,l[j]?=some t∧P (j+n) t:=by
 induction h generalizing j with
 | nil=>exact absurd hj (Nat.not_lt_zero _)
 | @cons n a l h _ ih=>
  cases j with
  | zero=>exact ⟨a,rfl,by rw [Nat.zero_add];exact h⟩
  | succ j=>
   obtain ⟨t,h1,h2⟩:=ih j (Nat.lt_of_succ_lt_succ hj)
   exact ⟨t,h1,by rw [Nat.succ_add];exact h2⟩
noncomputable def okS (s:List Nat):Prop:=∀c∈s,c<55296
theorem okS.d {s:List Nat}(h:okS s):D.ok (.str s)=true:=List.all_eq_true.mpr fun c hc=>decide_eq_true (h c hc)
theorem md:∀{ss:List (List Nat)},(∀s∈ss,okS s)→D.oks (ss.map .str)=true
 | [],_=>rfl
 | s::ss,h=>by
  show (D.ok (.str s)&&D.oks (ss.map .str))=true
  rw [(h s (List.mem_cons_self ..)).d,md fun t ht=>h t (List.mem_cons_of_mem _ ht)];rfl
theorem mf {hp:List MO}:∀(ss:List (List Nat)),Rds hp (ss.map .str) (ss.map .str)
 | []=>.nil
 | s::ss=>.cons (.str s) (mf ss)
theorem pP {K:KT}{n i:Nat}{Q:PQ}{X:XM}{m:MS}{v:MV}(hv:m.get i=some v) (h:Q v m):wpE K n (.var i) Q X m:=by
 show (match m.get i with | some v=>Q v m | none=>False)
 rw [hv];exact h
theorem cK {hp:List MO}{x:List Nat}{ss:List (List Nat)}{Q:Bool→Prop}(hx:okS x) (hs:∀s∈ss,okS s) (h:Q (ss.contains x)):InP hp (.str x) (ss.map .str) Q:=by
 refine .mk (.str x) (ss.map .str) (.str x) (mf ss) (Nat.zero_le _) hx.d (md hs) ?_
 have e:(ss.map D.str).any (fun e=>e.deq (.str x))=ss.contains x:=by
  clear h hs
  induction ss with
  | nil=>rfl
  | cons s ss ih=>
   show ((s==x)||(ss.map D.str).any (fun e=>e.deq (.str x)))=(x==s||ss.contains x)
   rw [ih,BEq.comm]
 rw [e];exact h
theorem aU {k:Int}{n:Nat}(h0:0≤k) (h1:k<n):fc k n=some k.toNat:=by
 unfold fc
 rw [decide_eq_true h0,decide_eq_true h1]
theorem ci {α:Type}{xs:List α}{i:Nat}(h:i<xs.length):xs[i]?=some xs[i]:=List.getElem?_eq_getElem h
theorem je {k:Int}{n:Nat}(h:0≤k):tj k n=min k.toNat n:=by
 unfold tj;rw [decide_eq_true h]
theorem cA {α:Type}{xs:List α}{k:Int}(h:0≤k):aL xs none (some k)=xs.take k.toNat:=by
 unfold aL
 simp only [je h,List.drop_zero]
 rw [←List.take_eq_take_min]
theorem bH {α:Type}{xs:List α}{k:Int}(h:0≤k):aL xs (some k) none=xs.drop k.toNat:=by
 unfold aL
 simp only [je h,List.take_length]
 rcases Nat.le_total k.toNat xs.length with q | q
 ·rw [Nat.min_eq_left q]
 ·rw [Nat.min_eq_right q,List.drop_length,List.drop_eq_nil_of_le q]
theorem aZ {n:Nat}(h:n≤1000000):n≤line:=by unfold line;exact Nat.le_trans h (nb rfl)
theorem oq:∀(l t:List (List Nat)),l.Nodup→(∀x∈l,x∈t)→l.length≤t.length
 | [],_,_,_=>Nat.zero_le _
 | a::l,t,hn,hs=>by
  rw [List.nodup_cons] at hn
  have ha:a∈t:=hs a (List.mem_cons_self ..)
  have:=oq l (t.erase a) hn.2 fun x hx=>by
   have hne:x≠a:=fun q=>hn.1 (q▸hx)
   exact (List.mem_erase_of_ne hne).mpr (hs x (List.mem_cons_of_mem _ hx))
  rw [List.length_erase_of_mem ha] at this
  have:=List.length_pos_of_mem ha
  simp only [List.length_cons];lia
end Internal
end
section
namespace Internal
variable {K:KT}(hK:aF PP K)
noncomputable def mix (x:Int):Int:=(x * 48271+7919) % 2147483647
theorem z0 (x:Int):0≤mix x∧mix x<2147483647:=by unfold mix;exact em rfl
noncomputable def cell (is:List Int) (k:Int):Int:=match is[k.toNat]? with
 | some v=>v
 | none=>0
noncomputable abbrev abc:List Nat:=[97,98,99,100,101,102,103,104,105,106,107,108,109,110,111,112,113,114,115,116,117,118,119,120,121,122]
noncomputable abbrev kc:List Nat:=[97,98,99,100,101,102,103,104,105,106,107,108,109,110,111,112,113,114,115,116,117,118,119,120,121,122,48,49,50,51,52,53,54,55,56,57]
theorem ot:∀c∈abc,c∈kc:=by decide
theorem pQ:∀c∈kc,c<128:=by decide
noncomputable def Nm (s:List Nat):Prop:=s≠[]∧s.length≤8∧(∀c∈s,c∈kc)∧s.headD 0∈abc
theorem Nm.ok {s:List Nat}(h:Nm s):okS s:=fun c hc=>Nat.lt_trans (pQ c (h.2.2.1 c hc)) (by decide)
theorem gR {s t:List Nat}(h:s≠[]):(s++t).headD 0=s.headD 0:=by
 cases s with
 | nil=>exact absurd rfl h
 | cons=>rfl
theorem mh {s:List Nat}{k:Nat}(h:0<k):(s.take k).headD 0=s.headD 0:=by
 cases s with
 | nil=>rw [List.take_nil]
 | cons=>cases k with
  | zero=>cases h
  | succ=>rfl
noncomputable def kws:List (List Nat):=[[115,101,116],[116,101,108,108],[115,107,105,112],[105,102],[101,108,115,101],[119,104,105,108,101],[101,110,100]]
theorem rj:∀s∈kws,okS s:=by unfold okS kws;decide
theorem sC:∀s∈kws,s.length≤5:=by unfold kws;decide
include hK
theorem b8 {n:Nat}{x:Int}{Q:MV→List MO→Prop}{X:XT}{h:List MO}(hq:Q (.int (mix x)) h):K (n+1) 6 [.int x] Q X h:=by
 refine hK _ _ _ _ _ _ ja rfl rfl ?_
 refine ⟨.inr (by unfold dT;decide),?_⟩
 exact hq
theorem eu {n:Nat}{is:List Int}{k:Int}(hk:0≤k) {Q:MV→List MO→Prop}{X:XT}{h:List MO}(hq:Q (.int (cell is k)) h):K (n+1) 5 [.scr is,.int k] Q X h:=by
 refine hK _ _ _ _ _ _ fU rfl rfl ?_
 conv=>whnf
 unfold cell at hq
 by_cases hlt:k<is.length
 ·rw [decide_eq_true hlt]
  conv=>whnf
  rw [aU hk hlt]
  dsimp only
  rw [ci (tn hk hlt)] at hq ⊢
  exact hq
 ·rw [decide_eq_false hlt]
  rw [List.getElem?_eq_none (by lia)] at hq
  exact hq
theorem xr {n:Nat}{s:List Nat}{Q:MV→List MO→Prop}{X:XM}{m:MS}(v:Nat) (hv:m.get v=some (.str s)) (hs:Nm s) (hq:∀s' h',Nm s'→m.heap<+:h'→Q (.str s') h') :
  aD K n [.ite (.cmp .inn (.var v) (.list [.cst (.str [115,101,116]),.cst (.str [116,101,108,108]),.cst (.str [115,107,105,112]),.cst (.str [105,102]),.cst (.str [101,108,115,101]),.cst (.str [119,104,105,108,101]),.cst (.str [101,110,100])])) [.ret (.bin .add (.var v) (.cst (.str [48])))] [],.ret (.var v)] (fin Q) X m:=by
 have e:∀{Q:PQ} {X:XM} {m':MS},m'.vars=m.vars→Q (.str s) m'→wpE K n (.var v) Q X m':=fun {Q X m'} e h=>by
  exact pP (by rw [←hv];unfold MS.get;rw [e]) h
 show wpE K n (.var v) _ X _
 refine e (X:=X) rfl ?_
 refine az jc ?_
 show InP _ _ (kws.map .str) _
 refine cK hs.ok rj ?_
 cases hc:kws.contains s with
 | true=>
  show wpE K n (.var v) _ X _
  refine e (X:=X) rfl ?_
  have hl:=sC s (by simpa using hc)
  refine ⟨by show s.length+1≤2 ^ 24;lia,hq _ _ ⟨by simp,by simp;exact Nat.le_trans hl (nb rfl),?_,by rw [gR hs.1];exact hs.2.2.2⟩ (aa (ai _))⟩
  intro c hc
  rcases List.mem_append.mp hc with h | h
  ·exact hs.2.2.1 c h
  ·rw [List.mem_singleton.mp h];decide
 | false=>
  show wpE K n (.var v) _ X _
  refine e (X:=X) rfl ?_
  exact hq s _ hs (aa (ai _))
theorem ui {n:Nat}{x:Int}{Q:MV→List MO→Prop}{X:XT}{h:List MO}(hq:∀s h',Nm s→h<+:h'→Q (.str s) h'):K (n+2) 7 [.int x] Q X h:=by
 refine hK _ _ _ _ _ _ fV rfl rfl ?_
 conv=>whnf
 rw [aU (em0 rfl) (by show (_:Int)<26;exact em2 rfl)]
 refine bN (ci (by show _<26;exact emN rfl)) ?_
 refine aM (ka (by lia) (by lia)) ?_
 refine fz (fun i s (z:Int) w=>⟨[some (.int x),some (.str s),some (.int z),w],h⟩) (fun i s (z:Int) w=>A3 (s.length=i+1) (∀c∈s,c∈kc) (s.headD 0∈abc)) _ _ _ rfl ⟨rfl,?_,List.getElem_mem _⟩ (fun _ _ _ _ _=>trivial) (fun i y s z w P hy hI hn _=>?_) (fun s z w hI=>?_)
 ·intro c hc
  simp only [List.mem_singleton] at hc;subst hc;exact ot _ (List.getElem_mem _)
 ·obtain ⟨hi,rfl⟩:=mc hy
  obtain ⟨hl,hc,hh⟩:=hI
  refine b8 hK ?_
  conv=>whnf
  rw [aU (em0 rfl) (by show (_:Int)<36;exact em2 rfl)]
  refine bN (ci (by show _<36;exact emN rfl)) ?_
  refine ⟨by show s.length+1≤2 ^ 24;lia,?_⟩
  refine hn _ _ _ ⟨by simp;exact hl,?_,by rw [gR (fun q=>by rw [q] at hl;simp at hl)];exact hh⟩
  intro c h
  rcases List.mem_append.mp h with h | h
  ·exact hc c h
  ·simp only [List.mem_singleton] at h;subst h;exact List.getElem_mem _
 ·obtain ⟨hl,hc,hh⟩:=hI
  rw [nv] at hl
  exact xr hK 1 rfl ⟨fun q=>by rw [q] at hl;simp at hl,by lia,hc,hh⟩ hq
end Internal
end
section
namespace Internal
variable {K:KT}(hK:aF PP K)
include hK
theorem nw {n:Nat}{s so:List Nat}{c a:Int}{Q:MV→List MO→Prop}{X:XM}{h:List MO}(hs:Nm s) (ha:0≤a) (hb:a<s.length) (h1:2≤so.length) (h2:so.length≤36) (h3:∀c∈so,c∈kc) (h4:a=0→∀c∈so,c∈abc) (hq:∀s' h',Nm s'→h<+:h'→Q (.str s') h') :
  aD K n (fW.body.drop 3) (fin Q) X ⟨[some (.str s),some (.int c),some (.str so),some (.int a),none,none],h⟩:=by
 conv=>whnf
 rw [aU ha hb]
 dsimp only
 have hA:=tn ha hb
 refine bN (ci hA) ?_
 intro k hk
 refine aw (decide_eq_true (by lia)) ?_
 refine aw (decide_eq_true (kN (n1 h1 (by simp +arith only)))) ?_
 conv=>whnf
 have hm:∀x:Int,0≤x % so.length∧x % so.length<so.length:=fun x=>have hp:0<so.length:=Nat.le_trans (nb rfl) h1;⟨Int.emod_nonneg _ (cne hp),Int.emod_lt_of_pos _ (kN hp)⟩
 rw [aU (hm _).1 (hm _).2]
 refine bN (ci (tn (hm _).1 (hm _).2)) ?_
 have hlen:=hs.2.1
 have key:min a.toNat s.length+1+(s.length-(a+1).toNat)≤8:=by
  rw [Int.toNat_add ha (by decide),Nat.min_eq_left (Nat.le_of_lt hA)]
  exact Nat.le_trans (Nat.le_of_eq (Nat.add_sub_cancel' hA)) hlen
 rw [cA ha]
 refine ⟨aZ (by rw [List.length_take];exact Nat.le_trans (Nat.le_add_right _ _) (lk key rfl)),?_⟩
 conv=>whnf
 rw [bH (z1 ha (by simp +arith only))]
 refine ⟨aZ (by rw [List.length_append,List.length_take,List.length_drop];exact lk key rfl),?_⟩
 refine xr hK 5 rfl ⟨by simp,?_,?_,?_⟩ hq
 ·rw [List.length_append,List.length_append,List.length_take,List.length_drop];exact key
 ·intro c hc
  rcases List.mem_append.mp hc with h | h
  ·rcases List.mem_append.mp h with h | h
   ·exact hs.2.2.1 c (List.mem_of_mem_take h)
   ·simp only [List.mem_singleton] at h;subst h;exact h3 _ (List.getElem_mem _)
  ·exact hs.2.2.1 c (List.mem_of_mem_drop h)
 ·rw [List.append_assoc]
  by_cases q:a=0
  ·subst q;exact h4 rfl _ (List.getElem_mem _)
  ·rw [gR (fun e=>by have:=congrArg List.length e;rw [List.length_take,List.length_nil] at this;lia),mh (by lia)]
   exact hs.2.2.2
theorem Dw {n:Nat}{s:List Nat}{c:Int}{Q:MV→List MO→Prop}{X:XT}{h:List MO}(hs:Nm s) (hq:∀s' h',Nm s'→h<+:h'→Q (.str s') h'):K (n+1) 8 [.str s,.int c] Q X h:=by
 refine hK _ _ _ _ _ _ fW rfl rfl ?_
 have hp:0<s.length:=List.length_pos_iff.mpr hs.1
 refine aw (decide_eq_true (kN hp)) ?_
 conv=>whnf
 have h0:0≤c % (s.length:Int):=Int.emod_nonneg _ (cne hp)
 have h1:c % (s.length:Int)<s.length:=Int.emod_lt_of_pos _ (kN hp)
 by_cases q:0<c % (s.length:Int)
 ·rw [decide_eq_true q]
  refine ⟨aZ (by decide),?_⟩
  exact nw hK (so:=kc) hs h0 h1 (by decide) (by decide) (fun _ h=>h) (fun e=>by lia) hq
 ·rw [decide_eq_false q]
  exact nw hK (so:=abc) hs h0 h1 (by decide) (by decide) ot (fun _ _ h=>h) hq
end Internal
end
section
namespace Internal
noncomputable def xt (x:Int):Nat:=97+(x % 26).toNat
theorem xu (x:Int):abc[(x % 26).toNat]?=some (xt x):=by
 have h:∀i,i<26→abc[i]?=some (97+i):=by decide
 exact h _ (emN rfl)
theorem z3 (x:Int):xt x∈kc:=ot _ (List.mem_of_getElem? (xu x))
noncomputable def mi (p:List Nat) (o:Int) (j:Nat):List Nat:=p++[xt (o+5 * j)]
theorem z4 {p:List Nat}{o:Int}{i j:Nat}(h:i<j) (hj:j≤9):mi p o i≠mi p o j:=fun e=>by
 unfold mi at e
 have:=List.append_cancel_left e
 simp only [List.cons.injEq,and_true] at this
 have h1:(o+5 * (i:Int)) % 26=(o+5 * (j:Int)) % 26:=by rw [←Int.toNat_of_nonneg (em0 rfl:0≤(o+5 * (i:Int)) % 26),Nat.add_left_cancel this,Int.toNat_of_nonneg (em0 rfl)]
 have h2:=Int.emod_eq_emod_iff_emod_sub_eq_zero.mp h1.symm
 rw [show o+5 * (j:Int)-(o+5 * (i:Int))=((5 * (j-i):Nat):Int) by first | lia | omega] at h2
 exact (by decide:∀d:Fin 10,0<d.1→((5 * d.1:Nat):Int) % 26≠0) ⟨j-i,Nat.lt_succ_of_le (Nat.le_trans (Nat.sub_le _ _) hj)⟩ (Nat.sub_pos_of_lt h) h2
theorem z5 {p:List Nat}{o:Int}{ss:List (List Nat)}(hl:ss.length≤9) (h:∀i,i≤9→mi p o i∈ss):False:=by
 have hn:((List.range 10).map (mi p o)).Nodup:=by
  refine List.pairwise_map.mpr ((List.pairwise_lt_range (n:=10)).imp_of_mem fun {a b} ha hb hlt=>z4 hlt ?_)
  simp at hb;exact n1 hb (by simp +arith only)
 have:=oq _ ss hn fun x hx=>by
  obtain ⟨i,hi,rfl⟩:=List.mem_map.mp hx
  simp at hi
  exact h i (n1 hi (by simp +arith only))
 simp at this;exact nf (n2 this hl (by simp +arith only))
noncomputable def Ph (ss:List (List Nat)) (i:Int) (k:Nat) (s:List Nat) (u:Int):Prop:=
 21-s.length≤k∨∃p o j,p.length=7∧j≤9∧s=mi p o j∧(∀i',i'<j→mi p o i'∈ss)∧u+8+i=o+5 * ((j:Int)+1)∧11-j≤k
theorem z6 {ss:List (List Nat)}{i:Int}{k:Nat}{s:List Nat}{u:Int}(hs:Nm s) (hl:ss.length≤9) (hin:s∈ss∨s∈kws) (h:Ph ss i (k+1) s u) :
  Nm (s.take 7++[xt (u+s.length+i)])∧Ph ss i k (s.take 7++[xt (u+s.length+i)]) (u+5):=by
 have hlen:=hs.2.1
 have hne:0<s.length:=List.length_pos_iff.mpr hs.1
 refine ⟨⟨by simp,by simp;lia,fun c hc=>?_,by rw [gR (fun e=>by have:=congrArg List.length e;rw [List.length_take,List.length_nil] at this;lia),mh (by decide)];exact hs.2.2.2⟩,?_⟩
 ·rcases List.mem_append.mp hc with h | h
  ·exact hs.2.2.1 c (List.mem_of_mem_take h)
  ·simp only [List.mem_singleton] at h;subst h;exact z3 _
 ·rcases h with h | ⟨p,o,j,hp,hj,hc,hv,hu,hk⟩
  ·by_cases q:s.length=8
   ·refine .inr ⟨s.take 7,u+s.length+i,0,by rw [List.length_take,q];rfl,nb rfl,?_,fun i' hi=>absurd hi (Nat.not_lt_zero _),by lia,by rw [q] at h;exact Nat.le_trans (nb rfl:11≤12) (Nat.le_of_succ_le_succ h)⟩
    unfold mi;simp
   ·refine .inl ?_
    rw [List.length_append,List.length_take]
    rw [Nat.min_eq_right (Nat.le_of_lt_succ (Nat.lt_of_le_of_ne hlen q))]
    exact Nat.sub_le_iff_le_add.mpr (Nat.le_trans (Nat.sub_le_iff_le_add.mp h) (show k+1+s.length≤k+(s.length+1) by simp +arith only))
  ·have h8:s.length=8:=by rw [hc];unfold mi;rw [List.length_append,hp];rfl
   have hss:s∈ss:=hin.elim id fun q=>by have:=sC s q;lia
   by_cases q:j=9
   ·subst q
    exact (z5 (p:=p) (o:=o) hl fun i' hi=>by
     by_cases q:i'=9
     ·subst q;rw [←hc];exact hss
     ·exact hv i' (Nat.lt_of_le_of_ne hi q)).elim
   ·refine .inr ⟨p,o,j+1,hp,Nat.lt_of_le_of_ne hj q,?_,fun i' hi=>?_,by lia,Nat.pred_le_pred hk⟩
    ·have:s.take 7=p:=by rw [hc];unfold mi;rw [←hp];simp
     rw [this,h8]
     unfold mi
     congr 3
    ·by_cases q:i'=j
     ·subst q;rw [←hc];exact hss
     ·exact hv i' (Nat.lt_of_le_of_ne (Nat.le_of_lt_succ hi) q)
variable {K:KT}(hK:aF PP K)
include hK
theorem pR {n:Nat}{s:List Nat}{o u i:Int}{r:Nat}{ss:List (List Nat)}{hp:List MO}{Q:Fl→MS→Prop}{X:XM}(hr:hp[r]?=some (.list (ss.map .str))) (hss:∀s∈ss,Nm s) (hl:ss.length≤9) (hs:Nm s)
  (hq:∀s' u' hp',Nm s'→s'∉ss→s'∉kws→hp<+:hp'→Q .next ⟨[some (.int o),some (.int u'),some (.ref r),some (.int i),some (.str s')],hp'⟩) :
  wpS K n (.while_ (.or [.cmp .inn (.var 4) (.var 2),.cmp .inn (.var 4) (.list [.cst (.str [115,101,116]),.cst (.str [116,101,108,108]),.cst (.str [115,107,105,112]),.cst (.str [105,102]),.cst (.str [101,108,115,101]),.cst (.str [119,104,105,108,101]),.cst (.str [101,110,100])])])
   [.asg [4] false (.bin .add (.sl (.var 4) none (some (.cst (.int 7)))) (.idx (.cst (.str [97,98,99,100,101,102,103,104,105,106,107,108,109,110,111,112,113,114,115,116,117,118,119,120,121,122])) (.bin .mod (.bin .add (.bin .add (.var 1) (.blt .len [.var 4])) (.var 3)) (.cst (.int 26))))),.asg [1] false (.bin .add (.var 1) (.cst (.int 5)))])
   Q X ⟨[some (.int o),some (.int u),some (.ref r),some (.int i),some (.str s)],hp⟩:=by
 refine ⟨30,gQ (fun k m=>∃s u hp',m=⟨[some (.int o),some (.int u),some (.ref r),some (.int i),some (.str s)],hp'⟩∧hp<+:hp'∧Nm s∧Ph ss i k s u) (fun m ⟨s,u,hp',_,_,hs,h⟩=>?_) (fun k m W hI hW=>?_) 30 _ ⟨s,u,hp,rfl,ai _,hs,.inl (by lia)⟩⟩
 ·have:=hs.2.1
  rcases h with h | ⟨_,_,j,_,hj,_,_,_,h⟩<;>lia
 ·obtain ⟨s,u,hp',rfl,hpre,hs,hph⟩:=hI
  have body:∀hp'',hp<+:hp''→(s∈ss∨s∈kws)→aD K n [.asg [4] false (.bin .add (.sl (.var 4) none (some (.cst (.int 7)))) (.idx (.cst (.str [97,98,99,100,101,102,103,104,105,106,107,108,109,110,111,112,113,114,115,116,117,118,119,120,121,122])) (.bin .mod (.bin .add (.bin .add (.var 1) (.blt .len [.var 4])) (.var 3)) (.cst (.int 26))))),.asg [1] false (.bin .add (.var 1) (.cst (.int 5)))]
    (fun f m=>match f with
    | .next=>W m
    | .cont=>W m
    | .brk=>Q .next m
    | .ret r=>Q (.ret r) m) X ⟨[some (.int o),some (.int u),some (.ref r),some (.int i),some (.str s)],hp''⟩:=fun hp'' hpre hin=>by
   obtain ⟨g1,g2⟩:=z6 hs hl hin hph
   conv=>whnf
   rw [aU (em0 rfl) (by show (_:Int)<26;exact em2 rfl)]
   dsimp only
   rw [xu]
   rw [cA (by decide)]
   refine ⟨aZ (by have:=hs.2.1;rw [List.length_take];show _+1≤_;lia),?_⟩
   exact hW _ ⟨_,_,hp'',rfl,hpre,g1,g2⟩
  refine az (ag hpre hr) ?_
  refine cK hs.ok (fun t ht=>(hss t ht).ok) ?_
  cases hc:ss.contains s with
  | true=>exact body hp' hpre (.inl (by simpa using hc))
  | false=>
   refine az jc ?_
   show InP _ _ (kws.map .str) _
   refine cK hs.ok rj ?_
   cases hc':kws.contains s with
   | true=>exact body _ (aa hpre) (.inr (by simpa using hc'))
   | false=>exact hq s u _ hs (by simpa using hc) (by simpa using hc') (aa hpre)
noncomputable def Fb:List MSt→List MSt
 | .for_ _ _ _ _ b::_=>b
 | _=>[]
theorem z7 {n:Nat}{a b:Int}{Q:MV→List MO→Prop}{X:XT}{h:List MO}(hq:∀(h':List MO) (r:Nat) (ss:List (List Nat)),h<+:h'→h.length≤r→h'[r]?=some (.list (ss.map .str))→ss.length=10→(∀s∈ss,Nm s)→ss.Nodup→(∀s∈ss,s∉kws)→Q (.ref r) h') :
  K (n+3) 9 [.int a,.int b] Q X h:=by
 refine hK _ _ _ _ _ _ fw rfl rfl ?_
 refine kB (fun i (o:Int) (u:Int) (ss:List (List Nat)) (w3:Option MV) (w4:Option MV) (hp:List MO)=>⟨[some (.int o),some (.int u),some (.ref h.length),w3,w4],hp⟩) (fun i (o:Int) (u:Int) (ss:List (List Nat)) (w3:Option MV) (w4:Option MV) (hp:List MO)=>A6 (h<+:hp) (hp[h.length]?=some (.list (ss.map .str))) (ss.length=i) (∀s∈ss,Nm s) ss.Nodup (∀s∈ss,s∉kws))
  a b [] none none _ rfl ⟨aa (ai _),ac _ _,rfl,by simp,List.nodup_nil,by simp⟩ (fun _ _ _ _ _ _ _ _=>trivial) (fun i y o u ss w3 w4 hp P hy hI hn _=>?_) (fun o u ss w3 w4 hp hI=>?_)
 ·obtain ⟨hi,rfl⟩:=mc hy
  obtain ⟨hpre,hr,hl,hss,hnd,hkw⟩:=hI
  have hi:i<10:=hi
  have rest:∀s hp',Nm s→hp<+:hp'→aD K (n+2) ((Fb (fw.body.drop 1)).drop 3) P (fun c m=>X c m.heap) ⟨[some (.int (mix o)),some (.int u),some (.ref h.length),some (.int i),some (.str s)],hp'⟩:=fun s hp' hs hpre'=>by
   show wpS K (n+2) _ _ _ _
   refine pR hK (ag hpre' hr) hss (n2 hi (Nat.le_of_eq hl) (by simp +arith only)) hs fun s' u' hp'' hs' h1 h2 hpre''=>?_
   have hr':=ag (hpre'.trans hpre'') hr
   refine aw (aK hr') ?_
   refine bf (bc hr') ?_
   refine ⟨by simp only [List.length_map];unfold line;lia,?_⟩
   refine hn _ _ (ss++[s']) _ _ _ ⟨aJ ((hpre.trans hpre').trans hpre'') (Nat.le_refl _),?_,by simp [hl],?_,?_,?_⟩
   ·rw [get_set hr'];simp
   ·intro t ht
    rcases List.mem_append.mp ht with ht | ht
    ·exact hss t ht
    ·simp at ht;subst ht;exact hs'
   ·rw [List.nodup_append]
    exact ⟨hnd,by simp,fun t ht t' ht'=>by simp at ht';subst ht';exact fun q=>h1 (q▸ht)⟩
   ·intro t ht
    rcases List.mem_append.mp ht with ht | ht
    ·exact hkw t ht
    ·simp at ht;subst ht;exact h2
  refine b8 hK ?_
  refine ui hK fun s h' hs hpre'=>?_
  conv=>whnf
  have hpre':hp<+:h':=hpre'
  cases hodd:((i:Int) % 2==1) with
  | false=>exact rest s h' hs hpre'
  | true=>
   have hodd:(i:Int) % 2=1:=by simpa using hodd
   conv=>whnf
   cases hu:(u / 4 % 2==1) with
   | false=>exact rest s h' hs hpre'
   | true=>
    conv=>whnf
    dsimp only [MS.set,List.set]
    refine af (ag hpre' hr) ?_
    have hi:0<i:=Nat.pos_of_ne_zero fun q=>by subst q;exact absurd hodd (by decide)
    have hlt:i-1<ss.length:=Nat.lt_of_lt_of_eq (Nat.sub_lt hi Nat.one_pos) hl.symm
    rw [show (i:Int)-1=((i-1:Nat):Int) from (Int.natCast_sub hi).symm]
    refine aS (j:=i-1) (v:=.str ss[i-1]) (aU (Int.natCast_nonneg _) (by rw [List.length_map];exact Int.ofNat_lt.mpr hlt)) (by rw [List.getElem?_map,ci hlt];rfl) ?_
    refine b8 hK ?_
    refine Dw hK (hss _ (List.getElem_mem _)) fun s' h'' hs' hpre''=>?_
    exact rest s' h'' hs' (hpre'.trans hpre'')
 ·obtain ⟨hpre,hr,hl,hss,hnd,hkw⟩:=hI
  exact hq hp h.length ss hpre (Nat.le_refl _) hr hl hss hnd hkw
end Internal
end
section
namespace Internal
set_option genCtorIdx false in
inductive Tm where
 | num (k:Int) | nm (s:List Nat) | op (c:Nat) (a b:Tm)
gen_injective_theorems% Tm
noncomputable abbrev xw:List Nat:=[110,117,109,98,101,114]
noncomputable abbrev pS:List Nat:=[110,97,109,101]
noncomputable def Tm.mv:Tm→MV
 | .num k=>.tup [.str xw,.int k]
 | .nm s=>.tup [.str pS,.str s]
 | .op c a b=>.tup [.str [c],a.mv,b.mv]
noncomputable def Tm.deep:Tm→Nat
 | .op _ a b=>max a.deep b.deep+1
 | _=>0
noncomputable def Tm.lv:Tm→Nat
 | .num _ | .nm _=>1
 | .op _ a b=>a.lv+b.lv
theorem Tm.lv_le:∀t:Tm,t.lv≤2 ^ t.deep
 | .num _=>Nat.le_refl _
 | .nm _=>Nat.le_refl _
 | .op _ a b=>by
  have ha:=Tm.lv_le a
  have hb:=Tm.lv_le b
  have h1:2 ^ a.deep≤2 ^ max a.deep b.deep:=Nat.pow_le_pow_right (by decide) (Nat.le_max_left ..)
  have h2:2 ^ b.deep≤2 ^ max a.deep b.deep:=Nat.pow_le_pow_right (by decide) (Nat.le_max_right ..)
  show a.lv+b.lv≤2 ^ (max a.deep b.deep+1)
  rw [Nat.pow_succ];lia
noncomputable def cf (c:Nat):Prop:=c=43∨c=45∨c=42∨c=60∨c=61∨c=47
noncomputable def Tm.ok (p:List Nat→Prop):Tm→Prop
 | .num k=>0≤k∧k<1000000
 | .nm s=>p s
 | .op c a b=>cf c∧a.ok p∧b.ok p
theorem Tm.ok.mono {p q:List Nat→Prop}(h:∀s,p s→q s):∀{t:Tm},t.ok p→t.ok q
 | .num _,x=>x
 | .nm s,x=>h s x
 | .op _ _ _,⟨x,y,z⟩=>⟨x,y.mono h,z.mono h⟩
theorem mj:∀(ss:List (List Nat)),D.deeps (ss.map .str)=0
 | []=>rfl
 | s::ss=>by show max 0 (D.deeps (ss.map .str))=0;rw [mj ss];rfl
theorem Dx {hp:List MO}{r r':Nat}{ss:List (List Nat)}{Q:Bool→Prop}(h1:hp[r]?=some (.list (ss.map .str))) (h2:hp[r']?=some (.list [])) (hs:∀s∈ss,okS s) (hq:Q (decide (ss=[]))):EqP hp (.ref r) (.ref r') Q:=by
 refine .mk (.list (ss.map .str)) (.list []) (.list h1 (mf ss)) (.list h2 .nil) ?_ (md hs) rfl ?_
 ·show D.deeps _+1≤1000
  rw [mj];decide
 ·cases ss<;>exact hq
end Internal
end
section
namespace Internal
variable {K:KT}(hK:aF PP K)
include hK
theorem pT {n:Nat}{x:Int}{r:Nat}{ss:List (List Nat)}{Q:MV→List MO→Prop}{X:XT}{h:List MO}(hr:h[r]?=some (.list (ss.map .str))) (hs:∀s∈ss,okS s) (hq:∀t h',Tm.ok (·∈ss) t→t.deep=0→h<+:h'→Q t.mv h') :
  K (n+1) 10 [.int x,.ref r] Q X h:=by
 refine hK _ _ _ _ _ _ eh rfl rfl ?_
 have rest:∀h',h<+:h'→aD K n (eh.body.drop 1) (fin Q) (fun c m=>X c m.heap) ⟨[some (.int x),some (.ref r)],h'⟩:=fun h' hpre=>by
  conv=>whnf
  cases hc:(x / 3 % 4==0) with
  | true=>
   exact hq (.num (x / 12 % 10 ^ (6:Int).toNat)) h' (by show _∧_;rw [show (10:Int) ^ (6:Int).toNat=1000000 by decide];exact em rfl) rfl hpre
  | false=>
   exact hq (.num (x / 12 % 5)) h' (by show _∧_;exact em rfl) rfl hpre
 refine Dx (ss:=ss) (fA hr) jc hs ?_
 by_cases hn:ss=[]
 ·rw [decide_eq_true hn]
  exact rest _ (aa (ai _))
 ·rw [decide_eq_false hn]
  conv=>whnf
  have hpos:0<ss.length:=List.length_pos_iff.mpr hn
  by_cases hc:0<x % 3
  ·rw [decide_eq_true hc]
   refine az (fA hr) ?_
   rw [List.length_map]
   refine aw (decide_eq_true (kN hpos)) ?_
   refine af (fA hr) ?_
   have h1:0≤x / 3 % (ss.length:Int):=Int.emod_nonneg _ (cne hpos)
   have h2:x / 3 % (ss.length:Int)<ss.length:=Int.emod_lt_of_pos _ (kN hpos)
   have h3:(x / 3 % (ss.length:Int)).toNat<ss.length:=tn h1 h2
   exact aS (aU h1 (by rw [List.length_map];exact h2)) (by rw [List.getElem?_map,ci h3];rfl) (hq (.nm _) _ (List.getElem_mem h3) rfl (aa (ai _)))
  ·rw [decide_eq_false hc]
   exact rest _ (aa (ai _))
end Internal
end
section
namespace Internal
theorem rm:∀j,j<10→∃c,cf c∧[MV.str [43],MV.str [45],MV.str [42],MV.str [60],MV.str [61],MV.str [43],MV.str [45],MV.str [60],MV.str [47],MV.str [47]][j]?=some (.str [c])
 | 0,_=>⟨43,by unfold cf;exact by decide,rfl⟩
 | 1,_=>⟨45,by unfold cf;exact by decide,rfl⟩
 | 2,_=>⟨42,by unfold cf;exact by decide,rfl⟩
 | 3,_=>⟨60,by unfold cf;exact by decide,rfl⟩
 | 4,_=>⟨61,by unfold cf;exact by decide,rfl⟩
 | 5,_=>⟨43,by unfold cf;exact by decide,rfl⟩
 | 6,_=>⟨45,by unfold cf;exact by decide,rfl⟩
 | 7,_=>⟨60,by unfold cf;exact by decide,rfl⟩
 | 8,_=>⟨47,by unfold cf;exact by decide,rfl⟩
 | 9,_=>⟨47,by unfold cf;exact by decide,rfl⟩
 | _+10,h=>by lia
variable {K:KT}(hK:aF PP K)
include hK
theorem uj:∀(L:Nat) {n:Nat}{x l:Int}{r rl:Nat}{d:Bool}{ss sl:List (List Nat)}{Q:MV→List MO→Prop}{X:XT}{h:List MO},l=(L:Int)+1→h[r]?=some (.list (ss.map .str))→h[rl]?=some (.list (sl.map .str))→(∀s∈ss,okS s)→(∀s∈sl,okS s)→
  (∀t h',Tm.ok (fun s=>s∈ss∨s∈sl) t→t.deep≤L→h<+:h'→Q t.mv h')→K (n+L+2) 11 [.int x,.ref r,.ref rl,.bool d,.int l] Q X h:=by
 intro L
 induction L with
 | zero=>
  intro n x l r rl d ss sl Q X h hl hr hrl hs hsl hq
  refine hK _ _ _ _ _ _ cJ rfl rfl ?_
  refine b8 hK ?_
  conv=>whnf
  have e:(l==1)=true:=by simp [hl]
  rw [e]
  refine pT hK hr hs fun t h' ht hd hpre=>?_
  exact hq t h' (ht.mono fun s=>.inl) (n1 (Nat.le_of_eq hd) (by simp +arith only)) hpre
 | succ L ih=>
  intro n x l r rl d ss sl Q X h hl hr hrl hs hsl hq
  refine hK _ _ _ _ _ _ cJ rfl rfl ?_
  refine b8 hK ?_
  conv=>whnf
  have e:(l==1)=false:=by simp [hl];lia
  rw [e]
  conv=>whnf
  by_cases hc:mix x % 8<3
  ·rw [decide_eq_true hc]
   refine pT hK hr hs fun t h' ht hd hpre=>?_
   exact hq t h' (ht.mono fun s=>.inl) (n1 (Nat.le_of_eq hd) (by simp +arith only)) hpre
  ·rw [decide_eq_false hc]
   conv=>whnf
   rw [jc]
   dsimp only
   delta cQ onO;try dsimp only
   rw [jd]
   dsimp only
   rw [kC]
   have hj:∃j:Int,(j=8∨j=10)∧sel d (MV.int 8) (.int 10)=.int j:=by
    cases d
    ·exact ⟨8,.inl rfl,rfl⟩
    ·exact ⟨10,.inr rfl,rfl⟩
   obtain ⟨j,hj,e1⟩:=hj
   rw [e1]
   have hj0:0<j:=by rcases hj with rfl | rfl<;>decide
   have hj1:j≤10:=by rcases hj with rfl | rfl<;>decide
   refine aw (decide_eq_true hj0) ?_
   conv=>whnf
   rw [uh]
   dsimp only
   have h1:0≤mix x / 8 % j:=Int.emod_nonneg _ (Int.ne_of_gt hj0)
   have h2:mix x / 8 % j<j:=Int.emod_lt_of_pos _ hj0
   delta cQ onO;try dsimp only
   rw [aU h1 (by show _<(10:Int);exact Int.lt_of_lt_of_le h2 hj1)]
   dsimp only
   obtain ⟨c,hcs,e3⟩:=rm (mix x / 8 % j).toNat (tn h1 (Int.lt_of_lt_of_le h2 hj1))
   rw [e3]
   refine ⟨.inr (by unfold dT;decide),?_⟩
   have er:n+(L+1)+1=n+L+2:=rfl
   rw [er]
   have hp0:∀o o',h<+:(h++[o])++[o']:=fun o o'=>aa (aa (ai _))
   refine ih (by lia) (ag (hp0 _ _) hr) (ag (hp0 _ _) hrl) hs hsl fun t h₁ ht hd hpre0=>?_
   have hpre:h<+:h₁:=(hp0 _ _).trans hpre0
   clear hpre0
   have last:∀{h₂:List MO} {rr:Nat} {sr:List (List Nat)} {V:List MO→List (Option MV)},h₂[rr]?=some (.list (sr.map .str))→h₂[rl]?=some (.list (sl.map .str))→h<+:h₂→(∀s∈sr,okS s)→(∀s,s∈sr∨s∈sl→s∈ss∨s∈sl)→
     K (n+L+2) 11 [.int (mix x * 5+2),.ref rr,.ref rl,.bool d,.int (l-1)] (fun v h'=>Q (.tup [.str [c],t.mv,v]) h') (fun c h'=>X c h') h₂:=fun {h₂ rr sr V} g1 g2 hp2 g3 g4=>by
    refine ih (by lia) g1 g2 g3 hsl fun t' h' ht' hd' hpre'=>?_
    refine hq (.op c t t') h' ⟨hcs,ht,ht'.mono g4⟩ ?_ (hp2.trans hpre')
    exact Nat.succ_le_succ (mx hd hd')
   conv=>whnf
   by_cases h47:c=47
   ·subst h47
    conv=>whnf
    by_cases h3:mix x / 80 % 4<3
    ·rw [decide_eq_true h3]
     refine hq (.op 47 t (.num (1+mix x / 320 % 9))) h₁ ⟨hcs,ht,by show _∧_;lia⟩ ?_ hpre
     exact Nat.succ_le_succ (mx0 hd)
    ·rw [decide_eq_false h3]
     refine ⟨.inr (by unfold dT;decide),?_⟩
     exact last (V:=fun _=>[]) (ag hpre hrl) (ag hpre hrl) hpre hsl fun s hs=>hs.elim .inr .inr
   ·have e47:([c]==[47])=false:=by simpa using h47
    rw [e47]
    conv=>whnf
    rw [e47]
    refine ⟨.inr (by unfold dT;decide),?_⟩
    exact last (V:=fun _=>[]) (ag hpre hr) (ag hpre hrl) hpre hs fun s hs=>hs
end Internal
end
section
namespace Internal
noncomputable abbrev dj:List Nat:=[115,101,116]
noncomputable abbrev dH:List Nat:=[116,101,108,108]
noncomputable abbrev sD:List Nat:=[115,107,105,112]
noncomputable abbrev wIf:List Nat:=[105,102]
noncomputable abbrev nz:List Nat:=[101,108,115,101]
noncomputable abbrev dI:List Nat:=[119,104,105,108,101]
noncomputable abbrev mQ:List Nat:=[101,110,100]
set_option genCtorIdx false in
inductive Rw where
 | set (s:List Nat) (t:Tm) | tell (t:Tm) | skip | ite (t:Tm) (a b:List Rw) | wh (t:Tm) (a:List Rw)
gen_injective_theorems% Rw
noncomputable def Gn (s:List Nat):Prop:=Nm s∧s∉kws
noncomputable def Tm.good (t:Tm):Prop:=t.ok Gn∧t.deep≤3
noncomputable def Tm.txt:Tm→List Nat
 | .num k=>dec k
 | .nm s=>s
 | .op c a b=>[c]++[32]++a.txt++[32]++b.txt
mutual
noncomputable def Rw.mv:Rw→MV
 | .set s t=>.tup [.str dj,.str s,t.mv]
 | .tell t=>.tup [.str dH,t.mv]
 | .skip=>.tup [.str sD]
 | .ite t a b=>.tup [.str wIf,t.mv,.tup (mvs a),.tup (mvs b)]
 | .wh t a=>.tup [.str dI,t.mv,.tup (mvs a)]
noncomputable def mvs:List Rw→List MV
 | []=>[]
 | r::rs=>r.mv::mvs rs
end
mutual
noncomputable def Rw.good:Rw→Prop
 | .set s t=>Gn s∧t.good
 | .tell t=>t.good
 | .skip=>True
 | .ite t a b=>t.good∧db a∧db b
 | .wh t a=>t.good∧db a
noncomputable def db:List Rw→Prop
 | []=>True
 | r::rs=>r.good∧db rs
end
mutual
noncomputable def Rw.nest:Rw→Nat
 | .ite _ a b=>max (ap a) (ap b)+1
 | .wh _ a=>ap a+1
 | _=>0
noncomputable def ap:List Rw→Nat
 | []=>0
 | r::rs=>max r.nest (ap rs)
end
mutual
noncomputable def Rw.lines:Rw→List (List Nat)
 | .set s t=>[dj++[32]++s++[32]++t.txt]
 | .tell t=>[dH++[32]++t.txt]
 | .skip=>[sD]
 | .ite t a b=>(wIf++[32]++t.txt)::(lns a++nz::(lns b++[mQ]))
 | .wh t a=>(dI++[32]++t.txt)::(lns a++[mQ])
noncomputable def lns:List Rw→List (List Nat)
 | []=>[]
 | r::rs=>r.lines++lns rs
end
theorem fB:∀(a b:List Rw),mvs (a++b)=mvs a++mvs b
 | [],b=>rfl
 | r::a,b=>by show r.mv::mvs (a++b)=r.mv::(mvs a++mvs b);rw [fB a b]
theorem fC:∀(a b:List Rw),lns (a++b)=lns a++lns b
 | [],b=>rfl
 | r::a,b=>by show r.lines++lns (a++b)=r.lines++lns a++lns b;rw [fC a b,List.append_assoc]
theorem dw:∀{a b:List Rw}{k:Nat},ap a≤k→ap b≤k→ap (a++b)≤k
 | [],_,_,_,h=>h
 | r::a,b,k,h,h'=>by
  have h:max r.nest (ap a)≤k:=h
  exact Nat.max_le.mpr ⟨(Nat.max_le.mp h).1,dw (Nat.max_le.mp h).2 h'⟩
theorem jH:∀{rs:List Rw},db rs→∀r∈rs,r.good
 | _::_,h,r,hr=>by
  rcases List.mem_cons.mp hr with rfl | hr
  ·exact h.1
  ·exact jH h.2 r hr
theorem eV:∀{rs:List Rw}{k:Nat},ap rs≤k→∀r∈rs,r.nest≤k
 | q::rs,k,h,r,hr=>by
  have h:max q.nest (ap rs)≤k:=h
  rcases List.mem_cons.mp hr with rfl | hr
  ·exact (Nat.max_le.mp h).1
  ·exact eV (Nat.max_le.mp h).2 r hr
theorem cp:∀(rs:List Rw),(mvs rs).length=rs.length
 | []=>rfl
 | r::rs=>congrArg (·+1) (cp rs)
theorem uk (r:Rw):1≤r.lines.length:=by
 cases r<;>exact Nat.le_add_left 1 _
theorem kD:∀(rs:List Rw),rs.length≤(lns rs).length
 | []=>Nat.le_refl _
 | r::rs=>by
  have h1:=uk r
  have h2:=kD rs
  show rs.length+1≤(r.lines++lns rs).length
  rw [List.length_append];exact n2 h2 h1 (by simp +arith only)
theorem sF {rs:List Rw}{j:Nat}{x:MV}:(mvs rs)[j]?=some x→∃r,rs[j]?=some r∧x=r.mv:=by
 induction rs generalizing j with
 | nil=>intro h;cases h
 | cons r rs ih=>
  intro h
  cases j with
  | zero=>exact ⟨r,rfl,(Option.some.inj h).symm⟩
  | succ j=>exact ih h
theorem Tm.good.sub {c:Nat}{a b:Tm}(h:(Tm.op c a b).good):a.good∧b.good:=by
 obtain ⟨⟨_,h1,h2⟩,h3⟩:=h
 have h3:max a.deep b.deep+1≤3:=h3
 exact ⟨⟨h1,n2 h3 (Nat.le_max_left a.deep b.deep) (by simp +arith only)⟩,h2,n2 h3 (Nat.le_max_right a.deep b.deep) (by simp +arith only)⟩
theorem room {N k:Nat}(h:k<N):∃M,N=M+1∧k≤M:=⟨N-1,sb (n1 h (by simp +arith only)),by lia⟩
theorem jf (r:Rw):lns [r]=r.lines:=List.append_nil _
theorem ak {h:List MO}{i j:Nat}{o o':MO}(hne:i≠j) (e:h[j]?=some o):(h.set i o')[j]?=some o:=by
 rw [List.getElem?_set_ne hne];exact e
theorem b9 (hp:List MO) (x y:List (List Nat)):(hp++[MO.list (x.map .str++y.map .str)])[hp.length]?=some (.list ((x++y).map .str)):=by
 rw [ac,List.map_append]
theorem bQ {x y:List (List Nat)}(h:x.length+y.length≤100000):(x.map MV.str).length+(y.map MV.str).length≤line:=aZ (by rw [List.length_map,List.length_map];exact Nat.le_trans h (nb rfl))
theorem gS {g:Option (Nat × List MV)}{step:MV→(Option MV→MS→Prop)→MS→Prop}{Q:List MV→MS→Prop}(I:Nat→List MV→MS→Prop) {items:List MV}{m:MS}(h0:I 0 [] m) (hg:∀i a m,I i a m→aW g m.heap)
  (hstep:∀i x a m (P:Option MV→MS→Prop),items[i]?=some x→I i a m→(∀y m',I (i+1) (a++[y]) m'→P (some y) m')→(∀m',I (i+1) a m'→P none m')→step x P m)
  (hend:∀a m,I items.length a m→Q a m):cZ g step Q items [] m:=by
 have key:∀(l:List MV) (i:Nat) (a:List MV) (m:MS),i+l.length=items.length→items.drop i=l→I i a m→cZ g step Q l a m:=by
  intro l
  induction l with
  | nil=>
   intro i a m hl e hI
   have hl:i=items.length:=hl
   subst hl
   rw [jy]
   exact ⟨hg _ _ m hI,hend a m hI⟩
  | cons x l ih=>
   intro i a m hl e hI
   rw [List.length_cons] at hl
   have hlt:i<items.length:=n1 (Nat.le_of_eq hl) (by simp +arith only)
   have e':=List.drop_eq_getElem_cons hlt
   rw [e] at e'
   obtain ⟨e1,e2⟩:=List.cons.inj e'
   rw [fe]
   exact ⟨hg i a m hI,hstep i x a m _ (by rw [List.getElem?_eq_getElem hlt,e1]) hI (fun y m' h'=>ih (i+1) _ m' (by lia) e2.symm h') fun m' h'=>ih (i+1) _ m' (by lia) e2.symm h'⟩
 exact key items 0 [] m (by simp) (by simp) h0
theorem sG {σ:Type}(st:σ→MS) (I:σ→Prop) {g:Option (Nat × List MV)}{step:MV→(Option MV→MS→Prop)→MS→Prop}{Q:List MV→MS→Prop}{items:List MV}{m:MS}(w:σ) (e0:m=st w) (h0:I w) (hg:∀w,I w→aW g (st w).heap)
  (hstep:∀(i:Nat) x w (P:Option MV→MS→Prop),items[i]?=some x→I w→(∀y w,I w→P (some y) (st w))→(∀w,I w→P none (st w))→step x P (st w)) (hend:∀a w,I w→Q a (st w)):cZ g step Q items [] m:=by
 refine gS (fun i a m=>∃w,m=st w∧I w) ⟨w,e0,h0⟩ (fun i a m hI=>?_) (fun i x a m P hx hI h1 h2=>?_) (fun a m hI=>?_)
 ·obtain ⟨w,rfl,h⟩:=hI;exact hg w h
 ·obtain ⟨w,rfl,h⟩:=hI;exact hstep i x w P hx h (fun y w h=>h1 y _ ⟨w,rfl,h⟩) fun w h=>h2 _ ⟨w,rfl,h⟩
 ·obtain ⟨w,rfl,h⟩:=hI;exact hend a w h
theorem kE (st:Option MV→MS) (acc:Nat→List MV) {g:Option (Nat × List MV)}{step:MV→(Option MV→MS→Prop)→MS→Prop}{Q:List MV→MS→Prop}{items:List MV}{m:MS}(w:Option MV) (e0:m=st w) (a0:acc 0=[]) (hg:∀w,aW g (st w).heap)
  (hstep:∀i x w (P:Option MV→MS→Prop),items[i]?=some x→(∀y w,acc (i+1)=acc i++[y]→P (some y) (st w))→(∀w,acc (i+1)=acc i→P none (st w))→step x P (st w)) (hend:∀w,Q (acc items.length) (st w)):cZ g step Q items [] m:=by
 refine gS (fun i a m=>∃w,m=st w∧a=acc i) ⟨w,e0,a0.symm⟩ (fun i a m hI=>?_) (fun i x a m P hx hI h1 h2=>?_) (fun a m hI=>?_)
 ·obtain ⟨w,rfl,_⟩:=hI;exact hg w
 ·obtain ⟨w,rfl,rfl⟩:=hI;exact hstep i x w P hx (fun y w e=>h1 y _ ⟨w,rfl,e.symm⟩) fun w e=>h2 _ ⟨w,rfl,e.symm⟩
 ·obtain ⟨w,rfl,rfl⟩:=hI;exact hend w
theorem gT {hp:List MO}{r:Nat}{xs:List MV}(e:hp[r]?=some (.list xs)):kP .extend (.ref r) hp=true:=by
 show (tq r hp[r]?).isSome=true;rw [e];rfl
theorem aq {α:Type}{rs:List α}{j:Nat}{r:α}(e:rs[j]?=some r):rs.take (j+1)=rs.take j++[r]:=by
 rw [List.take_add_one,e];rfl
noncomputable abbrev sgs:List (List Nat):=[[43],[45],[42],[47],[60],[61]]
theorem Dy:∀s∈sgs,okS s:=by unfold okS;decide
theorem sH {c:Nat}(h:cf c):sgs.contains [c]=true∧okS [c]:=by
 rcases h with rfl | rfl | rfl | rfl | rfl | rfl<;>exact ⟨rfl,by unfold okS;decide⟩
end Internal
end
section
namespace Internal
variable {K:KT}(hK:aF PP K)
include hK
theorem z8 {n:Nat}{k b:Int}{Q:MV→List MO→Prop}{X:XT}{h:List MO}(h0:0≤k) (h1:k≤b) (hq:Q (.bool true) h):K (n+1) 22 [.int k,.int b] Q X h:=by
 refine hK _ _ _ _ _ _ fR rfl rfl ?_
 conv=>whnf
 rw [decide_eq_true h0]
 conv=>whnf
 rw [decide_eq_true h1]
 exact hq
theorem pU {n:Nat}{k:Int}{Q:MV→List MO→Prop}{X:XT}{h:List MO}(h0:0≤k∧k<1000000) (hq:Q (.bool true) h):K (n+2) 23 [.int k] Q X h:=by
 refine hK _ _ _ _ _ _ i6 rfl rfl ?_
 exact z8 hK h0.1 (z1 h0.2 (by simp +arith only)) hq
omit hK in
theorem Dz {s:List Nat}(h:∀c∈s,c<128):s.all (fun c=>decide (c<128))=true:=List.all_eq_true.mpr fun c hc=>decide_eq_true (h c hc)
omit hK in
theorem xx {s:List Nat}{hp:List MO}(h:∀c∈s,c<128):d9 .val [.str s] hp=some (s.map (fun c=>.str [c]),none):=by
 show (match s.all (fun c=>decide (c<128)) with
  | true=>some (s.map (fun c=>MV.str [c]),none)
  | false=>none)=_
 rw [Dz h]
omit hK in
theorem xy {s:List Nat}{i:Nat}{x:MV}(e:(s.map (fun c=>MV.str [c]))[i]?=some x):∃c∈s,x=.str [c]:=by
 obtain ⟨c,h1,h2⟩:=List.getElem?_map ..▸e |> Option.map_eq_some_iff.mp
 exact ⟨c,List.mem_of_getElem? h1,h2.symm⟩
omit hK in
theorem xA {s:List Nat}(h:s≠[]):s[0]?=some (s.headD 0):=by
 cases s with
 | nil=>exact absurd rfl h
 | cons=>rfl
noncomputable abbrev DA:List Nat:=[48,49,50,51,52,53,54,55,56,57]
omit hK in
theorem ul:∀c∈kc,abc.contains c=true∨DA.contains c=true:=by decide
theorem ml {n:Nat}{s:List Nat}{Q:MV→List MO→Prop}{X:XT}{h:List MO}(hs:Gn s) (hq:Q (.bool true) h):K (n+1) 24 [.str s] Q X h:=by
 have hp:0<s.length:=List.length_pos_iff.mpr hs.1.1
 have h8:=hs.1.2.1
 refine hK _ _ _ _ _ _ l8 rfl rfl ?_
 conv=>whnf
 rw [decide_eq_true (show (1:Int)≤s.length by lia)]
 conv=>whnf
 rw [decide_eq_true (show (s.length:Int)≤8 by lia)]
 show InP _ _ (kws.map .str) _
 refine cK hs.1.ok rj ?_
 rw [show kws.contains s=false by simpa using hs.2]
 refine aS (aU (by decide) (kN hp)) (show s[(0:Int).toNat]?=some (s.headD 0) from xA hs.1.1) ?_
 conv=>whnf
 rw [show abc.contains (s.headD 0)=true by simpa using hs.1.2.2.2]
 refine aM (xx fun c hc=>pQ c (hs.1.2.2.1 c hc)) ?_
 refine ma (fun i m=>m.heap=h∧∃w,m.vars=[some (.str s),w]) (fun _ _=>False) ⟨rfl,_,rfl⟩ (fun _ _ _=>trivial) (fun i y m P hy hI hn _ _=>?_) (fun m hI=>?_) (fun _ _ h=>h.elim)
 ·obtain ⟨c,hc,rfl⟩:=xy hy
  obtain ⟨vars,hp⟩:=m
  obtain ⟨rfl,w,rfl⟩:=hI
  conv=>whnf
  have h2:=ul c (hs.1.2.2.1 c hc)
  cases h3:abc.contains c with
  | true=>exact hn _ ⟨rfl,_,rfl⟩
  | false=>
   conv=>whnf
   rw [h2.resolve_left (by rw [h3];decide)]
   exact hn _ ⟨rfl,_,rfl⟩
 ·obtain ⟨vars,hp⟩:=m
  obtain ⟨rfl,w,rfl⟩:=hI
  exact hq
end Internal
end
section
namespace Internal
noncomputable def holds (l:Bool) (n:Nat) (hp:List MO) (u:MV) (xs:List MV):Prop:=match l with
 | false=>u=.tup xs
 | true=>∃i,n≤i∧u=.ref i∧hp[i]?=some (.list xs)
mutual
noncomputable def Rw.is (l:Bool) (n:Nat) (hp:List MO):Rw→MV→Prop
 | .set s t,x=>x=.tup [.str dj,.str s,t.mv]
 | .tell t,x=>x=.tup [.str dH,t.mv]
 | .skip,x=>x=.tup [.str sD]
 | .ite t a b,x=>∃u v,x=.tup [.str wIf,t.mv,u,v]∧(∃xs,holds l n hp u xs∧cL l n hp a xs)∧∃xs,holds l n hp v xs∧cL l n hp b xs
 | .wh t a,x=>∃u,x=.tup [.str dI,t.mv,u]∧∃xs,holds l n hp u xs∧cL l n hp a xs
noncomputable def cL (l:Bool) (n:Nat) (hp:List MO):List Rw→List MV→Prop
 | [],xs=>xs=[]
 | r::rs,xs=>∃y ys,xs=y::ys∧r.is l n hp y∧cL l n hp rs ys
end
noncomputable def cT (l:Bool) (n:Nat) (hp:List MO) (rs:List Rw) (u:MV):Prop:=∃xs,holds l n hp u xs∧cL l n hp rs xs
noncomputable def um (n n':Nat) (hp hp':List MO):Prop:=n'≤n∧∀i o,n≤i→hp[i]?=some o→hp'[i]?=some o
theorem um.pre {n:Nat}{hp hp':List MO}(e:hp<+:hp'):um n n hp hp':=⟨Nat.le_refl _,fun _ _ _ h=>ag e h⟩
section
variable {l:Bool}{n n':Nat}{hp hp':List MO}
theorem holds.up {u:MV}{xs:List MV}(h:holds l n hp u xs) (e:um n n' hp hp'):holds l n' hp' u xs:=by
 cases l with
 | false=>exact h
 | true=>obtain ⟨i,h0,h1,h2⟩:=h;exact ⟨i,Nat.le_trans e.1 h0,h1,e.2 i _ h0 h2⟩
mutual
theorem Rw.is_up (e:um n n' hp hp'):∀(r:Rw) (x:MV),r.is l n hp x→r.is l n' hp' x
 | .set s t,x,h=>h
 | .tell t,x,h=>h
 | .skip,x,h=>h
 | .ite t a b,x,h=>by
  obtain ⟨u,v,h1,⟨xs,h2,h3⟩,ys,h4,h5⟩:=h
  exact ⟨u,v,h1,⟨xs,h2.up e,dJ e a xs h3⟩,ys,h4.up e,dJ e b ys h5⟩
 | .wh t a,x,h=>by
  obtain ⟨u,h1,xs,h2,h3⟩:=h
  exact ⟨u,h1,xs,h2.up e,dJ e a xs h3⟩
theorem dJ (e:um n n' hp hp'):∀(rs:List Rw) (xs:List MV),cL l n hp rs xs→cL l n' hp' rs xs
 | [],xs,h=>h
 | r::rs,xs,h=>by
  obtain ⟨y,ys,h1,h2,h3⟩:=h
  exact ⟨y,ys,h1,r.is_up e y h2,dJ e rs ys h3⟩
end
theorem cT.stay {rs:List Rw}{u:MV}(h:cT l n hp rs u) (e:um n n' hp hp'):cT l n' hp' rs u:=let ⟨xs,h1,h2⟩:=h;⟨xs,h1.up e,dJ e rs xs h2⟩
theorem cT.up {rs:List Rw}{u:MV}(h:cT l n hp rs u) (e:hp<+:hp'):cT l n hp' rs u:=h.stay (.pre e)
theorem sI:∀{rs:List Rw}{xs:List MV},cL l n hp rs xs→xs.length=rs.length
 | [],xs,h=>by have h:xs=[]:=h;rw [h];rfl
 | r::rs,xs,h=>by
  obtain ⟨y,ys,h1,_,h3⟩:=h
  rw [h1];exact congrArg (·+1) (sI h3)
theorem ou:∀{rs:List Rw}{xs:List MV},cL l n hp rs xs→∀{j:Nat}{x:MV},xs[j]?=some x→∃r,rs[j]?=some r∧r.is l n hp x
 | [],xs,h,j,x,e=>by have h:xs=[]:=h;rw [h] at e;cases e
 | r::rs,xs,h,j,x,e=>by
  obtain ⟨y,ys,rfl,h2,h3⟩:=h
  cases j with
  | zero=>cases e;exact ⟨r,rfl,h2⟩
  | succ j=>exact ou h3 e
mutual
theorem ik:∀(r:Rw),r.is false n hp r.mv
 | .set s t=>rfl
 | .tell t=>rfl
 | .skip=>rfl
 | .ite t a b=>⟨_,_,rfl,⟨_,rfl,jg a⟩,_,rfl,jg b⟩
 | .wh t a=>⟨_,rfl,_,rfl,jg a⟩
theorem jg:∀(rs:List Rw),cL false n hp rs (mvs rs)
 | []=>rfl
 | r::rs=>⟨_,_,rfl,ik r,jg rs⟩
end
theorem pV {u:MV}{xs:List MV}(h:holds l n hp u xs):∃g,∀hp',hp<+:hp'→d9 .val [u] hp'=some (xs,g)∧aW g hp':=by
 cases l with
 | false=>have h:u=.tup xs:=h;subst h;exact ⟨none,fun _ _=>⟨rfl,trivial⟩⟩
 | true=>obtain ⟨i,_,rfl,h2⟩:=h;exact ⟨_,fun hp' e=>⟨aH (ag e h2),ag e h2⟩⟩
end
end Internal
end
section
namespace Internal
noncomputable def an:Tm→List (List Nat)
 | .num _=>[]
 | .nm s=>[s]
 | .op _ a b=>an a++an b
theorem cw:∀t:Tm,(an t).length≤t.lv
 | .num _=>Nat.zero_le _
 | .nm _=>Nat.le_refl _
 | .op c a b=>by
  have h1:=cw a
  have h2:=cw b
  show (an a++an b).length≤a.lv+b.lv
  rw [List.length_append];exact n2 h2 h1 (by simp +arith only)
theorem iA (l:List (List Nat)):(aC l).Nodup:=(kz l).imp fun h q=>by subst q;exact List.lt_irrefl _ h
theorem jh {l t:List (List Nat)}(h:∀x∈l,x∈t):(aC l).length≤t.length:=oq _ _ (iA l) fun x hx=>h x (aA.mp hx)
theorem Tm.good.lv {t:Tm}(h:t.good):t.lv≤8:=Nat.le_trans t.lv_le (Nat.pow_le_pow_right (j:=3) (by decide) h.2)
theorem un {c:Nat}(h:cf c) {P:Nat→Prop}(h1:P 43) (h2:P 45) (h3:P 42) (h4:P 60) (h5:P 61) (h6:P 47):P c:=by
 rcases h with rfl | rfl | rfl | rfl | rfl | rfl
 ·exact h1
 ·exact h2
 ·exact h3
 ·exact h4
 ·exact h5
 ·exact h6
variable {K:KT}(hK:aF PP K)
include hK
theorem z9 {p:List Nat→Prop}:∀(t:Tm) {N:Nat}{Q:MV→List MO→Prop}{X:XT}{h:List MO},t.deep<N→t.ok p→t.lv≤1000→
  (∀r h',h<+:h'→h'[r]?=some (.list ((an t).map .str))→Q (.ref r) h')→K N 0 [t.mv] Q X h
 | .num k,N,Q,X,h,hN,ht,hl,hq=>by
  obtain ⟨M,rfl,hM⟩:=room hN
  refine hK _ _ _ _ _ _ dt rfl rfl ?_
  exact hq _ _ (aa (ai _)) (ac _ _)
 | .nm s,N,Q,X,h,hN,ht,hl,hq=>by
  obtain ⟨M,rfl,hM⟩:=room hN
  refine hK _ _ _ _ _ _ dt rfl rfl ?_
  exact hq _ _ (aa (ai _)) (ac _ _)
 | .op c a b,N,Q,X,h,hN,ht,hl,hq=>by
  have hN:max a.deep b.deep+1<N:=hN
  have hl:a.lv+b.lv≤1000:=hl
  obtain ⟨M,rfl,hM⟩:=room hN
  obtain ⟨hc,ha,hb⟩:=ht
  have ea:=cw a
  have eb:=cw b
  refine hK _ _ _ _ _ _ dt rfl rfl ?_
  conv=>whnf
  rw [show ([c]==xw)=false by simp]
  conv=>whnf
  rw [show ([c]==pS)=false by simp]
  refine z9 a (n2 hN (Nat.le_max_left a.deep b.deep) (by simp +arith only)) ha (n1 hl (by simp +arith only)) fun r1 h1 p1 e1=>?_
  refine z9 b (n2 hN (Nat.le_max_right a.deep b.deep) (by simp +arith only)) hb (n1 hl (by simp +arith only)) fun r2 h2 p2 e2=>?_
  conv=>whnf
  dsimp only
  rw [ag p2 e1,e2]
  refine ⟨bQ (n3 eb ea hl (by simp +arith only)),?_⟩
  exact hq _ _ (aa (List.IsPrefix.trans p1 p2)) (b9 _ _ _)
theorem iB {p:List Nat→Prop}{t:Tm}{N:Nat}{Q:MV→List MO→Prop}{X:XT}{h:List MO}(hN:t.deep+1<N) (ht:t.ok p) (hl:t.lv≤60)
  (hq:∀r h',h<+:h'→h.length≤r→h'[r]?=some (.list ((aC (an t)).map .str))→Q (.ref r) h'):K N 1 [t.mv] Q X h:=by
 obtain ⟨M,rfl,hM⟩:=room hN
 refine hK _ _ _ _ _ _ j0 rfl rfl ?_
 refine z9 hK t (hM) ht (Nat.le_trans hl (nb rfl)) fun r1 h1 p1 e1=>?_
 have p1:h<+:h1:=p1
 conv=>whnf
 dsimp only
 rw [e1]
 have e1:=cw t
 have e2:(aC (an t)).length≤(an t).length:=jh fun x hx=>hx
 exact .mk (an t) rfl (n3 e2 e1 hl (by simp +arith only)) (n2 e1 hl (by simp +arith only)) (hq _ _ (aa p1) p1.length_le (ac _ _))
theorem ow:∀(t:Tm) {N:Nat}{d:Int}{Q:MV→List MO→Prop}{X:XT}{h:List MO},t.ok Gn→d+t.deep≤12→t.deep+2<N→Q .none h→K N 55 [t.mv,.int d] Q X h
 | .num k,N,d,Q,X,h,ht,hd,hN,hq=>by
  obtain ⟨M,rfl,hM⟩:=room hN
  obtain ⟨M,rfl⟩:∃M',M=M'+2:=⟨M-2,sb hM⟩
  have hd:¬ 12<d:=dn (n:=0) hd
  refine hK _ _ _ _ _ _ co rfl rfl ?_
  conv=>whnf
  rw [decide_eq_false hd]
  exact pU hK ht hq
 | .nm s,N,d,Q,X,h,ht,hd,hN,hq=>by
  obtain ⟨M,rfl,hM⟩:=room hN
  obtain ⟨M,rfl⟩:∃M',M=M'+1:=⟨M-1,sb (n1 hN (by simp +arith only))⟩
  have hd:¬ 12<d:=dn (n:=0) hd
  refine hK _ _ _ _ _ _ co rfl rfl ?_
  conv=>whnf
  rw [decide_eq_false hd]
  exact ml hK ht hq
 | .op c a b,N,d,Q,X,h,ht,hd,hN,hq=>by
  have hN:max a.deep b.deep+1+2<N:=hN
  have hd:d+(max a.deep b.deep+1:Nat)≤12:=hd
  obtain ⟨M,rfl,hM⟩:=room hN
  obtain ⟨hc,ha,hb⟩:=ht
  refine hK _ _ _ _ _ _ co rfl rfl ?_
  conv=>whnf
  rw [decide_eq_false (dn hd)]
  show InP _ _ (sgs.map .str) _
  refine cK (sH hc).2 Dy ?_
  rw [(sH hc).1]
  refine ow a ha (dl hd).1 (n2 hN (Nat.le_max_left a.deep b.deep) (by simp +arith only)) ?_
  exact ow b hb (dl hd).2 (n2 hN (Nat.le_max_right a.deep b.deep) (by simp +arith only)) hq
end Internal
end
section
namespace Internal
noncomputable def Rw.subs:Rw→List (List Rw)
 | .ite _ a b=>[a,b]
 | .wh _ a=>[a]
 | _=>[]
mutual
theorem DB {P:List Rw→Prop}(h:∀rs,(∀r∈rs,∀b∈r.subs,P b)→P rs):∀(r:Rw),∀b∈r.subs,P b
 | .set _ _,b,hb=>by cases hb
 | .tell _,b,hb=>by cases hb
 | .skip,b,hb=>by cases hb
 | .ite _ x y,b,hb=>by
  rcases List.mem_cons.mp hb with e | hb
  ·rw [e];exact h x (ji h x)
  ·rw [List.mem_singleton.mp hb];exact h y (ji h y)
 | .wh _ x,b,hb=>by rw [List.mem_singleton.mp hb];exact h x (ji h x)
theorem ji {P:List Rw→Prop}(h:∀rs,(∀r∈rs,∀b∈r.subs,P b)→P rs):∀(rs:List Rw),∀r∈rs,∀b∈r.subs,P b
 | [],r,hr=>by cases hr
 | q::rs,r,hr=>by
  rcases List.mem_cons.mp hr with e | hr
  ·rw [e];exact DB h q
  ·exact ji h rs r hr
end
theorem dK {P:List Rw→Prop}(h:∀rs,(∀r∈rs,∀b∈r.subs,P b)→P rs) (rs:List Rw):P rs:=h rs (ji h rs)
theorem eW {r:Rw}:∀b∈r.subs,ap b<r.nest:=by
 cases r with
 | ite t x y=>
  intro b hb
  show ap b<max (ap x) (ap y)+1
  rcases List.mem_cons.mp hb with rfl | hb
  ·exact n1 (Nat.le_max_left (ap b) (ap y)) (by simp +arith only)
  ·rw [List.mem_singleton.mp hb];exact n1 (Nat.le_max_right (ap x) (ap y)) (by simp +arith only)
 | wh t x=>intro b hb;rw [List.mem_singleton.mp hb];exact Nat.lt_succ_self _
 | _=>intro b hb;cases hb
theorem pW {r:Rw}(h:r.good):∀b∈r.subs,db b:=by
 cases r with
 | ite t x y=>
  intro b hb
  rcases List.mem_cons.mp hb with rfl | hb
  ·exact h.2.1
  ·rw [List.mem_singleton.mp hb];exact h.2.2
 | wh t x=>intro b hb;rw [List.mem_singleton.mp hb];exact h.2
 | _=>intro b hb;cases hb
theorem jI {r:Rw}:∀b∈r.subs,(lns b).length≤r.lines.length:=by
 cases r with
 | ite t x y=>
  intro b hb
  show (lns b).length≤((_:List Nat)::(lns x++nz::(lns y++[mQ]))).length
  simp only [List.length_cons,List.length_append]
  rcases List.mem_cons.mp hb with rfl | hb
  ·exact by simp +arith only
  ·rw [List.mem_singleton.mp hb];exact by simp +arith only
 | wh t x=>
  intro b hb
  rw [List.mem_singleton.mp hb]
  show (lns x).length≤((_:List Nat)::(lns x++[mQ])).length
  simp only [List.length_cons,List.length_append];exact by simp +arith only
 | _=>intro b hb;cases hb
theorem nA:∀{rs:List Rw},∀r∈rs,r.lines.length≤(lns rs).length
 | q::rs,r,hr=>by
  show _≤(q.lines++lns rs).length
  rw [List.length_append]
  rcases List.mem_cons.mp hr with rfl | hr
  ·exact by simp +arith only
  ·have:=nA r hr;exact n1 this (by simp +arith only)
section
variable {l:Bool}{n n':Nat}{hp hp':List MO}
noncomputable def kF (l:Bool) (n:Nat) (hp:List MO):List (List Rw)→List MV→Prop
 | [],us=>us=[]
 | b::bs,us=>∃u vs,us=u::vs∧cT l n hp b u∧kF l n hp bs vs
theorem jj:∀{bs:List (List Rw)}{us:List MV},kF l n hp bs us→∀{j:Nat}{u:MV},us[j]?=some u→∃b,bs[j]?=some b∧cT l n hp b u
 | [],us,h,j,u,e=>by have h:us=[]:=h;rw [h] at e;cases e
 | b::bs,us,h,j,u,e=>by
  obtain ⟨y,ys,rfl,h2,h3⟩:=h
  cases j with
  | zero=>cases e;exact ⟨b,rfl,h2⟩
  | succ j=>exact jj h3 e
theorem mn:∀{bs:List (List Rw)}{us:List MV},kF l n hp bs us→us.length=bs.length
 | [],us,h=>by have h:us=[]:=h;rw [h];rfl
 | b::bs,us,h=>by
  obtain ⟨y,ys,rfl,h2,h3⟩:=h
  exact congrArg (·+1) (mn h3)
inductive mR (l:Bool) (n:Nat) (hp:List MO):Rw→MV→Prop
 | set (s t):mR l n hp (.set s t) (.tup [.str dj,.str s,t.mv])
 | tell (t):mR l n hp (.tell t) (.tup [.str dH,t.mv])
 | skip:mR l n hp .skip (.tup [.str sD])
 | ite {t a b u v}:cT l n hp a u→cT l n hp b v→mR l n hp (.ite t a b) (.tup [.str wIf,t.mv,u,v])
 | wh {t a u}:cT l n hp a u→mR l n hp (.wh t a) (.tup [.str dI,t.mv,u])
theorem eX {r:Rw}{x:MV}(h:r.is l n hp x):mR l n hp r x:=by
 cases r with
 | set s t=>have h:x=_:=h;subst h;exact .set s t
 | tell t=>have h:x=_:=h;subst h;exact .tell t
 | skip=>have h:x=_:=h;subst h;exact .skip
 | ite t a b=>obtain ⟨u,v,rfl,h1,h2⟩:=h;exact .ite h1 h2
 | wh t a=>obtain ⟨u,rfl,h1⟩:=h;exact .wh h1
end
noncomputable def Rw.fm:Rw→MV
 | .set _ t=>t.mv
 | .tell t=>t.mv
 | .skip=>.none
 | .ite t _ _=>t.mv
 | .wh t _=>t.mv
variable {K:KT}(hK:aF PP K)
include hK
theorem jk {r:Rw}{x:MV}{l:Bool}{n N:Nat}{Q:MV→List MO→Prop}{X:XT}{h:List MO}(hx:mR l n h r x) (hN:0<N) (hq:∀us,kF l n h r.subs us→Q (.ref h.length) (h++[.list us])):K N 25 [x] Q X h:=by
 obtain ⟨M,rfl,hM⟩:=room hN
 refine hK _ _ _ _ _ _ i7 rfl rfl ?_
 cases hx with
 | set s t=>exact hq [] rfl
 | tell t=>exact hq [] rfl
 | skip=>exact hq [] rfl
 | @ite t a b u v h1 h2=>exact hq [u,v] ⟨u,[v],rfl,h1,v,[],rfl,h2,rfl⟩
 | @wh t a u h1=>exact hq [u] ⟨u,[],rfl,h1,rfl⟩
theorem ke {r:Rw}{x:MV}{l:Bool}{n N:Nat}{Q:MV→List MO→Prop}{X:XT}{h:List MO}(hx:mR l n h r x) (hN:0<N) (hq:Q r.fm h):K N 26 [x] Q X h:=by
 obtain ⟨M,rfl,hM⟩:=room hN
 refine hK _ _ _ _ _ _ hX rfl rfl ?_
 cases hx<;>exact hq
theorem ox {l:Bool}{n N:Nat}{u:MV}{xs:List MV}{Q:MV→List MO→Prop}{X:XT}{h:List MO}(hu:holds l n h u xs) (hN:0<N) (hq:Q (.bool true) h):K N 56 [u] Q X h:=by
 obtain ⟨M,rfl,hM⟩:=room hN
 refine hK _ _ _ _ _ _ j4 rfl rfl ?_
 cases l with
 | false=>have hu:u=_:=hu;subst hu;exact hq
 | true=>
  obtain ⟨i,_,rfl,e⟩:=hu
  conv=>whnf
  dsimp only [cE]
  rw [show jx h (.ref i) .list=some true from congrArg (tyO · .list) e,show jx h (.ref i) .tuple=some false from congrArg (tyO · .tuple) e]
  exact hq
omit hK in
theorem ro {n:Nat}:(List.replicate n true).all id=true:=List.all_eq_true.mpr fun x hx=>by rw [List.eq_of_mem_replicate hx];rfl
theorem xB {r:Rw}{x:MV}{l:Bool}{n N:Nat}{Q:MV→List MO→Prop}{X:XM}{h:List MO}(hx:mR l n h r x) (hN:0<N) {w:Option MV}(hq:∀h',h<+:h'→Q (.bool true) h') :
  wpS K N (.ret (.blt .all [.comp (.call 56 [.var 1]) [1] false .val [.call 25 [.var 0]] []])) (fin Q) X ⟨[some x,w],h⟩:=by
 refine jk hK hx hN fun us hus=>?_
 conv=>whnf
 dsimp only
 rw [aH (ac _ _)]
 refine gS (fun j a m=>∃w,m.vars=[some x,w]∧a=(List.replicate j true).map .bool∧m.heap=h++[.list us]) ⟨_,rfl,rfl,rfl⟩ (fun _ _ m hI=>by obtain ⟨_,_,_,e⟩:=hI;rw [e];exact ac _ _) (fun j y a m P hy hI h1 h2=>?_) (fun a m hI=>?_)
 ·obtain ⟨vars,hp⟩:=m
  obtain ⟨w,rfl,rfl,rfl⟩:=hI
  obtain ⟨b,_,xs,hb,_⟩:=jj hus hy
  exact ox hK (hb.up (.pre (aa (ai _)))) hN (h1 _ _ ⟨_,rfl,by rw [List.replicate_succ',List.map_append];rfl,rfl⟩)
 ·obtain ⟨vars,hp⟩:=m
  obtain ⟨w,rfl,rfl,rfl⟩:=hI
  conv=>whnf
  rw [ac]
  have:=mn hus
  have h2:r.subs.length≤2:=by cases r<;>first | exact Nat.le_refl _ | exact Nat.le_succ _ | exact Nat.zero_le _
  exact .mk _ rfl (by rw [List.length_replicate];exact n2 h2 (Nat.le_of_eq this) (by simp +arith only)) (by rw [ro];exact hq _ (aa (aa (ai _))))
theorem DC {r:Rw}{x:MV}{l:Bool}{n N:Nat}{Q:MV→List MO→Prop}{X:XT}{h:List MO}(hg:r.good) (hx:mR l n h r x) (hN:1<N) (hq:∀h',h<+:h'→Q (.bool true) h'):K N 57 [x] Q X h:=by
 obtain ⟨M,rfl,hM⟩:=room hN
 refine hK _ _ _ _ _ _ j5 rfl rfl ?_
 have fin:=xB hK (X:=fun c m=>X c m.heap) (w:=none) hx hM hq
 obtain ⟨M,rfl,_⟩:=room hM
 cases hx with
 | set s t=>exact ml hK hg.1 fin
 | tell t=>exact fin
 | skip=>exact fin
 | ite h1 h2=>exact fin
 | wh h1=>exact fin
end Internal
end
section
namespace Internal
variable {K:KT}
noncomputable def NB (K:KT) (rs:List Rw):Prop:=∀{l:Bool}{u:MV}{N:Nat}{d:Int}{Q:MV→List MO→Prop}{X:XT}{h:List MO},db rs→cT l 0 h rs u→d+ap rs≤8→ap rs+7<N→(∀h',h<+:h'→Q .none h')→K N 58 [u,.int d] Q X h
noncomputable def SB (K:KT) (rs:List Rw):Prop:=∀{l:Bool}{u:MV}{N:Nat}{Q:MV→List MO→Prop}{X:XT}{h:List MO},cT l 0 h rs u→(lns rs).length≤100000→ap rs+1<N→(∀h',h<+:h'→Q (.tup (mvs rs)) h')→K N 60 [u] Q X h
variable (hK:aF PP K)
include hK
theorem Aa (rs:List Rw) (ih:∀r∈rs,∀b∈r.subs,NB K b):NB K rs:=by
 intro l u N d Q X h hg hu hd hN hq
 obtain ⟨xs,h1,h2⟩:=hu
 obtain ⟨M,rfl,hM⟩:=room hN
 refine hK _ _ _ _ _ _ i8 rfl rfl ?_
 conv=>whnf
 dsimp only [cE]
 obtain ⟨g,e1⟩:=pV h1
 refine aM ((e1 _ (ai _)).1) ?_
 refine fz (fun j w2 w3 hp=>⟨[some u,some (.int d),w2,w3],hp⟩) (fun j w2 w3 hp=>h<+:hp)
  _ _ _ rfl (ai _) (fun _ _ _ _ h=>(e1 _ h).2) (fun j x w2 w3 hp P hx hI hn _=>?_) (fun w2 w3 hp hI=>?_)
 ·have hp1:=hI
  obtain ⟨r,hr,hr2⟩:=ou h2 hx
  have hmem:=List.mem_of_getElem? hr
  have gr:=jH hg r hmem
  have nr:=eV (Nat.le_refl (ap rs)) r hmem
  have v:=eX (r.is_up (.pre hp1) x hr2)
  refine DC hK gr v (n1 hN (by simp +arith only)) fun h' p'=>?_
  have p':hp<+:h':=p'
  have hp2:=hp1.trans p'
  have v':=eX (r.is_up (.pre hp2) x hr2)
  conv=>whnf
  rw [decide_eq_false (dn hd)]
  have last:wpS K M (.for_ [3] false .val [.call 25 [.var 2]] [.expr (.call 58 [.var 3,.bin .add (.var 1) (.cst (.int 1))])]) (fun f m=>match f with
    | .next=>P .next m
    | f=>P f m) (fun c m=>X c m.heap) ⟨[some u,some (.int d),some x,w3],h'⟩:=by
   refine jk hK v' (n1 hN (by simp +arith only)) fun us hus=>?_
   refine aM (aH (ac _ _)) ?_
   refine gP (fun j w3 hp=>⟨[some u,some (.int d),some x,w3],hp⟩) (fun j w3 hp=>h'++[.list us]<+:hp)
    _ _ rfl (ai _) (fun _ _ _ e=>ag e (ac _ _)) (fun j y w3 hp P hy hI hn _=>?_) (fun w3 hp hI=>?_)
   ·have hp3:=hI
    obtain ⟨b,hb,hb2⟩:=jj hus hy
    have hbm:=List.mem_of_getElem? hb
    have nb:=eW b hbm
    refine ih r hmem b hbm (pW gr b hbm) (hb2.up ((aa (ai _)).trans hp3)) (by lia) (n3 nb nr hN (by simp +arith only)) fun h'' p''=>?_
    exact hn _ _ (hp3.trans p'')
   ·have hp3:=hI
    exact hn _ _ _ (hp2.trans ((aa (ai _)).trans hp3))
  have gd:∀t:Tm,t.good→r.fm=t.mv→K M 26 [x] (fun v h=>K M 55 [v,.int 1] (fun _ h=>wpS K M (.for_ [3] false .val [.call 25 [.var 2]] [.expr (.call 58 [.var 3,.bin .add (.var 1) (.cst (.int 1))])]) (fun f m=>match f with
    | .next=>P .next m
    | f=>P f m) (fun c m=>X c m.heap) ⟨[some u,some (.int d),some x,w3],h⟩) X h) X h':=fun t ht e=>ke hK v' (n1 hN (by simp +arith only)) (by rw [e];exact ow hK t ht.1 (by have:=ht.2;lia) (by have:=ht.2;exact n2 this hN (by simp +arith only)) last)
  cases v' with
  | set s t=>exact gd t gr.2 rfl
  | tell t=>exact gd t gr rfl
  | skip=>exact last
  | ite h1 h2=>exact gd _ gr.1 rfl
  | wh h1=>exact gd _ gr.1 rfl
 ·have hp1:=hI
  exact hq _ hp1
theorem rq (rs:List Rw):NB K rs:=dK (P:=fun rs=>NB K rs) (fun rs ih=>Aa hK rs ih) rs
theorem Ab (rs:List Rw) (ih:∀r∈rs,∀b∈r.subs,SB K b):SB K rs:=by
 intro l u N Q X h hu hz hN hq
 obtain ⟨xs,h1,h2⟩:=hu
 obtain ⟨M,rfl,hM⟩:=room hN
 have hlen:=kD rs
 refine hK _ _ _ _ _ _ l9 rfl rfl ?_
 conv=>whnf
 dsimp only [cE,MS.push,MS.set]
 have hpre:h<+:h++[.list []]:=aa (ai _)
 obtain ⟨g,e1⟩:=pV h1
 refine aM ((e1 _ hpre).1) ?_
 refine gP (fun j w hp=>⟨[some u,some (.ref h.length),w],hp⟩) (fun j w hp=>h<+:hp∧hp[h.length]?=some (.list (mvs (rs.take j))))
  _ _ rfl ⟨hpre,ac _ _⟩ (fun _ _ _ hI=>(e1 _ hI.1).2) (fun j x w hp P hx hI hn _=>?_) (fun w hp hI=>?_)
 ·obtain ⟨hp1,hp2⟩:=hI
  obtain ⟨r,hr,hr2⟩:=ou h2 hx
  have hmem:=List.mem_of_getElem? hr
  have hj:j<rs.length:=(List.getElem?_eq_some_iff.mp hr).1
  have nr:=eV (Nat.le_refl (ap rs)) r hmem
  have lr:=nA r hmem
  have put:∀h',hp<+:h'→(mvs (rs.take j)).length<line∧P .next ⟨[some u,some (.ref h.length),some x],h'.set h.length (.list (mvs (rs.take j)++[r.mv]))⟩:=fun h' p'=>by
   refine ⟨by rw [cp,List.length_take];unfold line;lia,?_⟩
   refine hn _ _ ⟨aJ (hp1.trans p') (Nat.le_refl _),?_⟩
   rw [aq hr,fB];exact get_set (ag p' hp2)
  have app:∀h',hp<+:h'→onL (lst (.ref h.length) h') fun k xs=>xs.length<line∧P .next ⟨[some u,some (.ref h.length),some x],h'.set k (.list (xs++[r.mv]))⟩:=fun h' p'=>by
   rw [bc (ag p' hp2)];exact put h' p'
  cases eX (r.is_up (.pre hp1) x hr2) with
  | set s t=>
   refine aw (aK hp2) ?_
   exact app hp (ai _)
  | tell t=>
   refine aw (aK hp2) ?_
   exact app hp (ai _)
  | skip=>
   refine aw (aK hp2) ?_
   exact app hp (ai _)
  | @ite t a b va vb ha hb=>
   have na:=eW (r:=.ite t a b) a (.head _)
   have nb:=eW (r:=.ite t a b) b (.tail _ (.head _))
   have la:=jI (r:=.ite t a b) a (.head _)
   have lb:=jI (r:=.ite t a b) b (.tail _ (.head _))
   refine aw (aK hp2) ?_
   refine ih _ hmem a (.head _) ha (n3 la lr hz (by simp +arith only)) (n3 na nr hN (by simp +arith only)) fun h3 p3=>?_
   refine ih _ hmem b (.tail _ (.head _)) (hb.up p3) (n3 lb lr hz (by simp +arith only)) (n3 nb nr hN (by simp +arith only)) fun h4 p4=>?_
   exact app h4 (List.IsPrefix.trans p3 p4)
  | @wh t a va ha=>
   have na:=eW (r:=.wh t a) a (.head _)
   have la:=jI (r:=.wh t a) a (.head _)
   refine aw (aK hp2) ?_
   refine ih _ hmem a (.head _) ha (n3 la lr hz (by simp +arith only)) (n3 na nr hN (by simp +arith only)) fun h3 p3=>?_
   exact app h3 p3
 ·obtain ⟨hp1,hp2⟩:=hI
  rw [sI h2,List.take_length] at hp2
  refine af hp2 ?_
  exact hq _ hp1
theorem uo (rs:List Rw):SB K rs:=dK (P:=fun rs=>SB K rs) (fun rs ih=>Ab hK rs ih) rs
theorem kf {l:Bool}{u:MV}{i N:Nat}{ss ks:List (List Nat)}{Q:MV→List MO→Prop}{X:XT}{h:List MO}(hu:holds l 0 h u (ss.map .str)) (hi:h[i]?=some (.list (ks.map .str))) (hne:u≠.ref i) (hs:∀s∈ss,Gn s) (hks:∀s∈ks,Gn s) (hnd:(ks++ss).Nodup) (hz:ks.length+ss.length≤100000) (hN:1<N)
  (hq:Q .none (h.set i (.list ((ks++ss).map .str)))):K N 59 [u,.ref i] Q X h:=by
 obtain ⟨M,rfl,hM⟩:=room hN
 refine hK _ _ _ _ _ _ hY rfl rfl ?_
 refine ox hK hu (hM) ?_
 conv=>whnf
 have e1:∃g,∀o,d9 .val [u] (h.set i o)=some (ss.map .str,g)∧aW g (h.set i o):=by
  cases l with
  | false=>have hu:u=_:=hu;subst hu;exact ⟨none,fun o=>⟨rfl,trivial⟩⟩
  | true=>
   obtain ⟨j,_,rfl,e⟩:=hu
   have:i≠j:=fun q=>hne (by rw [q])
   exact ⟨_,fun o=>⟨aH (ak this e),ak this e⟩⟩
 obtain ⟨g,e1⟩:=e1
 have h0:h=h.set i (.list (ks.map .str)):=by
  obtain ⟨hlt,e⟩:=List.getElem?_eq_some_iff.mp hi
  rw [←e,List.set_getElem_self]
 dsimp only [cE]
 have e2:=(e1 (.list (ks.map .str))).1
 rw [←h0] at e2
 refine aM e2 ?_
 refine iz (fun j w=>⟨[some u,some (.ref i),w],h.set i (.list ((ks++ss.take j).map .str))⟩) (fun j w=>True)
  _ (by rw [List.take_zero,List.append_nil,←h0];rfl) trivial (fun _ _ _=>(e1 _).2) (fun j x w P hx hI hn _=>?_) (fun w hI=>?_)
 ·skip
  obtain ⟨s,hs1,rfl⟩:=Option.map_eq_some_iff.mp (List.getElem?_map ..▸hx)
  have gs:=hs s (List.mem_of_getElem? hs1)
  obtain ⟨M,rfl,_⟩:=room hM
  refine ml hK gs ?_
  conv=>whnf
  have hi2:(h.set i (.list ((ks++ss.take j).map .str)))[i]?=some (.list ((ks++ss.take j).map .str)):=get_set hi
  refine az hi2 ?_
  refine cK gs.1.ok (fun t ht=>?_) ?_
  ·rcases List.mem_append.mp ht with ht | ht
   ·exact (hks t ht).1.ok
   ·exact (hs t (List.mem_of_mem_take ht)).1.ok
  ·have hnot:s∉ks++ss.take j:=fun hm=>by
    have e:ss=ss.take j++s::ss.drop (j+1):=by
     have:=List.take_append_drop j ss
     rw [List.drop_eq_getElem_cons (List.getElem?_eq_some_iff.mp hs1).1,(List.getElem?_eq_some_iff.mp hs1).2] at this
     exact this.symm
    rw [e,←List.append_assoc] at hnd
    exact (List.nodup_append.mp hnd).2.2 s hm s (.head _) rfl
   rw [show (ks++ss.take j).contains s=false by simpa using hnot]
   refine aw (aK hi2) ?_
   refine bf (bc hi2) ?_
   refine ⟨by rw [List.length_map,List.length_append,List.length_take];unfold line;lia,?_⟩
   refine Eq.mpr (congrArg (P .next) (?_)) (hn (some (.str s)) trivial)
   dsimp only [MS.put,MS.set]
   rw [List.set_set,aq hs1,←List.append_assoc,List.map_append (l₂:=[s])]
   rfl
 ·skip
  rw [List.length_map,List.take_length]
  exact hq
end Internal
end
section
namespace Internal
noncomputable abbrev cy:List Nat:=[111,112,101,110,115]
noncomputable abbrev dc:List Nat:=[115,101,99,114,101,116,115]
noncomputable abbrev Fc:List Nat:=[114,111,119,115]
noncomputable def bn (hp:List MO) (i:Nat) (A B:List (List Nat)) (rows:List Rw):Prop:=
 ∃a b,hp[i]?=some (.attrs [(cy,.ref a),(dc,.ref b),(Fc,.tup (mvs rows))])∧hp[a]?=some (.list (A.map .str))∧hp[b]?=some (.list (B.map .str))
theorem bn.up {hp hp':List MO}{i:Nat}{A B:List (List Nat)}{rows:List Rw}(h:bn hp i A B rows) (e:hp<+:hp'):bn hp' i A B rows:=let ⟨a,b,h1,h2,h3⟩:=h;⟨a,b,ag e h1,ag e h2,ag e h3⟩
theorem holds.at_ {l:Bool}{n:Nat}{hp hp':List MO}{u:MV}{xs:List MV}(h:holds l n hp u xs) (e:∀(j:Nat) (o:MO),hp[j]?=some o→hp'[j]?=some o):holds l n hp' u xs:=h.up ⟨Nat.le_refl _,fun j o _ h=>e j o h⟩
theorem holds.ne {l:Bool}{n i:Nat}{hp:List MO}{u:MV}{xs:List MV}(h:holds l n hp u xs) (hi:hp.length≤i):u≠.ref i:=fun q=>by
 subst q
 cases l with
 | false=>exact absurd (show MV.ref i=.tup xs from h) (by intro q;cases q)
 | true=>
  obtain ⟨j,_,e,hj⟩:=h
  cases e
  exact absurd (List.getElem?_eq_some_iff.mp hj).1 (Nat.not_lt.mpr hi)
variable {K:KT}(hK:aF PP K)
include hK
theorem DD {h0:List MO}{l l' l'':Bool}{u v w:MV}{A B:List (List Nat)}{rows:List Rw}{N:Nat}{Q:MV→List MO→Prop}{X:XT}(hu:holds l 0 h0 u (A.map .str)) (hv:holds l' 0 h0 v (B.map .str)) (hw:cT l'' 0 h0 rows w) (hA:∀s∈A,Gn s) (hB:∀s∈B,Gn s) (hnd:(A++B).Nodup) (hz:A.length+B.length≤100000)
  (hg:db rows) (hn:ap rows≤7) (hl:(lns rows).length≤100000) (hN:15<N) (hq:∀h',h0<+:h'→bn h' h0.length A B rows→Q .none h'):K N 63 [.inst 0 h0.length,u,v,w] Q X (h0++[.attrs []]):=by
 obtain ⟨M,rfl,hM⟩:=room hN
 obtain ⟨kx,hkx⟩:∃kx,kx=(h0++[MO.attrs []]).length:=⟨_,rfl⟩
 have hkx':kx=h0.length+1:=by rw [hkx];simp
 have p0:h0<+:(h0++[.attrs []])++[.list []]:=aa (aa (ai _))
 refine hK _ _ _ _ _ _ dp rfl rfl ?_
 conv=>whnf
 dsimp only [cE,MS.set,MS.push,MS.put]
 rw [←hkx]
 have k0:((h0++[MO.attrs []])++[.list []])[kx]?=some (.list (([]:List (List Nat)).map .str)):=by rw [hkx];exact ac _ _
 have a0:((h0++[MO.attrs []])++[.list []])[h0.length]?=some (.attrs []):=ah (ac _ _)
 generalize (h0++[MO.attrs []])++[.list []]=h1 at *
 refine kf hK (h:=h1) (hu.at_ fun j o e=>ag p0 e) k0 (hu.ne (n1 (Nat.le_of_eq hkx'.symm) (by simp +arith only))) hA (fun s hs=>by cases hs) (by rw [List.nil_append];exact (List.nodup_append.mp hnd).1) (by simp only [List.length_nil];exact n1 hz (by simp +arith only)) (Nat.le_trans (nb rfl) hM) ?_
 rw [List.nil_append]
 have hkk:kx≠h0.length:=Nat.ne_of_gt (n1 (Nat.le_of_eq hkx'.symm) (by simp +arith only))
 have p1:h0<+:h1.set kx (.list (A.map .str)):=aJ p0 (n1 (Nat.le_of_eq hkx'.symm) (by simp +arith only))
 have k1:(h1.set kx (.list (A.map .str)))[kx]?=some (.list (A.map .str)):=get_set k0
 have a1:=ak (o':=.list (A.map .str)) hkk a0
 generalize h1.set kx (.list (A.map .str))=h2 at *
 refine az k1 ?_
 refine kf hK (h:=h2) (hv.at_ fun j o e=>ag p1 e) k1 (hv.ne (n1 (Nat.le_of_eq hkx'.symm) (by simp +arith only))) hB hA hnd hz (Nat.le_trans (nb rfl) hM) ?_
 have p2:h0<+:h2.set kx (.list ((A++B).map .str)):=aJ p1 (n1 (Nat.le_of_eq hkx'.symm) (by simp +arith only))
 have k2:(h2.set kx (.list ((A++B).map .str)))[kx]?=some (.list ((A++B).map .str)):=get_set k1
 have a2:=ak (o':=.list ((A++B).map .str)) hkk a1
 generalize h2.set kx (.list ((A++B).map .str))=h3 at *
 obtain ⟨xs,hw1,hw2⟩:=hw
 refine ox hK (h:=h3) (hw1.at_ fun j o e=>ag p2 e) (Nat.le_trans (nb rfl) hM) ?_
 refine rq hK rows (l:=l'') (h:=h3) hg (cT.up ⟨xs,hw1,hw2⟩ p2) (by lia) (n2 hN hn (by simp +arith only)) fun h4 p4=>?_
 have p4:h3<+:h4:=p4
 have p3:=p2.trans p4
 have k3:=ag p4 k2
 have a3:=ag p4 a2
 refine af k3 ?_
 rw [cA (by rw [List.length_map];exact Int.natCast_nonneg _)]
 dsimp only [cE,MS.set,MS.push,MS.put]
 have a4:(h4++[MO.list (((A++B).map MV.str).take (((A.map MV.str).length:Nat):Int).toNat)])[h0.length]?=some (.attrs []):=ah a3
 have l0:h0.length<h4.length:=(List.getElem?_eq_some_iff.mp a3).1
 refine aR a4 ?_
 have eA:((A++B).map MV.str).take (((A.map MV.str).length:Nat):Int).toNat=A.map .str:=by
  rw [List.map_append];exact List.take_left ..
 have eB:((A++B).map MV.str).drop (((A.map MV.str).length:Nat):Int).toNat=B.map .str:=by
  rw [List.map_append];exact List.drop_left ..
 rw [eA] at a4
 rw [eA]
 have p5:h0<+:(h4++[MO.list (A.map .str)]).set h0.length (.attrs [(cy,.ref h4.length)]):=aJ (aa p3) (Nat.le_refl _)
 have a5:((h4++[MO.list (A.map .str)]).set h0.length (.attrs [(cy,.ref h4.length)]))[h0.length]?=some (.attrs [(cy,.ref h4.length)]):=get_set a4
 have k5:((h4++[MO.list (A.map .str)]).set h0.length (.attrs [(cy,.ref h4.length)]))[kx]?=some (.list ((A++B).map .str)):=ak (Ne.symm hkk) (ah k3)
 have o5:((h4++[MO.list (A.map .str)]).set h0.length (.attrs [(cy,.ref h4.length)]))[h4.length]?=some (.list (A.map .str)):=ak (Nat.ne_of_lt l0) (ac _ _)
 have l5:h4.length<((h4++[MO.list (A.map .str)]).set h0.length (.attrs [(cy,.ref h4.length)])).length:=by rw [List.length_set,List.length_append];exact Nat.lt_succ_self _
 dsimp only [cE,MS.set,MS.push,MS.put,bA]
 generalize (h4++[MO.list (A.map .str)]).set h0.length (.attrs [(cy,.ref h4.length)])=h5 at *
 refine ⟨by decide,?_⟩
 refine af k5 ?_
 rw [bH (by rw [List.length_map];exact Int.natCast_nonneg _),eB]
 dsimp only [cE,MS.set,MS.push,MS.put]
 have a6:=ah (o':=MO.list (B.map .str)) a5
 refine aR a6 ?_
 refine ⟨Nat.le_of_ble_eq_true rfl,?_⟩
 have p6:h0<+:(h5++[MO.list (B.map .str)]).set h0.length (.attrs [(cy,.ref h4.length),(dc,.ref h5.length)]):=aJ (aa p5) (Nat.le_refl _)
 have a7:((h5++[MO.list (B.map .str)]).set h0.length (.attrs [(cy,.ref h4.length),(dc,.ref h5.length)]))[h0.length]?=some (.attrs [(cy,.ref h4.length),(dc,.ref h5.length)]):=get_set a6
 have o7:((h5++[MO.list (B.map .str)]).set h0.length (.attrs [(cy,.ref h4.length),(dc,.ref h5.length)]))[h4.length]?=some (.list (A.map .str)):=ak (Nat.ne_of_lt l0) (ah o5)
 have s7:((h5++[MO.list (B.map .str)]).set h0.length (.attrs [(cy,.ref h4.length),(dc,.ref h5.length)]))[h5.length]?=some (.list (B.map .str)):=ak (Nat.ne_of_lt (n2 l5 l0 (by simp +arith only))) (ac _ _)
 show K _ 60 [w] _ _ ((h5++[MO.list (B.map .str)]).set h0.length (.attrs [(cy,.ref h4.length),(dc,.ref h5.length)]))
 generalize (h5++[MO.list (B.map .str)]).set h0.length (.attrs [(cy,.ref h4.length),(dc,.ref h5.length)])=h6 at *
 have l6:h4.length<h6.length∧h5.length<h6.length:=⟨(List.getElem?_eq_some_iff.mp o7).1,(List.getElem?_eq_some_iff.mp s7).1⟩
 refine uo hK rows (cT.up ⟨xs,hw1,hw2⟩ p6) hl (n2 hN hn (by simp +arith only)) fun h7 p7=>?_
 have p7:h6<+:h7:=p7
 have a8:=ag p7 a7
 refine aR a8 ?_
 refine ⟨Nat.le_of_ble_eq_true rfl,?_⟩
 refine hq _ (aJ (p6.trans p7) (Nat.le_refl _)) ⟨h4.length,h5.length,get_set a8,ak (Nat.ne_of_lt l0) (ag p7 o7),ak (Nat.ne_of_lt (n2 l5 l0 (by simp +arith only))) (ag p7 s7)⟩
theorem xC {i:Nat}{A B:List (List Nat)}{rows:List Rw}{N:Nat}{Q:MV→List MO→Prop}{X:XT}{h:List MO}(hp:bn h i A B rows) (hN:0<N) (hq:Q (.tup [.ref h.length,.ref (h.length+1)]) (h++[.list (A.map .str)]++[.list (B.map .str)])):K N 66 [.inst 0 i] Q X h:=by
 obtain ⟨M,rfl,hM⟩:=room hN
 obtain ⟨a,b,h1,h2,h3⟩:=hp
 refine hK _ _ _ _ _ _ fH rfl rfl ?_
 refine aR h1 ?_
 refine az h2 ?_
 refine aR (ah h1) ?_
 refine az (ah h3) ?_
 rw [←show (h++[MO.list (A.map .str)]).length=h.length+1 by simp] at hq
 exact hq
theorem iC {i:Nat}{A B:List (List Nat)}{rows:List Rw}{N:Nat}{Q:MV→List MO→Prop}{X:XT}{h:List MO}(hp:bn h i A B rows) (hN:0<N) (hq:Q (.tup (mvs rows)) h):K N 67 [.inst 0 i] Q X h:=by
 obtain ⟨M,rfl,hM⟩:=room hN
 obtain ⟨a,b,h1,h2,h3⟩:=hp
 refine hK _ _ _ _ _ _ eR rfl rfl ?_
 refine aR h1 ?_
 exact hq
end Internal
end
section
namespace Internal
mutual
noncomputable def Rw.size:Rw→Nat
 | .ite _ a b=>aj a+aj b+1
 | .wh _ a=>aj a+1
 | _=>1
noncomputable def aj:List Rw→Nat
 | []=>0
 | r::rs=>r.size+aj rs
end
noncomputable abbrev Num:=Int × Rw × List Tm
mutual
noncomputable def Rw.num (k:Int) (ab:List Tm):Rw→List Num
 | .set s t=>[(k,.set s t,ab)]
 | .tell t=>[(k,.tell t,ab)]
 | .skip=>[(k,.skip,ab)]
 | .ite t a b=>(k,.ite t a b,ab)::(nums (k+1) (ab++[t]) a++nums (k+1+aj a) (ab++[t]) b)
 | .wh t a=>(k,.wh t a,ab)::nums (k+1) (ab++[t]) a
noncomputable def nums (k:Int) (ab:List Tm):List Rw→List Num
 | []=>[]
 | r::rs=>r.num k ab++nums (k+r.size) ab rs
end
mutual
theorem Rw.num_len:∀(r:Rw) (k:Int) (ab:List Tm),(r.num k ab).length=r.size
 | .set s t,k,ab=>rfl
 | .tell t,k,ab=>rfl
 | .skip,k,ab=>rfl
 | .ite t a b,k,ab=>by
  show (nums (k+1) (ab++[t]) a++nums (k+1+aj a) (ab++[t]) b).length+1=aj a+aj b+1
  rw [List.length_append,bq a,bq b]
 | .wh t a,k,ab=>by
  show (nums (k+1) (ab++[t]) a).length+1=aj a+1
  rw [bq a]
theorem bq:∀(rs:List Rw) (k:Int) (ab:List Tm),(nums k ab rs).length=aj rs
 | [],k,ab=>rfl
 | r::rs,k,ab=>by
  show (r.num k ab++nums (k+r.size) ab rs).length=r.size+aj rs
  rw [List.length_append,r.num_len,bq rs]
end
theorem eY:∀(a b:List Rw),aj (a++b)=aj a+aj b
 | [],b=>(Nat.zero_add _).symm
 | r::a,b=>by show r.size+aj (a++b)=r.size+aj a+aj b;rw [eY a b,Nat.add_assoc]
theorem mo:∀(a b:List Rw) (k:Int) (ab:List Tm),nums k ab (a++b)=nums k ab a++nums (k+aj a) ab b
 | [],b,k,ab=>by show nums k ab b=nums (k+(0:Nat)) ab b;rw [Int.natCast_zero,Int.add_zero]
 | r::a,b,k,ab=>by
  show r.num k ab++nums (k+r.size) ab (a++b)=r.num k ab++nums (k+r.size) ab a++nums (k+(r.size+aj a:Nat)) ab b
  rw [mo a b,List.append_assoc,Int.natCast_add,Int.add_assoc]
noncomputable def cU (k:Int) (ab:List Tm):List (List Rw)→List Num
 | []=>[]
 | b::bs=>nums k ab b++cU (k+aj b) ab bs
noncomputable def bt:List (List Rw)→Nat
 | []=>0
 | b::bs=>aj b+bt bs
theorem jJ:∀(a b:List (List Rw)) (k:Int) (ab:List Tm),cU k ab (a++b)=cU k ab a++cU (k+bt a) ab b
 | [],b,k,ab=>by show cU k ab b=cU (k+(0:Nat)) ab b;rw [Int.natCast_zero,Int.add_zero]
 | r::a,b,k,ab=>by
  show nums k ab r++cU (k+aj r) ab (a++b)=nums k ab r++cU (k+aj r) ab a++cU (k+(aj r+bt a:Nat)) ab b
  rw [jJ a b,List.append_assoc,Int.natCast_add,Int.add_assoc]
theorem dL:∀(a b:List (List Rw)),bt (a++b)=bt a+bt b
 | [],b=>(Nat.zero_add _).symm
 | r::a,b=>by show aj r+bt (a++b)=aj r+bt a+bt b;rw [dL a b,Nat.add_assoc]
noncomputable def Rw.tm:Rw→Tm
 | .ite t _ _=>t
 | .wh t _=>t
 | _=>.num 0
theorem xD (r:Rw) (k:Int) (ab:List Tm):r.num k ab=(k,r,ab)::cU (k+1) (ab++[r.tm]) r.subs:=by
 cases r with
 | ite t a b=>
  show _=(k,Rw.ite t a b,ab)::(nums (k+1) (ab++[t]) a++(nums (k+1+aj a) (ab++[t]) b++[]))
  rw [List.append_nil];rfl
 | wh t a=>
  show _=(k,Rw.wh t a,ab)::(nums (k+1) (ab++[t]) a++[])
  rw [List.append_nil];rfl
 | _=>rfl
theorem oy (r:Rw):r.size=bt r.subs+1:=by
 cases r<;>rfl
noncomputable def eZ (q:Num):MV:=.tup [.int q.1,q.2.1.mv,.tup (q.2.2.map Tm.mv)]
theorem nC {n:Nat}{hp:List MO}:∀{rs:List Rw}{xs:List MV},(∀r∈rs,∀x,r.is false n hp x→x=r.mv)→cL false n hp rs xs→xs=mvs rs
 | [],xs,_,h=>h
 | r::rs,xs,ih,h=>by
  obtain ⟨y,ys,rfl,h2,h3⟩:=h
  rw [ih r (.head _) y h2,nC (fun q hq=>ih q (.tail _ hq)) h3];rfl
theorem nD {n:Nat}{hp:List MO}(rs:List Rw):∀{u:MV},cT false n hp rs u→u=.tup (mvs rs):=by
 refine dK (P:=fun rs=>∀{u:MV},cT false n hp rs u→u=.tup (mvs rs)) (fun rs ih u h=>?_) rs
 obtain ⟨xs,h1,h2⟩:=h
 have h1:u=.tup xs:=h1
 rw [h1,nC (fun r hr x hx=>?_) h2]
 cases eX hx with
 | ite ha hb=>rw [ih _ hr _ (.head _) ha,ih _ hr _ (.tail _ (.head _)) hb];rfl
 | wh ha=>rw [ih _ hr _ (.head _) ha];rfl
 | _=>rfl
theorem uq {r:Rw}:∀b∈r.subs,aj b<r.size:=by
 cases r with
 | ite t x y=>
  intro b hb
  show aj b<aj x+aj y+1
  rcases List.mem_cons.mp hb with rfl | hb
  ·exact by simp +arith only
  ·rw [List.mem_singleton.mp hb];exact by simp +arith only
 | wh t x=>intro b hb;rw [List.mem_singleton.mp hb];exact Nat.lt_succ_self _
 | _=>intro b hb;cases hb
theorem mq (rs:List Rw) (j:Nat):aj (rs.take j)≤aj rs:=by
 have e:=eY (rs.take j) (rs.drop j)
 rw [List.take_append_drop] at e
 exact n1 (Nat.le_of_eq e.symm) (by simp +arith only)
theorem kg (rs:List (List Rw)) (j:Nat):bt (rs.take j)≤bt rs:=by
 have e:=dL (rs.take j) (rs.drop j)
 rw [List.take_append_drop] at e
 exact n1 (Nat.le_of_eq e.symm) (by simp +arith only)
variable {K:KT}
noncomputable def NU (K:KT) (rs:List Rw):Prop:=∀{N:Nat}{k:Int}{ab:List Tm}{Q:MV→List MO→Prop}{X:XT}{h:List MO},aj rs≤1000000→ab.length+ap rs≤1000→ap rs+1<N→(∀h',h<+:h'→h'[h.length]?=some (.list ((nums k ab rs).map eZ))→Q (.ref h.length) h')→K N 61 [.tup (mvs rs),.int k,.tup (ab.map Tm.mv)] Q X h
variable (hK:aF PP K)
include hK
theorem Ac (rs:List Rw) (ih:∀r∈rs,∀b∈r.subs,NU K b):NU K rs:=by
 intro N k ab Q X h hz hab hN hq
 obtain ⟨M,rfl,hM⟩:=room hN
 refine hK _ _ _ _ _ _ j6 rfl rfl ?_
 refine sx (fun j w5 w6 w7 hp=>⟨[some (.tup (mvs rs)),some (.int k),some (.tup (ab.map Tm.mv)),some (.ref h.length),some (.int (k+aj (rs.take j))),w5,w6,w7],hp⟩) (fun j w5 w6 w7 hp=>h<+:hp∧hp[h.length]?=some (.list ((nums k ab (rs.take j)).map eZ)))
  none none none _ (by rw [List.take_zero];show _=(⟨[_,_,_,_,some (.int (k+(0:Nat))),_,_,_],_⟩:MS);rw [Int.natCast_zero,Int.add_zero];rfl) ⟨aa (ai _),ac _ _⟩ (fun _ _ _ _ _ _=>trivial) (fun j x w5 w6 w7 hp P hx hI hn _=>?_) (fun w5 w6 w7 hp hI=>?_)
 ·obtain ⟨hp1,hp2⟩:=hI
  obtain ⟨r,hr,rfl⟩:=sF hx
  have hmem:=List.mem_of_getElem? hr
  have v:=eX (ik (n:=0) (hp:=hp.set h.length (.list ((nums k ab (rs.take j)).map eZ++[eZ (k+aj (rs.take j),r,ab)]))) r)
  have zr:=mq rs (j+1)
  have nr:=eV (Nat.le_refl (ap rs)) r hmem
  rw [aq hr,eY] at zr
  have zr:aj (rs.take j)+(r.size+0)≤aj rs:=zr
  refine aw (aK hp2) ?_
  refine bf (bc hp2) ?_
  refine ⟨by rw [List.length_map,bq];unfold line;lia,?_⟩
  refine jk hK v (n1 hN (by simp +arith only)) fun us hus=>?_
  dsimp only [MS.set,MS.put]
  refine aM (aH (ac _ _)) ?_
  generalize hk':k+(aj (rs.take j):Int)=k'
  generalize hpre':nums k ab (rs.take j)=pre
  rw [hk',hpre'] at hus
  rw [hpre'] at hp2
  generalize hH:hp.set h.length (.list (pre.map eZ++[eZ (k',r,ab)]))=H at hus
  have hs:=mn hus
  have hH1:h<+:H:=by rw [←hH];exact aJ hp1 (Nat.le_refl _)
  have hH2:H[h.length]?=some (.list ((pre++[(k',r,ab)]).map eZ)):=by rw [←hH,List.map_append];exact get_set hp2
  have hpl:pre.length=aj (rs.take j):=by rw [←hpre'];exact bq _ _ _
  refine fz (fun i w6 w7 hp=>⟨[some (.tup (mvs rs)),some (.int k),some (.tup (ab.map Tm.mv)),some (.ref h.length),some (.int (k'+1+bt (r.subs.take i))),some r.mv,w6,w7],hp⟩) (fun i w6 w7 hp=>A3 (h<+:hp) (hp[H.length]?=some (.list us)) (hp[h.length]?=some (.list ((pre++(k',r,ab)::cU (k'+1) (ab++[r.tm]) (r.subs.take i)).map eZ))))
   w6 w7 (H++[.list us]) (by rw [List.take_zero,←hH,←hk'];show _=(⟨[_,_,_,_,some (.int (_+1+(0:Nat))),_,_,_],_⟩:MS);rw [Int.natCast_zero,Int.add_zero];rfl) ⟨aa hH1,ac _ _,ah hH2⟩ (fun _ _ _ _ hI=>(hH▸hI.h2)) (fun i x w6 w7 hp' P hx hI hn _=>?_) (fun w6 w7 hp' hI=>?_)
  ·obtain ⟨q1,q2,q3⟩:=hI
   obtain ⟨b,hb,hb2⟩:=jj hus hx
   have hbm:=List.mem_of_getElem? hb
   have nb:=eW b hbm
   have sb:=uq b hbm
   have zt:=kg r.subs (i+1)
   have se:=oy r
   rw [aq hb,dL] at zt
   have zt:bt (r.subs.take i)+(aj b+0)≤bt r.subs:=zt
   have e:=nD b hb2
   subst e
   have hr1:∃w rest,r.mv=.tup (.str w::r.tm.mv::rest):=by
    cases r with
    | ite t x y=>exact ⟨_,_,rfl⟩
    | wh t x=>exact ⟨_,_,rfl⟩
    | _=>cases hbm
   obtain ⟨wd,rest,hr1⟩:=hr1
   rw [hr1]
   conv=>whnf
   rw [aU (by decide) (by simp only [List.length_cons];lia)]
   refine ⟨aZ (by rw [List.length_map];show _+1≤_;exact n1 hab (by simp +arith only)),?_⟩
   rw [show (ab.map Tm.mv++[r.tm.mv])=(ab++[r.tm]).map Tm.mv by rw [List.map_append];rfl]
   refine ih r hmem b hbm (h:=hp') (n3 sb zr hz (by simp +arith only)) (by rw [List.length_append];show ab.length+1+_≤_;exact n3 nb nr hab (by simp +arith only)) (n3 nb nr hN (by simp +arith only)) fun h3 p3 e3=>?_
   have p3:hp'<+:h3:=p3
   have f3:=ag p3 q3
   have l1:h.length<hp'.length:=(List.getElem?_eq_some_iff.mp q3).1
   refine aw (gT f3) ?_
   refine bf (bc f3) ?_
   refine bf (bc e3) ?_
   have hlen:(pre++(k',r,ab)::cU (k'+1) (ab++[r.tm]) (r.subs.take i)).length+aj b≤1000000:=by
    have:∀(bs:List (List Rw)) (k:Int) (ab:List Tm),(cU k ab bs).length=bt bs:=by
     intro bs
     induction bs with
     | nil=>intro _ _;rfl
     | cons b bs ih=>intro k ab;show (nums k ab b++cU _ ab bs).length=aj b+bt bs;rw [List.length_append,bq,ih]
    rw [List.length_append,List.length_cons,this,hpl];lia
   refine ⟨aZ (by rw [List.length_map,List.length_map,bq];exact hlen),?_⟩
   refine az (ak (o':=.list _) (Nat.ne_of_lt l1) e3) ?_
   refine Eq.mpr (congrArg (P .next) (by
    rw [aq hb,dL,List.length_map,bq]
    show _=(⟨[_,_,_,_,some (.int (k'+1+(bt (r.subs.take i)+(aj b+0):Nat))),_,_,_],_⟩:MS)
    rw [Nat.add_zero,Int.natCast_add,←Int.add_assoc,←hr1];rfl)) (hn _ _ _ ⟨aJ (q1.trans p3) (Nat.le_refl _),ak ?_ (ag p3 q2),?_⟩)
   ·intro q
    have l2:h.length<H.length:=(List.getElem?_eq_some_iff.mp hH2).1
    exact nf (n2 l2 (Nat.le_of_eq q.symm) (by simp +arith only))
   ·rw [aq hb,jJ,get_set f3,←List.map_append]
    show _=some (MO.list ((pre++(k',r,ab)::(cU (k'+1) (ab++[r.tm]) (r.subs.take i)++(nums (k'+1+bt (r.subs.take i)) (ab++[r.tm]) b++[]))).map eZ))
    rw [List.append_nil,List.append_assoc,List.cons_append]
  ·obtain ⟨q1,q2,q3⟩:=hI
   rw [hs,List.take_length] at q3
   refine Eq.mpr (congrArg (P .next) (?_)) (hn (some r.mv) w6 w7 hp' ⟨q1,?_⟩)
   ·rw [hs,List.take_length,aq hr,eY]
    show _=(⟨[_,_,_,_,some (.int (k+(aj (rs.take j)+(r.size+0):Nat))),_,_,_],_⟩:MS)
    rw [Nat.add_zero,oy r,Int.natCast_add,Int.natCast_add,←hk']
    show (⟨[_,_,_,_,some (.int (k+_+1+_)),_,_,_],_⟩:MS)=_
    rw [show ∀a b:Int,k+a+1+b=k+(a+(b+(1:Nat))) from fun a b=>by lia]
   ·rw [q3,aq hr,mo,hpre',hk']
    show _=some (MO.list ((pre++(r.num k' ab++[])).map eZ))
    rw [List.append_nil,xD]
 ·obtain ⟨hp1,hp2⟩:=hI
  rw [cp,List.take_length] at hp2
  exact hq _ hp1 hp2
theorem dM (rs:List Rw):NU K rs:=dK (P:=fun rs=>NU K rs) (fun rs ih=>Ac hK rs ih) rs
end Internal
end
section
namespace Internal
noncomputable def Rw.nms:Rw→List (List Nat)
 | .set s t=>s::aC (an t)
 | .tell t=>aC (an t)
 | .skip=>[]
 | .ite t _ _=>aC (an t)
 | .wh t _=>aC (an t)
noncomputable def bG (qs:List Num):List (List Nat):=qs.flatMap fun q=>q.2.1.nms
theorem f7 (l:List (List Nat)):(aC l).length≤l.length:=jh fun x hx=>hx
theorem Ad {r:Rw}(h:r.good):r.nms.length≤9:=by
 have key:∀t:Tm,t.good→(aC (an t)).length≤8:=fun t ht=>Nat.le_trans (f7 _) (Nat.le_trans (cw t) ht.lv)
 cases r with
 | set s t=>exact Nat.succ_le_succ (key t h.2)
 | tell t=>exact Nat.le_succ_of_le (key t h)
 | skip=>exact Nat.zero_le _
 | ite t a b=>exact Nat.le_succ_of_le (key t h.1)
 | wh t a=>exact Nat.le_succ_of_le (key t h.1)
theorem mr:∀{qs:List Num},(∀q∈qs,q.2.1.good)→(bG qs).length≤9 * qs.length
 | [],_=>Nat.le_refl _
 | q::qs,h=>by
  have h1:=Ad (h q (.head _))
  have h2:=mr (qs:=qs) fun x hx=>h x (.tail _ hx)
  show (q.2.1.nms++bG qs).length≤_
  rw [List.length_append,List.length_cons];exact n2 h2 h1 (by simp +arith only)
theorem cz (a b:List Num):bG (a++b)=bG a++bG b:=List.flatMap_append ..
mutual
theorem Rw.num_good:∀{r:Rw}{k:Int}{ab:List Tm},r.good→∀q∈r.num k ab,q.2.1.good
 | .set s t,k,ab,h,q,hq=>by rw [List.mem_singleton.mp hq];exact h
 | .tell t,k,ab,h,q,hq=>by rw [List.mem_singleton.mp hq];exact h
 | .skip,k,ab,h,q,hq=>by rw [List.mem_singleton.mp hq];exact h
 | .ite t a b,k,ab,h,q,hq=>by
  rcases List.mem_cons.mp hq with rfl | hq
  ·exact h
  ·rcases List.mem_append.mp hq with hq | hq
   ·exact cB h.2.1 q hq
   ·exact cB h.2.2 q hq
 | .wh t a,k,ab,h,q,hq=>by
  rcases List.mem_cons.mp hq with rfl | hq
  ·exact h
  ·exact cB h.2 q hq
theorem cB:∀{rs:List Rw}{k:Int}{ab:List Tm},db rs→∀q∈nums k ab rs,q.2.1.good
 | [],k,ab,h,q,hq=>by cases hq
 | r::rs,k,ab,h,q,hq=>by
  rcases List.mem_append.mp hq with hq | hq
  ·exact r.num_good h.1 q hq
  ·exact cB h.2 q hq
end
variable {K:KT}(hK:aF PP K)
include hK
theorem rt {r:Rw}{N:Nat}{Q:MV→List MO→Prop}{X:XT}{h:List MO}(hg:r.good) (hN:5<N) (hq:∀h',h<+:h'→h'[h.length]?=some (.list (r.nms.map .str))→Q (.ref h.length) h'):K N 62 [r.mv] Q X h:=by
 obtain ⟨M,rfl,hM⟩:=room hN
 have fl:∀(t:Tm) (pre:List (List Nat)) (hp:List MO),t.good→r.fm=t.mv→r.nms=pre++aC (an t)→pre.length≤1→hp[h.length]?=some (.list (pre.map .str))→h<+:hp→
   aD K M [.expr (.mth .extend (.var 1) [.call 1 [.call 26 [.var 0]]]),.ret (.var 1)] (fin Q) (fun c m=>X c m.heap) ⟨[some r.mv,some (.ref h.length)],hp⟩:=fun t pre hp ht hf hr hl he hpre=>by
  refine aw (gT he) ?_
  refine ke hK (eX (ik (n:=0) r)) (Nat.le_trans (nb rfl) hM) ?_
  rw [hf]
  refine iB hK (by have:=ht.2;exact n2 this hN (by simp +arith only)) ht.1 (by have:=ht.lv;exact Nat.le_trans this (nb rfl)) fun i h2 p2 l2 e2=>?_
  have p2:hp<+:h2:=p2
  have he2:=ag p2 he
  refine bf (bc he2) ?_
  refine bf (bc e2) ?_
  have:=f7 (an t)
  have:=cw t
  have:=ht.lv
  refine ⟨aZ (by rw [List.length_map,List.length_map];lia),?_⟩
  exact hq _ (aJ (hpre.trans p2) (Nat.le_refl _)) (by rw [hr,List.map_append];exact get_set he2)
 have p1:h<+:h++[.list []]:=aa (ai _)
 have e1:(h++[MO.list []])[h.length]?=some (.list (([]:List (List Nat)).map .str)):=ac _ _
 refine hK _ _ _ _ _ _ j7 rfl rfl ?_
 cases r with
 | set s t=>
  refine aw (aK e1) ?_
  refine bf (bc e1) ?_
  refine ⟨Nat.lt_of_lt_of_le (Nat.zero_lt_succ 0) (aZ (Nat.le_of_ble_eq_true rfl)),?_⟩
  exact fl t [s] _ hg.2 rfl rfl (Nat.le_refl _) (get_set e1) (aJ p1 (Nat.le_refl _))
 | tell t=>exact fl t [] _ hg rfl rfl (Nat.zero_le _) e1 p1
 | skip=>exact hq _ p1 e1
 | ite t a b=>exact fl t [] _ hg.1 rfl rfl (Nat.zero_le _) e1 p1
 | wh t a=>exact fl t [] _ hg.1 rfl rfl (Nat.zero_le _) e1 p1
noncomputable def av (A B:List (List Nat)) (rows:List Rw):List (List Nat):=A++B++bG (nums 1 [] rows)
theorem f9 {i:Nat}{A B:List (List Nat)}{rows:List Rw}{N:Nat}{Q:MV→List MO→Prop}{X:XT}{h:List MO}(hp:bn h i A B rows) (hg:db rows) (hs:aj rows≤400) (hl:A.length+B.length≤300) (h64:(aC (av A B rows)).length<64) (hn:ap rows≤7) (hN:10<N)
  (hq:∀h' r,h<+:h'→h.length≤r→h'[r]?=some (.list ((aC (av A B rows)).map .str))→Q (.ref r) h'):K N 64 [.inst 0 i] Q X h:=by
 obtain ⟨M,rfl,hM⟩:=room hN
 obtain ⟨a,b,h1,h2,h3⟩:=id hp
 have ln:(nums 1 [] rows).length=aj rows:=bq rows 1 []
 have lz:=mr (qs:=nums 1 [] rows) (cB hg)
 have lt:∀j,(bG ((nums 1 [] rows).take j)).length≤9 * 400:=fun j=>by
  have e:=cz ((nums 1 [] rows).take j) ((nums 1 [] rows).drop j)
  rw [List.take_append_drop] at e
  have:=congrArg List.length e
  rw [List.length_append] at this
  lia
 refine hK _ _ _ _ _ _ eP rfl rfl ?_
 dsimp only [cE]
 refine aR h1 ?_
 refine aR h1 ?_
 conv=>whnf
 rw [h2,h3]
 refine ⟨bQ (Nat.le_trans hl (nb rfl)),?_⟩
 have p1:h<+:h++[.list (A.map .str++B.map .str)]:=aa (ai _)
 have e1:(h++[MO.list (A.map .str++B.map .str)])[h.length]?=some (.list ((A++B).map .str)):=b9 _ _ _
 refine aR (ag p1 h1) ?_
 refine dM hK rows (k:=1) (ab:=[]) (Nat.le_trans hs (nb rfl)) (by show 0+_≤_;exact n1 hn (by simp +arith only)) (n2 hN hn (by simp +arith only)) fun h4 p4 e4=>?_
 have p4:h++[.list (A.map .str++B.map .str)]<+:h4:=p4
 refine aM (aH e4) ?_
 refine om (fun j f w2 w3 w4 hp=>⟨[some (.inst 0 i),some (.ref f),w2,w3,w4],hp⟩) (fun j f w2 w3 w4 hp=>A3 (h4<+:hp) (h.length≤f) (hp[f]?=some (.list ((A++B++bG ((nums 1 [] rows).take j)).map .str))))
  h.length _ _ _ _ rfl ⟨ai _,Nat.le_refl _,by rw [List.take_zero];show _=some (MO.list ((A++B++[]).map .str));rw [List.append_nil];exact ag p4 e1⟩ (fun _ _ _ _ _ _ hI=>ag hI.h1 e4) (fun j x f w2 w3 w4 hp' P hx hI hn _=>?_) (fun f w2 w3 w4 hp' hI=>?_)
 ·obtain ⟨q1,q2,q3⟩:=hI
  obtain ⟨q,hq1,rfl⟩:=Option.map_eq_some_iff.mp (List.getElem?_map ..▸hx)
  have hqm:=List.mem_of_getElem? hq1
  refine ⟨rfl,?_⟩
  refine rt hK (cB hg q hqm) (Nat.le_trans (nb rfl) hM) fun h5 p5 e5=>?_
  have p5:hp'<+:h5:=p5
  conv=>whnf
  rw [ag p5 q3,e5]
  have:=lt (j+1)
  rw [aq hq1,cz,List.length_append] at this
  have e:bG [q]=q.2.1.nms:=List.append_nil _
  rw [e] at this
  refine ⟨bQ (by rw [List.length_append,List.length_append];exact n2 this hl (by simp +arith only)),?_⟩
  refine hn h5.length _ _ _ _ ⟨aa (q1.trans p5),?_,?_⟩
  ·have:=p1.length_le;have:=p4.length_le;have:=q1.length_le;have:=p5.length_le;lia
  ·rw [aq hq1,cz,e,←List.append_assoc];exact b9 _ _ _
 ·obtain ⟨q1,q2,q3⟩:=hI
  rw [List.length_map,List.take_length] at q3
  refine af q3 ?_
  exact .mk (av A B rows) rfl h64 (by show (A++B++bG (nums 1 [] rows)).length<4000;rw [List.length_append,List.length_append];lia) (hq _ _ (aa ((p1.trans p4).trans q1)) (by have:=p1.length_le;have:=p4.length_le;have:=q1.length_le;lia) (ac _ _))
end Internal
end
section
namespace Internal
noncomputable abbrev aY:List Nat:=[110,117,109,98,101,114,115]
noncomputable abbrev cM:List Nat:=[116,117,114,110,115]
noncomputable abbrev nE:List Nat:=[115,97,105,100]
theorem de {c i:Nat}{x:List Nat}{hp:List MO}{es:List (List Nat × MV)}(e:hp[i]?=some (.attrs es)) (hx:(aE es x).isNone=true):yC c x (.inst c i) hp=true:=by
 show (match hp[i]? with
  | some (.attrs es)=>c==c&&(aE es x).isNone
  | _=>false)=true
 rw [e]
 show (c==c&&(aE es x).isNone)=true
 rw [hx,beq_self_eq_true];rfl
theorem DE {hp:List MO}{r:Nat}{es:List (List Nat × MV)}(e:hp[r]?=some (.dict es)):dct (.ref r) hp=some (r,es):=by
 show yz r hp[r]?=_;rw [e];rfl
theorem DF {hp:List MO}{r:Nat}{es:List (List Nat × MV)}(e:hp[r]?=some (.dict es)):kP .get (.ref r) hp=true:=by
 show (yz r hp[r]?).isSome=true;rw [e];rfl
inductive Wh (hp:List MO) (b:Int):MV→Bool→Prop
 | int (k:Int):Wh hp b (.int k) (decide (0≤k)&&decide (k≤b))
 | bool (c:Bool):Wh hp b (.bool c) false
 | none:Wh hp b .none false
 | str (s:List Nat):Wh hp b (.str s) false
 | list {r:Nat} {xs:List MV} (e:hp[r]?=some (.list xs)):Wh hp b (.ref r) false
theorem gc:∀{es:List (List Nat × MV)}{k:List Nat}{v:MV},k∉es.map (·.1)→bA es k v=es++[(k,v)]
 | [],_,_,_=>rfl
 | (a,w)::es,k,v,h=>by
  have h1:(a==k)=false:=by
   cases q:a==k with
   | false=>rfl
   | true=>exact absurd (by rw [eq_of_beq q];exact .head _) h
  show (match a==k with | true=>_ | false=>_)=_
  rw [h1]
  show (a,w)::bA es k v=(a,w)::(es++[(k,v)])
  rw [gc fun q=>h (.tail _ q)]
noncomputable def bI (es:List (List Nat × MV)) (ns:List (List Nat)):List (List Nat × MV):=ns.map fun n=>(n,(aE es n).getD (.int 0))
theorem rA (es:List (List Nat × MV)) (ns:List (List Nat)):(bI es ns).map (·.1)=ns:=by
 unfold bI;rw [List.map_map];exact List.map_id ns
variable {K:KT}(hK:aF PP K)
include hK
theorem FG {v:MV}{b:Int}{t:Bool}{N:Nat}{Q:MV→List MO→Prop}{X:XT}{h:List MO}(hv:Wh h b v t) (hN:0<N) (hq:Q (.bool t) h):K N 22 [v,.int b] Q X h:=by
 obtain ⟨M,rfl,hM⟩:=room hN
 refine hK _ _ _ _ _ _ fR rfl rfl ?_
 cases hv with
 | int k=>
  conv=>whnf
  cases h1:decide (0≤k) with
  | false=>rw [h1] at hq;exact hq
  | true=>
   rw [h1] at hq
   exact hq
 | bool c=>exact hq
 | none=>exact hq
 | str s=>exact hq
 | @list r xs e=>
  conv=>whnf
  dsimp only [cE]
  rw [show jx h (.ref r) .int=some false from congrArg (tyO · .int) e]
  exact hq
theorem ur {h0:List MO}{i d:Nat}{A B:List (List Nat)}{rows:List Rw}{es:List (List Nat × MV)}{t:MV}{N:Nat}{Q:MV→List MO→Prop}{X:XT}(hp:bn h0 i A B rows) (hd:h0[d]?=some (.dict es)) (hg:db rows) (hs:aj rows≤400) (hl:A.length+B.length≤300) (h64:(aC (av A B rows)).length<64) (hn:ap rows≤7) (hN:11<N)
  (hq:∀h' x y,h0<+:h'→h0.length<x→h0.length<y→x≠y→h'[h0.length]?=some (.attrs [(aY,.ref x),(cM,t),(nE,.ref y)])→h'[x]?=some (.dict (bI es (aC (av A B rows))))→h'[y]?=some (.list [])→Q .none h') :
  K N 83 [.inst 1 h0.length,.inst 0 i,.ref d,t] Q X (h0++[.attrs []]):=by
 obtain ⟨M,rfl,hM⟩:=room hN
 generalize hns:aC (av A B rows)=ns at *
 have hnd:ns.Nodup:=hns▸iA _
 refine hK _ _ _ _ _ _ dq rfl rfl ?_
 conv=>whnf
 dsimp only [cE,MS.push]
 have a0:(h0++[MO.attrs []]++[MO.dict []])[h0.length]?=some (.attrs []):=ah (ac _ _)
 obtain ⟨x,hx⟩:∃x,x=(h0++[MO.attrs []]).length:=⟨_,rfl⟩
 have hx':x=h0.length+1:=by rw [hx];simp
 have d0:(h0++[MO.attrs []]++[MO.dict []])[x]?=some (.dict []):=by rw [hx];exact ac _ _
 have p0:h0<+:h0++[MO.attrs []]++[MO.dict []]:=aa (aa (ai _))
 rw [←hx]
 refine aR a0 ?_
 refine ⟨Nat.le_of_ble_eq_true rfl,?_⟩
 have p1:h0<+:(h0++[MO.attrs []]++[MO.dict []]).set h0.length (.attrs [(aY,.ref x)]):=aJ p0 (Nat.le_refl _)
 have a1:((h0++[MO.attrs []]++[MO.dict []]).set h0.length (.attrs [(aY,.ref x)]))[h0.length]?=some (.attrs [(aY,.ref x)]):=get_set a0
 have d1:((h0++[MO.attrs []]++[MO.dict []]).set h0.length (.attrs [(aY,.ref x)]))[x]?=some (.dict []):=ak (Nat.ne_of_lt (n1 (Nat.le_of_eq hx'.symm) (by simp +arith only))) d0
 dsimp only [MS.put,bA]
 generalize (h0++[MO.attrs []]++[MO.dict []]).set h0.length (.attrs [(aY,.ref x)])=h1 at *
 obtain ⟨_,_,g1,_⟩:=hp.up p1
 refine aw (de g1 rfl) ?_
 refine f9 hK (h:=h1) (hp.up p1) hg hs hl (by rw [hns];exact h64) hn (hM) fun h2 r p2 l2 e2=>?_
 rw [hns] at e2
 have p2:h1<+:h2:=p2
 have hxl:x<h1.length:=(List.getElem?_eq_some_iff.mp d1).1
 refine aM (aH e2) ?_
 refine gP (fun j w hp'=>⟨[some (.inst 1 h0.length),some (.inst 0 i),some (.ref d),some t,w],hp'⟩) (fun j w hp'=>A4 (h0<+:hp') (hp'[h0.length]?=some (.attrs [(aY,.ref x)])) (hp'[r]?=some (.list (ns.map .str))) (hp'[x]?=some (.dict (bI es (ns.take j)))))
  _ h2 rfl ⟨p1.trans p2,ag p2 a1,e2,by rw [List.take_zero];exact ag p2 d1⟩ (fun _ _ _ hI=>hI.h3) (fun j y w hp' P hy hI hn _=>?_) (fun w hp' hI=>?_)
 ·obtain ⟨q1,q2,q3,q4⟩:=hI
  obtain ⟨s,hs1,rfl⟩:=Option.map_eq_some_iff.mp (List.getElem?_map ..▸hy)
  have hj:=(List.getElem?_eq_some_iff.mp hs1).1
  have hd':=ag q1 hd
  conv=>whnf
  dsimp only [MS.set]
  refine aw (DF hd') ?_
  refine BP (DE hd') ?_
  refine aR q2 ?_
  refine bw q4 ?_
  have hnew:s∉(bI es (ns.take j)).map (·.1):=by
   rw [rA]
   intro hm
   have e:ns=ns.take j++s::ns.drop (j+1):=by
    have:=List.take_append_drop j ns
    rw [List.drop_eq_getElem_cons hj,(List.getElem?_eq_some_iff.mp hs1).2] at this
    exact this.symm
   rw [e] at hnd
   exact (List.nodup_append.mp hnd).2.2 s hm s (.head _) rfl
  refine ⟨Nat.lt_of_le_of_lt (by unfold bI;rw [List.length_map,List.length_take];exact Nat.min_le_right ..) (Nat.lt_of_lt_of_le h64 (aZ (by decide))),?_⟩
  refine hn _ _ ⟨aJ q1 (n1 (Nat.le_of_eq hx'.symm) (by simp +arith only)),ak (Nat.ne_of_gt (n1 (Nat.le_of_eq hx'.symm) (by simp +arith only))) q2,ak (Nat.ne_of_lt (n2 hxl l2 (by simp +arith only))) q3,?_⟩
  rw [get_set q4,gc hnew,aq hs1]
  unfold bI
  rw [List.map_append]
  rfl
 ·obtain ⟨q1,q2,q3,q4⟩:=hI
  rw [List.length_map,List.take_length] at q4
  refine aR q2 ?_
  refine ⟨Nat.le_of_ble_eq_true rfl,?_⟩
  have q5:(hp'.set h0.length (.attrs [(aY,.ref x),(cM,t)]))[h0.length]?=some (.attrs [(aY,.ref x),(cM,t)]):=get_set q2
  have q6:(hp'.set h0.length (.attrs [(aY,.ref x),(cM,t)]))[x]?=some (.dict (bI es ns)):=ak (Nat.ne_of_lt (n1 (Nat.le_of_eq hx'.symm) (by simp +arith only))) q4
  have q7:h0<+:hp'.set h0.length (.attrs [(aY,.ref x),(cM,t)]):=aJ q1 (Nat.le_refl _)
  have l0:h0.length<(hp'.set h0.length (.attrs [(aY,.ref x),(cM,t)])).length∧x<(hp'.set h0.length (.attrs [(aY,.ref x),(cM,t)])).length:=⟨(List.getElem?_eq_some_iff.mp q5).1,(List.getElem?_eq_some_iff.mp q6).1⟩
  show match ((hp'.set h0.length (.attrs [(aY,.ref x),(cM,t)]))++[MO.list []])[h0.length]? with | some (.attrs es)=>_ | _=>False
  refine aR (ah q5) ?_
  refine ⟨Nat.le_of_ble_eq_true rfl,?_⟩
  exact hq _ x (hp'.set h0.length (.attrs [(aY,.ref x),(cM,t)])).length (aJ (aa q7) (Nat.le_refl _)) (n1 (Nat.le_of_eq hx'.symm) (by simp +arith only)) (n1 l0.1 (by simp +arith only)) (Nat.ne_of_lt (n1 l0.2 (by simp +arith only))) (get_set (ah q5)) (ak (Nat.ne_of_lt (n1 (Nat.le_of_eq hx'.symm) (by simp +arith only))) (ah q6)) (ak (Nat.ne_of_lt (n1 l0.1 (by simp +arith only))) (ac _ _))
end Internal
end
section
namespace Internal
noncomputable def Vok (es:List (List Nat × MV)) (ns:List (List Nat)):Prop:=es.length=ns.length∧∀s∈ns,∃k,aE es s=some (.int k)∧0≤k∧k<1000000
theorem Ae {hp:List MO}{r:Nat}{es:List (List Nat × MV)}(e:hp[r]?=some (.dict es)):jx hp (.ref r) .dict=some true:=congrArg (tyO · .dict) e
noncomputable abbrev DG:List MSt:=dG.body.drop 2
variable {K:KT}(hK:aF PP K)
include hK
theorem Af {i:Nat}{v:MV}{A B:List (List Nat)}{rows:List Rw}{N:Nat}{Q:MV→List MO→Prop}{X:XT}{h:List MO}(hp:bn h i A B rows) (hl:A.length+B.length≤300) (hN:1<N)
  (hr:∀h' f w2 w3,h<+:h'→h'[f]?=some (.list ((A++B).map .str))→aD K (N-1) DG (fin Q) (fun c m=>X c m.heap) ⟨[some (.inst 0 i),some v,w2,w3,some (.ref f),none],h'⟩):K N 82 [.inst 0 i,v] Q X h:=by
 obtain ⟨M,rfl,hM⟩:=room hN
 obtain ⟨a,b,h1,h2,h3⟩:=id hp
 refine hK _ _ _ _ _ _ dG rfl rfl ?_
 refine aw (de h1 rfl) ?_
 refine xC hK (h:=h) hp (hM) ?_
 refine ⟨rfl,?_⟩
 conv=>whnf
 dsimp only [kQ,MS.set]
 have g1:(h++[MO.list (A.map .str)]++[.list (B.map .str)])[h.length]?=some (.list (A.map .str)):=ah (ac _ _)
 have g2:(h++[MO.list (A.map .str)]++[.list (B.map .str)])[h.length+1]?=some (.list (B.map .str)):=by
  have:=ac (h++[MO.list (A.map .str)]) (MO.list (B.map .str))
  rw [show (h++[MO.list (A.map .str)]).length=h.length+1 by simp] at this
  exact this
 rw [g1,g2]
 refine ⟨bQ (Nat.le_trans hl (nb rfl)),?_⟩
 exact hr _ _ _ _ (aa (aa (aa (ai _)))) (b9 _ _ _)
theorem Ag {i d:Nat}{A B:List (List Nat)}{rows:List Rw}{es:List (List Nat × MV)}{N:Nat}{Q:MV→List MO→Prop}{X:XT}{h:List MO}(hp:bn h i A B rows) (hl:A.length+B.length≤300) (hd:h[d]?=some (.dict es)) (hv:Vok es (A++B)) (hN:3<N)
  (hq:∀h',h<+:h'→Q .none h'):K N 82 [.inst 0 i,.ref d] Q X h:=by
 refine Af hK hp hl (Nat.le_trans (nb rfl) hN) fun h' f w2 w3 p1 e1=>?_
 have hd':=ag p1 hd
 refine bN (Ae hd') ?_
 refine eD hd' ?_
 refine az e1 ?_
 conv=>whnf
 rw [show ((es.length:Int)==(((A++B).map MV.str).length:Nat))=true by rw [List.length_map,hv.1];exact beq_self_eq_true _]
 refine aM (aH e1) ?_
 refine iz (fun j w=>⟨[some (.inst 0 i),some (.ref d),w2,w3,some (.ref f),w],h'⟩) (fun j w=>True)
  _ rfl trivial (fun _ _ _=>e1) (fun j y w P hy hI hn _=>?_) (fun w hI=>?_)
 ·skip
  obtain ⟨s,hs1,rfl⟩:=Option.map_eq_some_iff.mp (List.getElem?_map ..▸hy)
  obtain ⟨k,hk,h0,h9⟩:=hv.2 s (List.mem_of_getElem? hs1)
  refine eD hd' ?_
  conv=>whnf
  rw [hk]
  refine bw hd' ?_
  refine bN hk ?_
  obtain ⟨M,e⟩:∃M,N-1=M+2:=⟨N-3,by lia⟩
  rw [e]
  exact pU hK ⟨h0,h9⟩ (hn _ trivial)
 ·skip
  exact hq _ p1
end Internal
end
section
namespace Internal
noncomputable def ofO:Option Int→MV
 | none=>.none
 | some i=>.int i
noncomputable def jn (c:Nat) (x y:Int):Option Int:=
 if c=43 then some ((x+y) % 1000000) else if c=45 then some ((x-y) % 1000000) else if c=42 then some (x * y % 1000000)
 else if c=60 then some (b2i (decide (x<y))) else if c=61 then some (b2i (x==y)) else match y==0 with
  | true=>none
  | false=>some (x / y)
noncomputable def rk (es:List (List Nat × MV)):Tm→Option Int
 | .num k=>some k
 | .nm s=>match aE es s with
  | some (.int v)=>some v
  | _=>none
 | .op c a b=>match rk es a,rk es b with
  | some x,some y=>jn c x y
  | _,_=>none
noncomputable def In6 (v:Int):Prop:=0≤v∧v<1000000
noncomputable def bk (es:List (List Nat × MV)) (p:List Nat→Prop):Prop:=∀s,p s→∃v,aE es s=some (.int v)∧In6 v
theorem DH (b:Bool):In6 (b2i b):=by unfold In6;cases b<;>decide
theorem Fd {c:Nat}{x y v:Int}(hx:In6 x) (hy:In6 y) (h:jn c x y=some v):In6 v:=by
 unfold jn at h
 unfold In6 at *
 repeat' split at h
 all_goals cases h
 all_goals first
  | exact ⟨Int.emod_nonneg _ (by decide),Int.emod_lt_of_pos _ (by decide)⟩
  | exact DH _
  | exact ⟨Int.ediv_nonneg hx.1 hy.1,Int.lt_of_le_of_lt (Int.ediv_le_self y hx.1) hx.2⟩
theorem sJ {es:List (List Nat × MV)}{s:List Nat}{u:Int}(e:aE es s=some (.int u)):rk es (.nm s)=some u:=by
 show (match aE es s with
  | some (.int v)=>some v
  | _=>none)=_
 rw [e]
theorem mu {es:List (List Nat × MV)}{c:Nat}{a b:Tm}(e:rk es a=none):rk es (.op c a b)=none:=by
 show (match rk es a,rk es b with
  | some x,some y=>jn c x y
  | _,_=>none)=_
 rw [e]
theorem rB {es:List (List Nat × MV)}{c:Nat}{a b:Tm}{x:Int}(e1:rk es a=some x) (e:rk es b=none):rk es (.op c a b)=none:=by
 show (match rk es a,rk es b with
  | some x,some y=>jn c x y
  | _,_=>none)=_
 rw [e1,e]
theorem mw {es:List (List Nat × MV)}{c:Nat}{a b:Tm}{x y:Int}(e1:rk es a=some x) (e:rk es b=some y):rk es (.op c a b)=jn c x y:=by
 show (match rk es a,rk es b with
  | some x,some y=>jn c x y
  | _,_=>none)=_
 rw [e1,e]
theorem pX {es:List (List Nat × MV)}{p:List Nat→Prop}(g:bk es p):∀{t:Tm}{v:Int},t.ok p→rk es t=some v→In6 v
 | .num k,v,ht,h=>by cases h;exact ht
 | .nm s,v,ht,h=>by
  obtain ⟨u,e,hu⟩:=g s ht
  obtain rfl:=same (sJ e) h;exact hu
 | .op c a b,v,ht,h=>by
  cases e1:rk es a with
  | none=>exact aO (mu e1) h
  | some x=>
   cases e2:rk es b with
   | none=>exact aO (rB e1 e2) h
   | some y=>exact Fd (pX g ht.2.1 e1) (pX g ht.2.2 e2) ((mw e1 e2).symm.trans h)
variable {K:KT}(hK:aF PP K)
include hK
theorem xE {N c:Nat}{x y:Int}{Q:MV→List MO→Prop}{X:XT}{h:List MO}(hN:1≤N) (hc:cf c) (hx:In6 x) (hy:In6 y) (hq:Q (ofO (jn c x y)) h):K N 17 [.str [c],.int x,.int y] Q X h:=by
 obtain ⟨n,rfl⟩:∃n,N=n+1:=⟨N-1,sb hN⟩
 refine hK _ _ _ _ _ _ nt rfl rfl ?_
 unfold In6 at hx hy
 rcases hc with rfl | rfl | rfl | rfl | rfl | rfl
 ·conv=>whnf
  exact hq
 ·conv=>whnf
  exact hq
 ·conv=>whnf
  refine ⟨.inr (by unfold dT;lia),?_⟩
  exact hq
 ·conv=>whnf
  exact hq
 ·conv=>whnf
  exact hq
 ·conv=>whnf
  cases h0:(y==0) with
  | true=>
   have e:jn 47 x y=none:=by simp only [jn,h0];rfl
   rw [e] at hq;exact hq
  | false=>
   have e:jn 47 x y=some (x / y):=by simp only [jn,h0];rfl
   have:y≠0:=by simpa using h0
   rw [e] at hq
   exact aw (decide_eq_true (by lia)) hq
theorem oz {es:List (List Nat × MV)}{p:List Nat→Prop}(g:bk es p) {r:Nat}:∀(t:Tm) {N:Nat}{Q:MV→List MO→Prop}{X:XT}{h:List MO},t.deep+2≤N→h[r]?=some (.dict es)→t.ok p→Q (ofO (rk es t)) h→K N 18 [t.mv,.ref r] Q X h:=by
 intro t
 induction t with
 | num k=>
  intro N Q X h hN hr ht hq
  obtain ⟨n,rfl⟩:∃n,N=n+1:=⟨N-1,sb (n1 hN (by simp +arith only))⟩
  refine hK _ _ _ _ _ _ c0 rfl rfl ?_
  exact hq
 | nm s=>
  intro N Q X h hN hr ht hq
  obtain ⟨n,rfl⟩:∃n,N=n+1:=⟨N-1,sb (n1 hN (by simp +arith only))⟩
  refine hK _ _ _ _ _ _ c0 rfl rfl ?_
  obtain ⟨v,e,_⟩:=g s ht
  refine bw hr ?_
  refine bN e ?_
  rw [sJ e] at hq
  exact hq
 | op c a b iha ihb=>
  intro N Q X h hN hr ht hq
  obtain ⟨n,rfl⟩:∃n,N=n+1:=⟨N-1,sb (n1 hN (by simp +arith only))⟩
  have hN:max a.deep b.deep+1+2≤n+1:=hN
  refine hK _ _ _ _ _ _ c0 rfl rfl ?_
  obtain ⟨hc,ha,hb⟩:=ht
  have key:aD K n (c0.body.drop 2) (fin Q) (fun c m=>X c m.heap) ⟨[some (Tm.op c a b).mv,some (.ref r),none,none],h⟩:=by
   refine iha (n2 hN (Nat.le_max_left a.deep b.deep) (by simp +arith only)) hr ha ?_
   refine ihb (n2 hN (Nat.le_max_right a.deep b.deep) (by simp +arith only)) hr hb ?_
   cases e1:rk es a with
   | none=>
    rw [mu e1] at hq
    exact hq
   | some x=>
    cases e2:rk es b with
    | none=>
     rw [rB e1 e2] at hq
     exact hq
    | some y=>
     rw [mw e1 e2] at hq
     exact xE hK (n1 hN (by simp +arith only)) hc (pX g ha e1) (pX g hb e2) hq
  rcases hc with rfl | rfl | rfl | rfl | rfl | rfl<;>exact key
end Internal
end
section
namespace Internal
noncomputable def Tm.gp (p:List Nat→Prop) (t:Tm):Prop:=t.ok p∧t.deep≤3
mutual
noncomputable def Rw.gp (p:List Nat→Prop):Rw→Prop
 | .set s t=>p s∧t.gp p
 | .tell t=>t.gp p
 | .skip=>True
 | .ite t a b=>t.gp p∧gps p a∧gps p b
 | .wh t a=>t.gp p∧gps p a
noncomputable def gps (p:List Nat→Prop):List Rw→Prop
 | []=>True
 | r::rs=>r.gp p∧gps p rs
end
theorem gV {p:List Nat→Prop}:∀{a b:List Rw},gps p a→gps p b→gps p (a++b)
 | [],_,_,h=>h
 | r::a,b,h1,h2=>⟨h1.1,gV h1.2 h2⟩
mutual
theorem Ah {p q:List Nat→Prop}(h:∀s,p s→q s):∀{r:Rw},r.gp p→r.gp q
 | .set s t,x=>⟨h s x.1,x.2.1.mono h,x.2.2⟩
 | .tell t,x=>⟨x.1.mono h,x.2⟩
 | .skip,x=>x
 | .ite t a b,x=>⟨⟨x.1.1.mono h,x.1.2⟩,gh h x.2.1,gh h x.2.2⟩
 | .wh t a,x=>⟨⟨x.1.1.mono h,x.1.2⟩,gh h x.2⟩
theorem gh {p q:List Nat→Prop}(h:∀s,p s→q s):∀{rs:List Rw},gps p rs→gps q rs
 | [],x=>x
 | r::rs,x=>⟨Ah h x.1,gh h x.2⟩
end
mutual
theorem Ai:∀{r:Rw},r.gp Gn→r.good
 | .set s t,x=>x
 | .tell t,x=>x
 | .skip,x=>x
 | .ite t a b,x=>⟨x.1,gj x.2.1,gj x.2.2⟩
 | .wh t a,x=>⟨x.1,gj x.2⟩
theorem gj:∀{rs:List Rw},gps Gn rs→db rs
 | [],x=>x
 | r::rs,x=>⟨Ai x.1,gj x.2⟩
end
variable {K:KT}
noncomputable def PB (K:KT) (n:Nat) (X:XM) (m:MS) (e:ME):Prop:=∀Q:PQ,(∀b,Q (.bool b) m)→wpE K n e Q X m
theorem rC {n:Nat}{X:XM}{m:MS}:∀{es:List ME},es≠[]→(∀e∈es,PB K n X m e)→PB K n X m (.and es)
 | [],h,_=>absurd rfl h
 | [e],_,h=>fun Q hq=>h e (.head _) Q hq
 | e::e'::es,_,h=>fun Q hq=>by
  have ih:=rC (es:=e'::es) (List.cons_ne_nil _ _) fun x hx=>h x (.tail _ hx)
  refine h e (.head _) _ fun b=>?_
  cases b with
  | true=>exact ih Q hq
  | false=>exact hq false
theorem Bs {n:Nat}{X:XM}{m:MS}:∀{es:List ME},es≠[]→(∀e∈es,PB K n X m e)→PB K n X m (.or es)
 | [],h,_=>absurd rfl h
 | [e],_,h=>fun Q hq=>h e (.head _) Q hq
 | e::e'::es,_,h=>fun Q hq=>by
  have ih:=Bs (es:=e'::es) (List.cons_ne_nil _ _) fun x hx=>h x (.tail _ hx)
  refine h e (.head _) _ fun b=>?_
  cases b with
  | true=>exact hq true
  | false=>exact ih Q hq
theorem gk {n:Nat}{X:XM}{m:MS}{a b:ME}(ha:PB K n X m a) (hb:PB K n X m b):PB K n X m (.and [a,b])∧PB K n X m (.or [a,b]):=by
 have h:∀e∈[a,b],PB K n X m e:=fun e he=>by
  rcases List.mem_cons.mp he with rfl | he
  ·exact ha
  ·rw [List.mem_singleton.mp he];exact hb
 exact ⟨rC (List.cons_ne_nil _ _) h,Bs (List.cons_ne_nil _ _) h⟩
theorem xF {n:Nat}{X:XM}{m:MS}{a b c:ME}(ha:PB K n X m a) (hb:PB K n X m b) (hc:PB K n X m c):PB K n X m (.and [a,b,c]):=rC (List.cons_ne_nil _ _) fun e he=>by
  rcases List.mem_cons.mp he with rfl | he
  ·exact ha
  ·rcases List.mem_cons.mp he with rfl | he
   ·exact hb
   ·rw [List.mem_singleton.mp he];exact hc
theorem xG {n:Nat}{X:XM}{m:MS}{a:ME}(ha:PB K n X m a):PB K n X m (.not a):=fun Q hq=>ha _ fun b=>hq _
theorem dN {n:Nat}{X:XM}{m:MS}{c:ME}{a b:List MSt}{Q:Fl→MS→Prop}(hc:PB K n X m c) (ha:aD K n a Q X m) (hb:aD K n b Q X m):wpS K n (.ite c a b) Q X m:=
 hc _ fun t=>by
  cases t with
  | true=>exact ha
  | false=>exact hb
theorem oA {n i:Nat}{X:XM}{m:MS}{x:Int}(hv:m.get i=some (.int x)) {a b c:Int}(ha:0<a∧a<2 ^ 30) (hb:0<b) (op:Cmp) (hop:op=.eq∨op=.gt):PB K n X m (.cmp op (.bin .mod (.bin .fdiv (.var i) (.cst (.int a))) (.cst (.int b))) (.cst (.int c))):=fun Q hq=>by
 show wpE K n (.var i) _ X m
 refine pP hv ?_
 refine aw (decide_eq_true ha) ?_
 refine aw (decide_eq_true hb) ?_
 rcases hop with rfl | rfl
 ·exact hq _
 ·exact hq _
theorem cN {n i:Nat}{X:XM}{m:MS}{x:Int}(hv:m.get i=some (.int x)) {c:Int}(op:Cmp) (hop:op=.eq∨op=.gt∨op=.lt):PB K n X m (.cmp op (.var i) (.cst (.int c))):=fun Q hq=>by
 show wpE K n (.var i) _ X m
 refine pP hv ?_
 rcases hop with rfl | rfl | rfl
 ·exact hq _
 ·exact hq _
 ·exact hq _
theorem jK {n i:Nat}{X:XM}{m:MS}{x:Bool}(hv:m.get i=some (.bool x)):PB K n X m (.var i):=fun Q hq=>by
 exact pP hv (hq _)
variable (hK:aF PP K)
include hK
theorem xH:∀(t:Tm) {N:Nat}{Q:MV→List MO→Prop}{X:XT}{h:List MO},t.good→t.deep<N→(∀(h':List MO) (i:Nat) (ss:List (List Nat)),h<+:h'→h'[i]?=some (.list (ss.map .str))→(∀s∈ss,okS s)→ss.length≤t.lv→Q (.ref i) h')→K N 37 [t.mv] Q X h
 | .num k,N,Q,X,h,ht,hN,hq=>by
  obtain ⟨M,rfl,hM⟩:=room hN
  refine hK _ _ _ _ _ _ bi rfl rfl ?_
  exact hq _ _ [] (aa (ai _)) (ac _ _) (fun s hs=>by cases hs) (Nat.zero_le _)
 | .nm s,N,Q,X,h,ht,hN,hq=>by
  obtain ⟨M,rfl,hM⟩:=room hN
  refine hK _ _ _ _ _ _ bi rfl rfl ?_
  exact hq _ _ [s] (aa (ai _)) (ac _ _) (fun x hx=>by rw [List.mem_singleton.mp hx];exact ht.1.1.ok) (Nat.le_refl _)
 | .op c a b,N,Q,X,h,ht,hN,hq=>by
  obtain ⟨ga,gb⟩:=ht.sub
  have la:=a.lv_le
  have lb:=b.lv_le
  have h3:2 ^ a.deep≤2 ^ 3:=Nat.pow_le_pow_right (by decide) ga.2
  have h4:2 ^ b.deep≤2 ^ 3:=Nat.pow_le_pow_right (by decide) gb.2
  have hN:max a.deep b.deep+1<N:=hN
  obtain ⟨M,rfl,hM⟩:=room hN
  refine hK _ _ _ _ _ _ bi rfl rfl ?_
  conv=>whnf
  rw [show ([c]==xw)=false by simp]
  conv=>whnf
  rw [show ([c]==pS)=false by simp]
  refine xH a ga (n2 hN (Nat.le_max_left a.deep b.deep) (by simp +arith only)) fun h1 i x p1 e1 o1 l1=>?_
  refine xH b gb (n2 hN (Nat.le_max_right a.deep b.deep) (by simp +arith only)) fun h2 j y p2 e2 o2 l2=>?_
  conv=>whnf
  dsimp only
  rw [ag p2 e1,e2]
  refine ⟨bQ (by lia),?_⟩
  refine hq _ _ (x++y) (aa (p1.trans p2)) (b9 _ _ _) (fun s hs=>?_) ?_
  ·rcases List.mem_append.mp hs with hs | hs
   ·exact o1 s hs
   ·exact o2 s hs
  ·rw [List.length_append];exact Nat.add_le_add l1 l2
noncomputable def my (ss:List (List Nat)) (hp:List MO) (i:Nat):Prop:=∃sl:List (List Nat),hp[i]?=some (.list (sl.map .str))∧∀s∈sl,s∈ss
omit hK in
theorem my.up {ss:List (List Nat)}{hp hp':List MO}{i:Nat}(h:my ss hp i) (e:hp<+:hp'):my ss hp' i:=let ⟨sl,h1,h2⟩:=h;⟨sl,ag e h1,h2⟩
omit hK in
theorem oB {ss:List (List Nat)}(hp:List MO) (k:Nat):my ss (hp++[.list ((ss.map MV.str).drop k)]) hp.length:=⟨ss.drop k,by rw [ac,List.map_drop],fun s hs=>List.mem_of_mem_drop hs⟩
omit hK in
theorem oC {ss:List (List Nat)}(hp:List MO) (k:Nat):my ss (hp++[.list ((ss.map MV.str).take k)]) hp.length:=⟨ss.take k,by rw [ac,List.map_take],fun s hs=>List.mem_of_mem_take hs⟩
theorem Aj {r:Nat}{ss:List (List Nat)}{more mode:Int}{dark:Bool}{N:Nat}{Q:MV→List MO→Prop}{X:XT}{h:List MO}(hr:h[r]?=some (.list (ss.map .str))) (hs:∀s∈ss,Gn s) (hN:8≤N) (hq:∀(h':List MO) (t:Tm) (b:Bool),h<+:h'→t.gp (·∈ss)→Q (.tup [t.mv,.bool b]) h') :
  K N 38 [.ref r,.int more,.bool dark,.int mode] Q X h:=by
 obtain ⟨M,rfl,hM⟩:=room (k:=7) (show 7<N by lia)
 have last:∀hp i4 i5,h<+:hp→my ss hp i4→my ss hp i5→aD K M (bM.body.drop 4) (fin Q) (fun c m=>X c m.heap) ⟨[some (.ref r),some (.int more),some (.bool dark),some (.int mode),some (.ref i4),some (.ref i5),none,none],hp⟩:=by
  intro hp i4 i5 hpre h4 h5
  obtain ⟨s4,e4,m4⟩:=h4
  obtain ⟨s5,e5,m5⟩:=h5
  have go:∀d:Bool,aD K M [.asg [6] false (.call 11 [.var 1,.var 5,.var 4,.cst (.bool d),.bin .add (.cst (.int 1)) (.bin .mod (.bin .fdiv (.var 1) (.cst (.int 24))) (.cst (.int 4)))]),bM.body.getLast (by decide)] (fin Q) (fun c m=>X c m.heap) ⟨[some (.ref r),some (.int more),some (.bool dark),some (.int mode),some (.ref i4),some (.ref i5),none,none],hp⟩:=by
   intro d
   have hL:0≤more / 24 % 4∧more / 24 % 4<4:=em rfl
   obtain ⟨M',rfl⟩:∃M',M=M'+(more / 24 % 4).toNat+2:=⟨M-(more / 24 % 4).toNat-2,by rw [Nat.add_assoc,Nat.sub_sub,Nat.sub_add_cancel (Nat.le_trans (Nat.add_le_add_right (Nat.le_of_lt (emN (n:=4) rfl)) 2) (Nat.le_trans (nb rfl) hM))]⟩
   refine uj hK (more / 24 % 4).toNat (by lia) e5 e4 (fun s h=>(hs s (m5 s h)).1.ok) (fun s h=>(hs s (m4 s h)).1.ok) fun t h1 ht hd hpre1=>?_
   have hg':t.gp (·∈ss):=⟨ht.mono fun s h=>h.elim (m5 s) (m4 s),by lia⟩
   have hg:t.good:=⟨ht.mono fun s h=>h.elim (fun h=>hs s (m5 s h)) fun h=>hs s (m4 s h),by lia⟩
   have hpre1:hp<+:h1:=hpre1
   refine xH hK t hg (by have:=hg.2;exact n1 hd (by simp +arith only)) fun h2 i x p2 e2 o2 l2=>?_
   have p2:h1<+:h2:=p2
   refine aM (aH e2) ?_
   have hpre2:=(hpre.trans hpre1).trans p2
   refine sG (fun w:Option MV × List MO=>⟨[some (.ref r),some (.int more),some (.bool dark),some (.int mode),some (.ref i4),some (.ref i5),some t.mv,w.1],w.2⟩) (fun w=>h2<+:w.2) (none,_) rfl (ai _) (fun w h=>ag h e2) (fun j y w P hy hp1 h1 h2'=>?_) (fun a w hp1=>?_)
   ·obtain ⟨s,es,rfl⟩:=Option.map_eq_some_iff.mp (List.getElem?_map ..▸hy)
    refine af (ag (hpre2.trans hp1) hr) ?_
    conv=>whnf
    dsimp only [MS.set,MS.push]
    rw [ac]
    conv=>whnf
    rw [bH (by decide),←List.map_drop]
    refine cK (o2 s (List.mem_of_getElem? es)) (fun s h=>(hs s (List.mem_of_mem_drop h)).1.ok) ?_
    cases (List.drop (5:Int).toNat ss).contains s with
    | true=>exact h1 _ (_,_) (aa hp1)
    | false=>exact h2' (_,_) (aa hp1)
   ·exact .nil _ _ a rfl rfl (ah (ac _ _)) (ac _ _) (hq _ t _ (aa (aa (hpre2.trans hp1))) hg')
  conv=>whnf
  cases decide (0<mode) with
  | true=>exact go true
  | false=>
   cases dark with
   | true=>exact go false
   | false=>exact go true
 have third:∀hp i4 i5,h<+:hp→my ss hp i4→my ss hp i5→aD K M (bM.body.drop 3) (fin Q) (fun c m=>X c m.heap) ⟨[some (.ref r),some (.int more),some (.bool dark),some (.int mode),some (.ref i4),some (.ref i5),none,none],hp⟩:=by
  intro hp i4 i5 hpre h4 h5
  show wpS K M _ _ _ _
  exact dN (cN rfl .gt (.inr (.inl rfl))) (last hp i5 i5 hpre h5 h5) (last hp i4 i5 hpre h4 h5)
 have second:∀hp i4,h<+:hp→my ss hp i4→aD K M (bM.body.drop 2) (fin Q) (fun c m=>X c m.heap) ⟨[some (.ref r),some (.int more),some (.bool dark),some (.int mode),some (.ref i4),some (.ref r),none,none],hp⟩:=by
  intro hp i4 hpre h4
  have hr':=ag hpre hr
  show wpS K M _ _ _ _
  refine dN (gk (gk (cN rfl .eq (.inl rfl)) (oA rfl (by decide) (by decide) .eq (.inl rfl))).1 (xF (cN rfl .eq (.inl rfl)) (jK rfl) (oA rfl (by decide) (by decide) .gt (.inr rfl)))).2 (third _ _ _ hpre h4 h4) ?_
  show wpS K M _ _ _ _
  refine dN (cN rfl .eq (.inl rfl)) ?_ (third _ _ _ hpre h4 ⟨ss,hr',fun s h=>h⟩)
  refine af hr' ?_
  rw [bH (by decide)]
  exact third _ _ _ (aa hpre) (h4.up (aa (ai _))) (oB _ _)
 refine hK _ _ _ _ _ _ bM rfl rfl ?_
 refine af hr ?_
 have e:my ss (h++[.list (aL (ss.map MV.str) none (some 5))]) h.length:=by rw [cA (by decide)];exact oC h _
 exact second _ _ (aa (ai h)) e
end Internal
end
section
namespace Internal
set_option genCtorIdx false in
structure Fr where
 a:Nat
 ra:Nat
 wd:List Nat
 t:Option Tm
 rows:List Rw
 sec:Bool
 fst:Option (List Rw)
noncomputable def oT:Option Tm→MV
 | none=>.none
 | some t=>t.mv
noncomputable def oR:Option (List Rw)→MV
 | none=>.none
 | some rs=>.tup (mvs rs)
noncomputable def Fr.cells (f:Fr):List MV:=[.str f.wd,oT f.t,.ref f.ra,.bool f.sec,oR f.fst]
noncomputable def mz (hp:List MO) (f:Fr):Prop:=hp[f.a]?=some (.list f.cells)∧hp[f.ra]?=some (.list (mvs f.rows))
noncomputable def cP (fs:List Fr):List MV:=fs.map fun f=>.ref f.a
structure Stk (L:Nat) (hp:List MO) (st:Nat) (fs:List Fr):Prop where
 at_:hp[st]?=some (.list (cP fs))
 fr:∀f∈fs,mz hp f
 pw:fs.Pairwise fun f g=>f.a<g.ra
 ne:∀f∈fs,f.ra<f.a∧f.ra≠st∧f.a≠st∧L≤f.ra
 lo:L≤st
theorem mz.set {hp:List MO}{f:Fr}(h:mz hp f) {i:Nat}{o:MO}(h1:i≠f.a) (h2:i≠f.ra):mz (hp.set i o) f:=⟨ak h1 h.1,ak h2 h.2⟩
theorem mz.up {hp hp':List MO}{f:Fr}(h:mz hp f) (e:hp<+:hp'):mz hp' f:=⟨ag e h.1,ag e h.2⟩
section
variable {L st:Nat}{hp hp':List MO}{fs gs:List Fr}{f:Fr}
theorem Stk.up (h:Stk L hp st fs) (e:hp<+:hp'):Stk L hp' st fs:=⟨ag e h.at_,fun f hf=>(h.fr f hf).up e,h.pw,h.ne,h.lo⟩
theorem Stk.other (h:Stk L hp st fs) {i:Nat}{o:MO}(h1:i≠st) (h2:∀f∈fs,i≠f.a∧i≠f.ra):Stk L (hp.set i o) st fs:=⟨ak h1 h.at_,fun f hf=>(h.fr f hf).set (h2 f hf).1 (h2 f hf).2,h.pw,h.ne,h.lo⟩
theorem Stk.last (h:Stk L hp st (gs++[f])):∀g∈gs,g.a<f.ra:=fun g hg=>(List.pairwise_append.mp h.pw).2.2 g hg f (List.mem_singleton.mpr rfl)
theorem Stk.pop (h:Stk L hp st (gs++[f])):Stk L (hp.set st (.list (cP gs))) st gs∧mz (hp.set st (.list (cP gs))) f:=by
 have hm:∀g∈gs,g∈gs++[f]:=fun g hg=>List.mem_append_left _ hg
 have hf:f∈gs++[f]:=List.mem_append_right _ (List.mem_singleton.mpr rfl)
 exact ⟨⟨get_set h.at_,fun g hg=>(h.fr g (hm g hg)).set (h.ne g (hm g hg)).2.2.1.symm (h.ne g (hm g hg)).2.1.symm,(List.pairwise_append.mp h.pw).1,fun g hg=>h.ne g (hm g hg),h.lo⟩,(h.fr f hf).set (h.ne f hf).2.2.1.symm (h.ne f hf).2.1.symm⟩
theorem Stk.push (h:Stk L hp st gs) (hf:mz hp f) (h1:∀g∈gs,g.a<f.ra) (h2:f.ra<f.a∧f.ra≠st∧f.a≠st∧L≤f.ra):Stk L (hp.set st (.list (cP gs++[.ref f.a]))) st (gs++[f]):=by
 refine ⟨?_,fun g hg=>?_,List.pairwise_append.mpr ⟨h.pw,List.pairwise_singleton ..,fun g hg x hx=>by rw [List.mem_singleton.mp hx];exact h1 g hg⟩,fun g hg=>?_,h.lo⟩
 ·rw [show cP (gs++[f])=cP gs++[.ref f.a] by simp [cP]];exact get_set h.at_
 ·rcases List.mem_append.mp hg with hg | hg
  ·exact (h.fr g hg).set (h.ne g hg).2.2.1.symm (h.ne g hg).2.1.symm
  ·rw [List.mem_singleton.mp hg];exact hf.set h2.2.2.1.symm h2.2.1.symm
 ·rcases List.mem_append.mp hg with hg | hg
  ·exact h.ne g hg
  ·rw [List.mem_singleton.mp hg];exact h2
theorem Stk.add (h:Stk L hp st (gs++[f])) (r:Rw):Stk L (hp.set f.ra (.list (mvs f.rows++[r.mv]))) st (gs++[{ f with rows:=f.rows++[r] }]):=by
 have hf:f∈gs++[f]:=List.mem_append_right _ (List.mem_singleton.mpr rfl)
 have hn:=h.ne f hf
 have hl:=h.last
 have hm:∀g∈gs,g∈gs++[f]:=fun g hg=>List.mem_append_left _ hg
 refine ⟨?_,fun g hg=>?_,?_,fun g hg=>?_,h.lo⟩
 ·have:=ak (o':=.list (mvs f.rows++[r.mv])) hn.2.1 h.at_
  rw [this];simp [cP]
 ·rcases List.mem_append.mp hg with hg | hg
  ·have h1:=hl g hg
   have h2:=(h.ne g (hm g hg)).1
   exact (h.fr g (hm g hg)).set (Nat.ne_of_gt h1) (Nat.ne_of_gt (n2 h2 h1 (by simp +arith only)))
  ·rw [List.mem_singleton.mp hg]
   refine ⟨ak (by show f.ra≠f.a;exact Nat.ne_of_lt (n1 hn.1 (by simp +arith only))) (h.fr f hf).1,?_⟩
   show (hp.set f.ra _)[f.ra]?=some (.list (mvs (f.rows++[r])))
   rw [fB];exact get_set (h.fr f hf).2
 ·have:=List.pairwise_append.mp h.pw
  exact List.pairwise_append.mpr ⟨this.1,List.pairwise_singleton ..,fun g hg x hx=>by rw [List.mem_singleton.mp hx];exact hl g hg⟩
 ·rcases List.mem_append.mp hg with hg | hg
  ·exact h.ne g (hm g hg)
  ·rw [List.mem_singleton.mp hg];exact hn
end
structure FOk (p:List Nat→Prop) (i:Nat) (f:Fr):Prop where
 good:gps p f.rows
 nest:ap f.rows+i≤7
 fst:∀rs,f.fst=some rs→gps p rs∧ap rs+i≤7
 kind:i=0∨∃t,f.t=some t∧t.gp p∧(f.wd=wIf∨(f.wd=dI∧f.fst=none))
noncomputable def Oks (p:List Nat→Prop) (fs:List Fr):Prop:=∀i f,fs[i]?=some f→FOk p i f
noncomputable def Fr.wt (f:Fr):Nat:=(lns f.rows).length+(match f.fst with
 | some rs=>(lns rs).length
 | none=>0)+4
noncomputable def wts (fs:List Fr):Nat:=(fs.map Fr.wt).sum
noncomputable def Fr.cl (f:Fr):Nat:=match f.fst with
 | none=>if f.wd=wIf then 2 else 1
 | some _=>1
noncomputable def cls (fs:List Fr):Nat:=(fs.map Fr.cl).sum
theorem bZ (gs:List Fr) (f:Fr):wts (gs++[f])=wts gs+f.wt:=by simp [wts]
theorem gm (gs:List Fr) (f:Fr):cls (gs++[f])=cls gs+f.cl:=by simp [cls]
theorem Oks.init {p:List Nat→Prop}{gs:List Fr}{f:Fr}(h:Oks p (gs++[f])):Oks p gs∧FOk p gs.length f:=
 ⟨fun i g e=>h i g (ah e),h _ _ (ac gs f)⟩
theorem Oks.snoc {p:List Nat→Prop}{gs:List Fr}{f:Fr}(h:Oks p gs) (hf:FOk p gs.length f):Oks p (gs++[f]):=fun i g e=>by
 rcases Nat.lt_or_ge i gs.length with q | q
 ·rw [List.getElem?_append_left q] at e;exact h i g e
 ·have hi:i<(gs++[f]).length:=(List.getElem?_eq_some_iff.mp e).1
  rw [List.length_append,List.length_singleton] at hi
  have:i=gs.length:=Nat.le_antisymm (Nat.le_of_lt_succ hi) q
  subst this
  rw [ac] at e;cases e;exact hf
theorem FOk.add {p:List Nat→Prop}{i:Nat}{f:Fr}(h:FOk p i f) {r:Rw}(hg:r.gp p) (hn:r.nest+i≤7):FOk p i { f with rows:=f.rows++[r] }:=by
 refine ⟨gV h.good ⟨hg,trivial⟩,?_,h.fst,h.kind⟩
 have h1:=h.nest
 have:ap (f.rows++[r])≤7-i:=dw (Nat.le_sub_of_add_le h1) (mx0 (Nat.le_sub_of_add_le hn))
 show ap (f.rows++[r])+i≤7
 exact Nat.add_le_of_le_sub (n1 h1 (by simp +arith only)) this
theorem xI (f:Fr) (r:Rw):({ f with rows:=f.rows++[r] }:Fr).wt=f.wt+r.lines.length:=by
 unfold Fr.wt
 dsimp only
 rw [fC,jf,List.length_append];exact by simp +arith only
theorem oD {α:Type}{l:List α}(h:l≠[]):∃gs f,l=gs++[f]:=⟨l.dropLast,l.getLast h,(List.dropLast_concat_getLast h).symm⟩
variable {K:KT}(hK:aF PP K)
include hK
omit hK in
theorem DI {hp:List MO}{r:Nat}{xs:List MV}(e:hp[r]?=some (.list xs)):kP .pop (.ref r) hp=true:=by
 show (tq r hp[r]?).isSome=true;rw [e];rfl
omit hK in
theorem sK {f:Fr}{B:Nat}(h:f.wt≤B) (hB:B≤2000):(mvs f.rows).length<line:=by
 have h1:=kD f.rows
 have h2:(lns f.rows).length≤f.wt:=by unfold Fr.wt;exact by simp +arith only
 exact Nat.lt_of_lt_of_le (show (mvs f.rows).length<2001 by rw [cp];lia) (aZ (by decide))
noncomputable abbrev gq (e:ME):MSt:=.expr (.mth .append (.idx (.idx (.var 0) (.neg (.cst (.int 1)))) (.cst (.int 2))) [e])
omit hK in
theorem ut {α:Type}(gs:List α) (f:α):fc (-1) (gs++[f]).length=some gs.length:=by
 rw [List.length_append,List.length_singleton]
 unfold fc
 rw [decide_eq_false (show ¬ (0:Int)≤-1 by decide),decide_eq_true (show -(((gs.length+1:Nat)):Int)≤-1 by lia)]
 show some (-1+((gs.length+1:Nat):Int)).toNat=some gs.length
 congr 1;lia
omit hK in
theorem oE {L st:Nat}{hp:List MO}{gs:List Fr}{f:Fr}{B M:Nat}(S:Stk L hp st (gs++[f])) (hB:f.wt≤B) (hB':B≤2000) {r:Rw}{e:ME}{vs:List (Option MV)}{X:XM}{Q:Fl→MS→Prop}(he:∀Q:PQ,Q r.mv ⟨some (.ref st)::vs,hp⟩→wpE K M e Q X ⟨some (.ref st)::vs,hp⟩)
  (hq:Q .next ⟨some (.ref st)::vs,hp.set f.ra (.list (mvs f.rows++[r.mv]))⟩):wpS K M (gq e) Q X ⟨some (.ref st)::vs,hp⟩:=by
 have hf:=S.fr f (List.mem_append_right _ (List.mem_singleton.mpr rfl))
 have e1:cP (gs++[f])=cP gs++[.ref f.a]:=by simp [cP]
 conv=>whnf
 dsimp only
 rw [S.at_,e1]
 delta cQ onO;try dsimp only
 rw [ut]
 dsimp only
 rw [ac]
 refine af hf.1 ?_
 refine aw (aK hf.2) ?_
 show wpE K M e _ X _
 refine he _ ?_
 refine bf (bc hf.2) ?_
 exact ⟨sK hB hB',hq⟩
theorem pY {p:List Nat→Prop}{L st:Nat}{hp:List MO}{gs:List Fr}{f:Fr}{B N:Nat}(S:Stk L hp st (gs++[f])) (O:Oks p (gs++[f])) (hg:gs≠[]) (hB:wts (gs++[f])≤B) (hB':B≤2000) {Q:MV→List MO→Prop}{X:XT}
  (hq:∀hp' fs',Stk L hp' st fs'→Oks p fs'→fs'≠[]→fs'.length≤(gs++[f]).length→wts fs'≤wts (gs++[f])→cls fs'<cls (gs++[f])→(∀h0:List MO,h0.length≤L→h0<+:hp→h0<+:hp')→Q .none hp'):K (N+1) 39 [.ref st] Q X hp:=by
 obtain ⟨S1,F1⟩:=S.pop
 obtain ⟨O1,hf⟩:=O.init
 have e1:cP (gs++[f])=cP gs++[.ref f.a]:=by simp [cP]
 have hlo:=S.lo
 have hfm:f∈gs++[f]:=List.mem_append_right _ (List.mem_singleton.mpr rfl)
 have hn:=S.ne f hfm
 have hlast:=S.last
 obtain ⟨t,et,ht,hkind⟩:=hf.kind.resolve_left (fun q=>hg (List.eq_nil_of_length_eq_zero q))
 obtain ⟨gs',g,eg⟩:=oD hg
 rw [bZ] at hB
 have hsz:∀h0:List MO,h0.length≤L→h0<+:hp→h0<+:hp.set st (.list (cP gs)):=fun h0 h1 h2=>aJ h2 (n2 h1 hlo (by simp +arith only))
 refine hK _ _ _ _ _ _ ej rfl rfl ?_
 refine aw (DI S.at_) ?_
 refine ⟨rfl,?_⟩
 refine bf (bc S.at_) ?_
 refine ⟨rfl,?_⟩
 rw [e1]
 refine bN (a:=.ref f.a) (by simp) ?_
 rw [List.dropLast_concat]
 change aD K N (ej.body.drop 1) (fin Q) _ ⟨[some (.ref st),some (.ref f.a)],hp.set st (.list (cP gs))⟩
 generalize hp.set st (.list (cP gs))=hp1 at *
 have fin_row:∀(hp2:List MO) (r:Rw),Stk L hp2 st gs→(∀h0:List MO,h0.length≤L→h0<+:hp→h0<+:hp2)→r.gp p→r.nest+gs'.length≤7→r.lines.length≤f.wt→Q .none (hp2.set g.ra (.list (mvs g.rows++[r.mv]))):=by
  intro hp2 r S2 h2 hr hnr hl
  subst eg
  have hgm:g∈gs'++[g]:=List.mem_append_right _ (List.mem_singleton.mpr rfl)
  have hgl:=(S2.ne g hgm).2.2.2
  obtain ⟨O2,hg2⟩:=O1.init
  refine hq _ _ (S2.add r) (O2.snoc (hg2.add hr hnr)) (by simp) (by simp) ?_ ?_ fun h0 q1 q2=>aJ (h2 h0 q1 q2) (n2 q1 hgl (by simp +arith only))
  ·rw [bZ,bZ,bZ,xI];exact n1 hl (by simp +arith only)
  ·rw [gm,gm,gm]
   have:({ g with rows:=g.rows++[r] }:Fr).cl=g.cl:=rfl
   rw [this]
   have:1≤f.cl:=by unfold Fr.cl;split<;>(try split)<;>exact nb rfl
   exact n1 this (by simp +arith only)
 have hgl:gs.length=gs'.length+1:=by rw [eg];simp
 have hwt:(lns f.rows).length+4≤f.wt:=by unfold Fr.wt;exact by simp +arith only
 have hnest:=hf.nest
 have hgw:g.wt≤B:=by rw [eg,bZ] at hB;exact n1 hB (by simp +arith only)
 have cell:f.cells=[.str f.wd,t.mv,.ref f.ra,.bool f.sec,oR f.fst]:=by unfold Fr.cells;rw [et];rfl
 have hfc:=F1.1
 rw [cell] at hfc
 rcases hkind with hwd | ⟨hwd,hfst⟩
 ·rw [hwd] at hfc
  refine af hfc ?_
  refine af hfc ?_
  conv=>whnf
  cases hfs:f.fst with
  | none=>
   rw [hfs] at hfc
   refine aw (aK S1.at_) ?_
   refine af hfc ?_
   refine af hfc ?_
   refine af (ah hfc) ?_
   refine af (ah hfc) ?_
   refine af (ah F1.2) ?_
   have hlt:∀{i o},hp1[i]?=some o→i<hp1.length:=fun e=>(List.getElem?_eq_some_iff.mp e).1
   have hst:=hlt S1.at_
   have F2:mz (hp1++[.list []]++[.list [.str wIf,t.mv,.ref hp1.length,.bool f.sec,.tup (mvs f.rows)]]) ⟨(hp1++[MO.list []]).length,hp1.length,wIf,some t,[],f.sec,some f.rows⟩:=⟨ac _ _,ah (ac _ _)⟩
   have hup:hp1<+:hp1++[.list []]++[.list [.str wIf,t.mv,.ref hp1.length,.bool f.sec,.tup (mvs f.rows)]]:=aa (aa (ai _))
   have S2:=(S1.up hup).push F2 (fun g hg=>hlt (S1.fr g hg).1) ⟨by show hp1.length<(hp1++[MO.list []]).length;simp,by show hp1.length≠st;exact Nat.ne_of_gt hst,by show (hp1++[MO.list []]).length≠st;simp;exact Nat.ne_of_gt (n1 hst (by simp +arith only)),by show L≤hp1.length;exact n2 hst hlo (by simp +arith only)⟩
   refine bf (bc (ag hup S1.at_)) ?_
   have hsz2:gs.length≤8:=n1 hnest (by simp +arith only)
   refine ⟨Nat.lt_of_lt_of_le (show (cP gs).length<9 by simp [cP];exact n1 hsz2 (by simp +arith only)) (aZ (by decide)),?_⟩
   refine hq _ _ S2 (O1.snoc ⟨trivial,by show 0+gs.length≤7;exact n1 hnest (by simp +arith only),fun rs e=>by cases e;exact ⟨hf.good,hnest⟩,.inr ⟨t,rfl,ht,.inl rfl⟩⟩) (by simp) (by simp) ?_ ?_ fun h0 q1 q2=>aJ ((hsz h0 q1 q2).trans hup) (n2 q1 hlo (by simp +arith only))
   ·rw [bZ,bZ]
    show wts gs+(0+(lns f.rows).length+4)≤_
    exact n1 hwt (by simp +arith only)
   ·rw [gm,gm]
    show cls gs+1<_
    have:f.cl=2:=by unfold Fr.cl;rw [hfs,hwd];rfl
    exact n1 (Nat.le_of_eq this.symm) (by simp +arith only)
  | some rs=>
   rw [hfs] at hfc
   have hrs:=hf.fst rs hfs
   show wpS K N (gq _) _ _ _
   subst eg
   refine oE (r:=.ite t rs f.rows) S1 hgw hB' (fun Q hq=>?_) ?_
   ·conv=>whnf
    refine af hfc ?_
    refine af hfc ?_
    refine af hfc ?_
    refine af F1.2 ?_
    exact hq
   ·refine fin_row hp1 (.ite t rs f.rows) S1 hsz ⟨ht,hrs.1,hf.good⟩ ?_ ?_
    ·show max (ap rs) (ap f.rows)+1+gs'.length≤7
     have:=hrs.2
     lia
    ·show ((lns rs++nz::(lns f.rows++[mQ])).length+1)≤f.wt
     unfold Fr.wt
     rw [hfs,List.length_append,List.length_cons,List.length_append,List.length_singleton]
     exact by simp +arith only
 ·rw [hwd,hfst] at hfc
  have wrest:∀(hp2:List MO) (rows:List Rw),Stk L hp2 st gs→(∀h0:List MO,h0.length≤L→h0<+:hp→h0<+:hp2)→hp2[f.a]?=some (.list [.str dI,t.mv,.ref f.ra,.bool f.sec,.none])→hp2[f.ra]?=some (.list (mvs rows))→gps p rows→ap rows+gs.length≤7→(lns rows).length≤(lns f.rows).length+1→
    aD K N [gq (.tup [.cst (.str dI),.idx (.var 1) (.cst (.int 1)),.blt .tuple [.idx (.var 1) (.cst (.int 2))]])] (fin Q) (fun c m=>X c m.heap) ⟨[some (.ref st),some (.ref f.a)],hp2⟩:=by
   intro hp2 rows S2 h2 e1 e2 hgr hnr hlr
   have S2':=S2
   rw [eg] at S2'
   show wpS K N (gq _) _ _ _
   refine oE (r:=.wh t rows) S2' hgw hB' (fun Q hq=>?_) ?_
   ·conv=>whnf
    refine af e1 ?_
    refine af e1 ?_
    refine af e2 ?_
    exact hq
   ·refine fin_row hp2 (.wh t rows) S2 h2 ⟨ht,hgr⟩ (by show ap rows+1+gs'.length≤7;exact n2 hnr (Nat.le_of_eq hgl.symm) (by simp +arith only)) ?_
    show ((lns rows++[mQ]).length+1)≤f.wt
    rw [List.length_append,List.length_singleton]
    exact n2 hlr hwt (by simp +arith only)
  have hend:=wrest hp1 f.rows S1 hsz hfc F1.2 hf.good hnest (Nat.le_succ _)
  refine af hfc ?_
  refine af hfc ?_
  cases t with
  | num k=>exact hend
  | nm s=>exact hend
  | op c a b=>
   conv=>whnf
   cases q:([c]==[60]) with
   | false=>exact hend
   | true=>
    refine af hfc ?_
    cases a with
    | num k=>exact hend
    | op c' x y=>
     conv=>whnf
     rw [show ([c']==pS)=false by simp]
     exact hend
    | nm s=>
     have hs:p s:=ht.1.2.1
     refine af hfc ?_
     refine aw (aK F1.2) ?_
     refine af hfc ?_
     refine af hfc ?_
     refine bf (bc F1.2) ?_
     refine ⟨sK (show f.wt≤B by lia) hB',?_⟩
     have hgood:(Tm.op 43 (.nm s) (.num 1)).gp p:=⟨⟨.inl rfl,hs,by decide,by decide⟩,by show 1≤3;decide⟩
     refine wrest _ (f.rows++[.set s (.op 43 (.nm s) (.num 1))]) (S1.other hn.2.1 fun g hg=>?_) (fun h0 q1 q2=>aJ (hsz h0 q1 q2) (n2 q1 hn.2.2.2 (by simp +arith only))) (ak (Nat.ne_of_lt (n1 hn.1 (by simp +arith only))) hfc) ?_ (gV hf.good (show gps p [.set s _] from ⟨⟨hs,hgood⟩,trivial⟩)) ?_ ?_
     ·have h1:=hlast g hg
      have h2:=(S1.ne g hg).1
      exact ⟨Nat.ne_of_gt h1,Nat.ne_of_gt (n2 h2 h1 (by simp +arith only))⟩
     ·rw [fB];exact get_set F1.2
     ·have:ap (f.rows++[.set s (.op 43 (.nm s) (.num 1))])≤ap f.rows:=dw (Nat.le_refl _) (Nat.zero_le _)
      exact n2 this hnest (by simp +arith only)
     ·rw [fC,jf,List.length_append];exact Nat.le_refl _
end Internal
end
section
namespace Internal
variable {K:KT}
theorem DJ {n i:Nat}{X:XM}{m:MS}{e:ME}(h:PB K n X m e) {Q:Fl→MS→Prop}(hq:∀b,Q .next (m.set i (.bool b))):wpS K n (.asg [i] false e) Q X m:=h _ fun b=>hq b
structure At (L:Nat) (h0:List MO) (r:Nat) (ss:List (List Nat)) (hp:List MO) (st:Nat) (fs:List Fr):Prop where
 S:Stk L hp st fs
 O:Oks (·∈ss) fs
 ne:fs≠[]
 len:fs.length≤8
 pre:h0<+:hp
 L0:h0.length≤L
 nm:h0[r]?=some (.list (ss.map .str))
 ten:ss.length=10
 gn:∀s∈ss,Gn s
section
variable {L st r:Nat}{h0 hp hp':List MO}{ss:List (List Nat)}{fs:List Fr}
theorem At.up (A:At L h0 r ss hp st fs) (e:hp<+:hp'):At L h0 r ss hp' st fs:=⟨A.S.up e,A.O,A.ne,A.len,A.pre.trans e,A.L0,A.nm,A.ten,A.gn⟩
theorem At.names (A:At L h0 r ss hp st fs):hp[r]?=some (.list (ss.map .str)):=ag A.pre A.nm
noncomputable def jl (ss:List (List Nat)) (hp:List MO) (i:Nat):Prop:=∃sl:List (List Nat),hp[i]?=some (.list (sl.map .str))∧sl≠[]∧∀s∈sl,s∈ss
theorem jl.up {i:Nat}(h:jl ss hp i) (e:hp<+:hp'):jl ss hp' i:=let ⟨sl,h1,h2⟩:=h;⟨sl,ag e h1,h2⟩
theorem nF (ht:ss.length=10) (hp:List MO):jl ss (hp++[.list (aL (ss.map MV.str) (some 5) none)]) hp.length:=
 ⟨ss.drop 5,by rw [ac,bH (by decide),List.map_drop];rfl,(fun e=>by have:=congrArg List.length e;rw [List.length_drop,ht] at this;cases this),fun s hs=>List.mem_of_mem_drop hs⟩
theorem uu (ht:ss.length=10) (hp:List MO):jl ss (hp++[.list (aL (ss.map MV.str) none (some 5))]) hp.length:=
 ⟨ss.take 5,by rw [ac,cA (by decide),List.map_take];rfl,(fun e=>by have:=congrArg List.length e;rw [List.length_take,ht] at this;cases this),fun s hs=>List.mem_of_mem_take hs⟩
theorem At.all (A:At L h0 r ss hp st fs):jl ss hp r:=⟨ss,A.names,(fun e=>by have:=A.ten;rw [e] at this;cases this),fun s h=>h⟩
theorem At.row (A:At L h0 r ss hp st fs) {gs:List Fr}{f:Fr}(e:fs=gs++[f]) {w:Rw}(hg:w.gp (·∈ss)) (hn:w.nest=0):At L h0 r ss (hp.set f.ra (.list (mvs f.rows++[w.mv]))) st (gs++[{ f with rows:=f.rows++[w] }]):=by
 obtain ⟨S,O,ne,len,pre,L0,nm,ten,gn⟩:=A
 subst e
 obtain ⟨O1,hf⟩:=O.init
 have hL:=(S.ne f (List.mem_append_right _ (List.mem_singleton.mpr rfl))).2.2.2
 refine ⟨S.add w,O1.snoc (hf.add hg ?_),by simp,by simpa using len,aJ pre (Nat.le_trans L0 hL),L0,nm,ten,gn⟩
 have:=hf.nest
 exact n2 this (Nat.le_of_eq hn) (by simp +arith only)
theorem At.frame (A:At L h0 r ss hp st fs) (hl:fs.length<8) {wd:List Nat}{t:Tm}{b:Bool}(ht:t.gp (·∈ss)) (hwd:wd=wIf∨wd=dI) :
  At L h0 r ss ((hp++[MO.list []]++[MO.list [.str wd,t.mv,.ref hp.length,.bool b,.none]]).set st (.list (cP fs++[.ref (hp++[MO.list []]).length]))) st (fs++[⟨(hp++[MO.list []]).length,hp.length,wd,some t,[],b,none⟩]):=by
 obtain ⟨S,O,ne,len,pre,L0,nm,ten,gn⟩:=A
 have hlt:∀{i o},hp[i]?=some o→i<hp.length:=fun e=>(List.getElem?_eq_some_iff.mp e).1
 have hst:=hlt S.at_
 have hlo:=S.lo
 have hup:hp<+:hp++[.list []]++[.list [.str wd,t.mv,.ref hp.length,.bool b,.none]]:=aa (aa (ai _))
 have F2:mz (hp++[.list []]++[.list [.str wd,t.mv,.ref hp.length,.bool b,.none]]) ⟨(hp++[MO.list []]).length,hp.length,wd,some t,[],b,none⟩:=⟨ac _ _,ah (ac _ _)⟩
 refine ⟨(S.up hup).push F2 (fun g hg=>hlt (S.fr g hg).1) ⟨by show hp.length<(hp++[MO.list []]).length;simp,by show hp.length≠st;exact Nat.ne_of_gt hst,by show (hp++[MO.list []]).length≠st;simp;exact Nat.ne_of_gt (n1 hst (by simp +arith only)),by show L≤hp.length;exact n2 hlo hst (by simp +arith only)⟩,O.snoc ⟨trivial,by show 0+fs.length≤7;exact n1 hl (by simp +arith only),(fun rs e=>by cases e),.inr ⟨t,rfl,ht,hwd.imp id fun h=>⟨h,rfl⟩⟩⟩,by simp,by simp;exact n1 hl (by simp +arith only),aJ (pre.trans hup) (n2 hlo L0 (by simp +arith only)),L0,nm,ten,gn⟩
end
variable (hK:aF PP K)
include hK
theorem jL {L st r:Nat}{h0 hp:List MO}{ss:List (List Nat)}{fs:List Fr}(A:At L h0 r ss hp st fs) (hl:fs.length<8) {wd:List Nat}{t:Tm}{b:Bool}(ht:t.gp (·∈ss)) (hwd:wd=wIf∨wd=dI) {M:Nat}{Q:MV→List MO→Prop}{X:XM}{v1 v2 v3 v4 v5:Option MV}{vs:List (Option MV)}
  (hq:∀hp' fs',At L h0 r ss hp' st fs'→wts fs'≤wts fs+4→Q .none hp') :
  aD K M [.expr (.mth .append (.var 0) [.list [.cst (.str wd),.var 6,.list [],.var 7,.cst .none]])] (fin Q) X ⟨some (.ref st)::v1::v2::v3::v4::v5::some t.mv::some (.bool b)::vs,hp⟩:=by
 have B:=A.frame hl (b:=b) ht hwd
 refine aw (aK A.S.at_) ?_
 refine bf (bc (ah (ah A.S.at_))) ?_
 refine ⟨Nat.lt_of_lt_of_le (show (cP fs).length<9 by simp [cP];exact Nat.le_trans hl (nb rfl)) (aZ (by decide)),?_⟩
 refine hq _ _ B ?_
 rw [bZ]
 exact Nat.le_refl _
omit hK in
theorem FH {j:Nat}(h:j<4):∃w:Int,[MV.int 0,MV.int 4,MV.int 8,MV.int 0][j]?=some (.int w):=by
 have:j=0∨j=1∨j=2∨j=3:=by lia
 rcases this with rfl | rfl | rfl | rfl<;>exact ⟨_,rfl⟩
end Internal
end
section
namespace Internal
variable {K:KT}(hK:aF PP K)
include hK
omit hK in
noncomputable def PC (K:KT) (n:Nat) (X:XM) (m:MS) (e:ME) (φ:Prop):Prop:=∀Q:PQ,(∀b,(b=true→φ)→Q (.bool b) m)→wpE K n e Q X m
omit hK in
theorem DK {n:Nat}{X:XM}{m:MS}{a e:ME}{φ:Prop}(ha:PB K n X m a) (he:PC K n X m e φ):PC K n X m (.and [a,e]) φ:=fun Q hq=>ha _ fun b=>by
 cases b with
 | true=>exact he Q hq
 | false=>exact hq false fun h=>by cases h
omit hK in
theorem Ak {n:Nat}{X:XM}{m:MS}{a e c:ME}{φ:Prop}(ha:PB K n X m a) (he:PC K n X m e φ) (hc:PB K n X m c):PC K n X m (.and [a,e,c]) φ:=fun Q hq=>ha _ fun b=>by
 cases b with
 | true=>
  refine he _ fun b hb=>?_
  cases b with
  | true=>exact hc Q fun b'=>hq b' fun _=>hb rfl
  | false=>exact hq false fun h=>by cases h
 | false=>exact hq false fun h=>by cases h
omit hK in
theorem rD {n:Nat}{X:XM}{m:MS}{c:ME}{φ:Prop}{a b:List MSt}{Q:Fl→MS→Prop}(hc:PC K n X m c φ) (ha:φ→aD K n a Q X m) (hb:aD K n b Q X m):wpS K n (.ite c a b) Q X m:=
 hc _ fun t h=>by
  cases t with
  | true=>exact ha (h rfl)
  | false=>exact hb
omit hK in
theorem xJ {n st:Nat}{X:XM}{vs:List (Option MV)}{hp:List MO}{fs:List Fr}(h:hp[st]?=some (.list (cP fs))):PC K n X ⟨some (.ref st)::vs,hp⟩ (.cmp .lt (.blt .len [.var 0]) (.cst (.int 8))) (fs.length<8):=fun Q hq=>by
 refine az h ?_
 refine hq _ fun e=>?_
 have:=of_decide_eq_true e
 simp [cP] at this
 lia
omit hK in
theorem Am {n st:Nat}{X:XM}{vs:List (Option MV)}{hp:List MO}{fs:List Fr}(h:hp[st]?=some (.list (cP fs))):PC K n X ⟨some (.ref st)::vs,hp⟩ (.cmp .gt (.blt .len [.var 0]) (.cst (.int 1))) (1<fs.length):=fun Q hq=>by
 refine az h ?_
 refine hq _ fun e=>?_
 have:=of_decide_eq_true e
 simp [cP] at this
 lia
theorem sL {L st r:Nat}{h0 hp:List MO}{ss:List (List Nat)}{fs:List Fr}(A:At L h0 r ss hp st fs) {B M:Nat}(hB:wts fs+5≤B) (hB':B≤2000) (hM:1≤M) {more mode way:Int}{dark sec shut:Bool}{t:Tm}(ht:t.gp (·∈ss)) (hmode:mode=0∨mode=1∨mode=2) {Q:MV→List MO→Prop}{X:XT}
  (hq:∀hp' fs',At L h0 r ss hp' st fs'→wts fs'≤wts fs+5→Q .none hp') :
  aD K M (fy.body.drop 5) (fin Q) (fun c m=>X c m.heap) ⟨[some (.ref st),some (.ref r),some (.int more),some (.int mode),some (.int way),some (.bool dark),some t.mv,some (.bool sec),some (.bool shut),none,none],hp⟩:=by
 obtain ⟨gs,f,ef⟩:=oD A.ne
 have hfB:f.wt≤B:=by rw [ef,bZ] at hB;exact n1 hB (by simp +arith only)
 have put:∀{hp1:List MO} {w:Rw} {e:ME} {vs:List (Option MV)},hp<+:hp1→w.gp (·∈ss)→w.nest=0→w.lines.length=1→(∀Q:PQ,Q w.mv ⟨some (.ref st)::vs,hp1⟩→wpE K M e Q (fun c m=>X c m.heap) ⟨some (.ref st)::vs,hp1⟩)→aD K M [gq e] (fin Q) (fun c m=>X c m.heap) ⟨some (.ref st)::vs,hp1⟩:=by
  intro hp1 w e vs hpre hg hn hl he
  have A1:=A.up hpre
  have S1:=A1.S
  rw [ef] at S1
  show wpS K M (gq e) _ _ _
  refine oE S1 hfB hB' he ?_
  refine hq _ _ (A1.row ef hg hn) ?_
  rw [ef,bZ,bZ,xI,hl];exact by simp +arith only
 have setrow:∀{hp1:List MO} {i:Nat},hp<+:hp1→jl ss hp1 i→aD K M [gq (.tup [.cst (.str dj),.idx (.var 9) (.bin .mod (.bin .fdiv (.var 2) (.cst (.int 96))) (.blt .len [.var 9])),.var 6])] (fin Q) (fun c m=>X c m.heap)
   ⟨[some (.ref st),some (.ref r),some (.int more),some (.int mode),some (.int way),some (.bool dark),some t.mv,some (.bool sec),some (.bool shut),some (.ref i),none],hp1⟩:=by
  intro hp1 i hpre h1
  obtain ⟨sl,e1,hne,hsub⟩:=h1
  have hpos:0<sl.length:=List.length_pos_iff.mpr hne
  have hx:0≤more / 96 % (sl.length:Int)∧more / 96 % (sl.length:Int)<sl.length:=⟨Int.emod_nonneg _ (cne hpos),Int.emod_lt_of_pos _ (kN hpos)⟩
  have hk:(more / 96 % (sl.length:Int)).toNat<sl.length:=tn (z1 hx.1 (by simp +arith only)) (z1 hx.2 (by simp +arith only))
  refine put (w:=.set (sl[(more / 96 % (sl.length:Int)).toNat]'hk) t) hpre ⟨hsub _ (List.getElem_mem _),ht⟩ rfl rfl fun Q hq=>?_
  refine az e1 ?_
  rw [List.length_map]
  refine aw (decide_eq_true (z2 hx.1 hx.2 (by simp +arith only))) ?_
  refine af e1 ?_
  delta cQ onO;try dsimp only
  rw [aU hx.1 (by rw [List.length_map];exact hx.2)]
  dsimp only
  rw [List.getElem?_map,List.getElem?_eq_getElem hk]
  exact hq
 show wpS K M _ _ _ _
 refine dN (cN rfl .lt (.inr (.inr rfl))) ?_ ?_
 ·have after:∀{hp1:List MO} {i:Nat},hp<+:hp1→jl ss hp1 i→aD K M [.ite (.var 8) [.asg [9] false (.sl (.var 1) (some (.cst (.int 5))) none)] [],gq (.tup [.cst (.str dj),.idx (.var 9) (.bin .mod (.bin .fdiv (.var 2) (.cst (.int 96))) (.blt .len [.var 9])),.var 6])] (fin Q) (fun c m=>X c m.heap)
    ⟨[some (.ref st),some (.ref r),some (.int more),some (.int mode),some (.int way),some (.bool dark),some t.mv,some (.bool sec),some (.bool shut),some (.ref i),none],hp1⟩:=by
   intro hp1 i hpre h1
   show wpS K M _ _ _ _
   refine dN (jK rfl) ?_ (setrow hpre h1)
   refine af ((A.up hpre).names) ?_
   exact setrow (aa hpre) (nF A.ten hp1)
  conv=>whnf
  dsimp only
  refine af A.names ?_
  refine af (ah A.names) ?_
  conv=>whnf
  dsimp only [MS.push]
  rw [ac]
  delta cQ onO;try dsimp only
  refine aS (jd) (kC) ?_
  have hpre3:hp<+:hp++[MO.list (aL (ss.map MV.str) none (some 5))]++[MO.list (aL (ss.map MV.str) (some 5) none)]++[MO.list [.ref hp.length,.ref (hp++[MO.list (aL (ss.map MV.str) none (some 5))]).length]]:=aa (aa (aa (ai _)))
  have hk:∃k,sel (more / 7 % 4==3) (MV.ref hp.length) (.ref (hp++[MO.list (aL (ss.map MV.str) none (some 5))]).length)=.ref k∧jl ss (hp++[MO.list (aL (ss.map MV.str) none (some 5))]++[MO.list (aL (ss.map MV.str) (some 5) none)]++[MO.list [.ref hp.length,.ref (hp++[MO.list (aL (ss.map MV.str) none (some 5))]).length]]) k:=by
   cases (more / 7 % 4==3)
   ·exact ⟨_,rfl,(uu A.ten hp).up (aa (aa (ai _)))⟩
   ·exact ⟨_,rfl,(nF A.ten _).up (aa (ai _))⟩
  obtain ⟨k,ek,hk⟩:=hk
  rw [ek]
  conv=>whnf
  dsimp only [MS.push]
  rw [ac]
  have hr:=A.all
  rcases hmode with rfl | rfl | rfl
  ·exact after (aa hpre3) (hr.up (aa hpre3))
  ·exact after (aa hpre3) (hr.up (aa hpre3))
  ·exact after (aa hpre3) (hk.up (aa (ai _)))
 ·show wpS K M _ _ _ _
  refine dN (gk (cN rfl .eq (.inl rfl)) (xG (jK rfl))).1 ?_ ?_
  ·exact put (w:=.tell t) (ai _) ht rfl rfl fun Q hq=>hq
  ·show wpS K M _ _ _ _
   refine dN (cN rfl .eq (.inl rfl)) ?_ ?_
   ·exact put (w:=.skip) (ai _) trivial rfl rfl fun Q hq=>hq
   ·show wpS K M _ _ _ _
    refine rD (DK (cN rfl .lt (.inr (.inr rfl))) (xJ A.S.at_)) (fun hl=>?_) ?_
    ·exact jL hK A hl ht (.inl rfl) fun hp' fs' A' h'=>hq hp' fs' A' (n1 h' (by simp +arith only))
    ·show wpS K M _ _ _ _
     refine rD (Ak (cN rfl .lt (.inr (.inr rfl))) (xJ A.S.at_) (xG (jK rfl))) (fun hl=>?_) ?_
     ·show wpS K M _ _ _ _
      refine dN (gk (cN rfl .eq (.inl rfl)) (oA rfl (by decide) (by decide) .gt (.inr rfl))).1 ?_ ?_
      ·have hk:(more / 384 % 5).toNat<ss.length:=by rw [A.ten];exact emN rfl
       have hg:(Tm.op 60 (.nm (ss[(more / 384 % 5).toNat]'hk)) (.num (1+more / 1920 % 4))).gp (·∈ss):=⟨⟨.inr (.inr (.inr (.inl rfl))),List.getElem_mem _,by lia,by lia⟩,by show 1≤3;decide⟩
       refine af A.names ?_
       delta cQ onO;try dsimp only
       rw [aU (em0 rfl) (by rw [List.length_map];lia)]
       dsimp only
       rw [List.getElem?_map,List.getElem?_eq_getElem hk]
       exact jL hK A hl hg (.inr rfl) fun hp' fs' A' h'=>hq hp' fs' A' (n1 h' (by simp +arith only))
      ·exact jL hK A hl ht (.inr rfl) fun hp' fs' A' h'=>hq hp' fs' A' (n1 h' (by simp +arith only))
     ·show wpS K M _ _ _ _
      refine rD (Am A.S.at_) (fun hl=>?_) (hq hp fs A (by simp +arith only))
      obtain ⟨M,rfl⟩:∃M',M=M'+1:=⟨M-1,sb hM⟩
      have S1:=A.S
      have O1:=A.O
      rw [ef] at S1 O1
      have hgs:gs≠[]:=fun e=>by rw [ef,e] at hl;exact absurd hl (Nat.lt_irrefl 1)
      refine pY hK S1 O1 hgs (B:=B) (by rw [←ef];exact n1 hB (by simp +arith only)) hB' fun hp' fs' S' O' n' l' w' c' p'=>?_
      rw [←ef] at l' w'
      exact hq hp' fs' ⟨S',O',n',Nat.le_trans l' A.len,p' h0 A.L0 A.pre,A.L0,A.nm,A.ten,A.gn⟩ (n1 w' (by simp +arith only))
theorem Fe {L st r:Nat}{h0 hp:List MO}{ss:List (List Nat)}{fs:List Fr}(A:At L h0 r ss hp st fs) {B N:Nat}(hB:wts fs+5≤B) (hB':B≤2000) (hN:9≤N) {more mode:Int}(hmode:mode=0∨mode=1∨mode=2) {Q:MV→List MO→Prop}{X:XT}
  (hq:∀hp' fs',At L h0 r ss hp' st fs'→wts fs'≤wts fs+5→Q .none hp'):K N 40 [.ref st,.ref r,.int more,.int mode] Q X hp:=by
 obtain ⟨M,rfl,hM⟩:=room (k:=8) (show 8<N by lia)
 refine hK _ _ _ _ _ _ fy rfl rfl ?_
 refine aM (aH A.S.at_) ?_
 refine sG (fun w=>⟨[some (.ref st),some (.ref r),some (.int more),some (.int mode),some (.int (more % 12)),none,none,none,none,none,w],hp⟩) (fun _=>True) none rfl trivial (fun _ _=>A.S.at_) (fun j y w P hy _ h1 h2=>?_) (fun a w _=>?_)
 ·obtain ⟨f,ef,rfl⟩:=Option.map_eq_some_iff.mp (List.getElem?_map ..▸hy)
  refine af ((A.S.fr f (List.mem_of_getElem? ef)).1) ?_
  conv=>whnf
  cases f.sec with
  | true=>exact h1 _ _ trivial
  | false=>exact h2 _ trivial
 ·refine .nil _ _ a rfl rfl (ah (ac _ _)) (ac _ _) ?_
  have A1:=A.up (aa (o:=.list []) (aa (o:=.list a) (ai hp)))
  refine Aj hK A1.names A1.gn hM fun hp2 t b hpre ht=>?_
  have hpre:hp++[.list a]++[.list []]<+:hp2:=hpre
  have A2:=A1.up hpre
  refine ⟨rfl,?_⟩
  change aD K M (fy.body.drop 3) (fin Q) _ ⟨[some (.ref st),some (.ref r),some (.int more),some (.int mode),some (.int (more % 12)),some (.bool (!a.isEmpty)),some t.mv,some (.bool b),none,none,none],hp2⟩
  show wpS K M _ _ _ _
  refine DJ (gk (cN rfl .eq (.inl rfl)) (gk (jK rfl) (jK rfl)).2).1 fun shut=>?_
  show wpS K M _ _ _ _
  refine dN (cN rfl .eq (.inl rfl)) ?_ (sL hK A2 hB hB' (Nat.le_trans (nb rfl) hM) ht hmode hq)
  conv=>whnf
  dsimp only [MS.push,MS.set]
  rw [ac]
  delta cQ onO;try dsimp only
  rw [aU (em0 rfl) (by show _<(4:Int);exact em2 rfl)]
  obtain ⟨w',ew⟩:=FH (j:=(more / 7 % 4).toNat) (emN rfl)
  refine bN ew ?_
  exact sL hK (A2.up (aa (ai _))) hB hB' (Nat.le_trans (nb rfl) hM) ht hmode hq
end Internal
end
section
namespace Internal
variable {K:KT}(hK:aF PP K)
include hK
omit hK in
theorem uw (x:Int):dT (mix x):=by
 have:=z0 x
 unfold dT
 lia
omit hK in
theorem At.base {L st r:Nat}{h0 hp:List MO}{ss:List (List Nat)}{f:Fr}(A:At L h0 r ss hp st [f]):hp[f.ra]?=some (.list (mvs f.rows))∧hp[f.a]?=some (.list f.cells)∧gps (·∈ss) f.rows∧ap f.rows≤7:=
 have h:=A.S.fr f (List.mem_singleton.mpr rfl)
 have o:=A.O 0 f rfl
 ⟨h.2,h.1,o.good,by have:=o.nest;exact this⟩
theorem ux {L st r:Nat}{h0 hp:List MO}{ss:List (List Nat)}{fs:List Fr}(A:At L h0 r ss hp st fs) {M:Nat}(hM:1≤M) {B:Nat}(hB':B≤2000) (hB:wts fs≤B) {v0 v1 v2:Option MV}{vs:List (Option MV)}{Q:MV→List MO→Prop}{X:XT}
  (hq:∀hp' i rows,h0<+:hp'→hp'[i]?=some (.list (mvs rows))→gps (·∈ss) rows→ap rows≤7→(lns rows).length≤B→Q (.ref i) hp') :
  aD K M (di.body.drop 2) (fin Q) (fun c m=>X c m.heap) ⟨v0::v1::v2::some (.ref st)::vs,hp⟩:=by
 show wpS K M _ _ _ _
 refine ⟨cls fs+1,gQ (fun k m=>∃hp fs,m=⟨v0::v1::v2::some (.ref st)::vs,hp⟩∧At L h0 r ss hp st fs∧wts fs≤B∧cls fs+1≤k) (fun m hI=>by obtain ⟨_,_,_,_,_,h⟩:=hI;exact nf (n1 h (by simp +arith only))) (fun k m W hI hW=>?_) _ _ ⟨hp,fs,rfl,A,hB,Nat.le_refl _⟩⟩
 obtain ⟨hp,fs,rfl,A,hB,hk⟩:=hI
 obtain ⟨gs,f,ef⟩:=oD A.ne
 refine az A.S.at_ ?_
 conv=>whnf
 cases gs with
 | nil=>
  subst ef
  obtain ⟨b1,b2,b3,b4⟩:=A.base
  refine af A.S.at_ ?_
  refine af b2 ?_
  refine hq hp f.ra f.rows A.pre b1 b3 b4 ?_
  have:wts ([]++[f])=f.wt+0:=rfl
  have:(lns f.rows).length+4≤f.wt:=by unfold Fr.wt;exact by simp +arith only
  lia
 | cons g gs=>
  have hl:(1:Int)<(cP fs).length:=by rw [ef];simp [cP];lia
  rw [decide_eq_true hl]
  obtain ⟨M,rfl⟩:∃M',M=M'+1:=⟨M-1,sb hM⟩
  have S1:=A.S
  have O1:=A.O
  rw [ef] at S1 O1
  refine pY hK S1 O1 (List.cons_ne_nil _ _) (B:=B) (by rw [←ef];exact hB) hB' fun hp' fs' S' O' n' l' w' c' p'=>?_
  rw [←ef] at l' w' c'
  exact hW _ ⟨hp',fs',rfl,⟨S',O',n',Nat.le_trans l' A.len,p' h0 A.L0 A.pre,A.L0,A.nm,A.ten,A.gn⟩,n2 w' hB (by simp +arith only),n2 c' hk (by simp +arith only)⟩
theorem An {rc r:Nat}{cells:List Int}{ss:List (List Nat)}{loose:Int}{h:List MO}{N:Nat}(hc:h[rc]?=some (.list (cells.map .int))) (hr:h[r]?=some (.list (ss.map .str))) (ten:ss.length=10) (gn:∀s∈ss,Gn s) (hz:cells.length≤63) (hN:10≤N) {Q:MV→List MO→Prop}{X:XT}
  (hq:∀hp' i rows,h<+:hp'→hp'[i]?=some (.list (mvs rows))→gps (·∈ss) rows→ap rows≤7→(lns rows).length≤4+5 * cells.length→Q (.ref i) hp'):K N 41 [.ref rc,.ref r,.int loose] Q X h:=by
 obtain ⟨M,rfl,hM⟩:=room (k:=9) (show 9<N by lia)
 have e1:(h++[MO.list []]).length=h.length+1:=by simp
 have e2:(h++[MO.list []]++[MO.list [.str [],.none,.ref h.length,.bool false,.none]]).length=h.length+2:=by simp
 have A0:At h.length h r ss (h++[MO.list []]++[MO.list [.str [],.none,.ref h.length,.bool false,.none]]++[MO.list [.ref (h++[MO.list []]).length]]) (h++[MO.list []]++[MO.list [.str [],.none,.ref h.length,.bool false,.none]]).length [⟨(h++[MO.list []]).length,h.length,[],none,[],false,none⟩]:=by
  refine ⟨⟨ac _ _,fun f hf=>?_,List.pairwise_singleton ..,fun f hf=>?_,by rw [e2];exact by simp +arith only⟩,fun i f e=>?_,List.cons_ne_nil _ _,Nat.le_of_ble_eq_true rfl,aa (aa (aa (ai _))),Nat.le_refl _,hr,ten,gn⟩
  ·rw [List.mem_singleton.mp hf]
   exact ⟨ah (ac _ _),ah (ah (ac _ _))⟩
  ·rw [List.mem_singleton.mp hf,e1,e2]
   exact ⟨by show h.length<h.length+1;exact by simp +arith only,by show h.length≠h.length+2;lia,by show h.length+1≠h.length+2;lia,Nat.le_refl _⟩
  ·cases i with
   | zero=>cases e;exact ⟨trivial,Nat.zero_le _,(fun rs e=>by cases e),.inl rfl⟩
   | succ i=>cases e
 refine hK _ _ _ _ _ _ di rfl rfl ?_
 conv=>whnf
 dsimp only [cE,MS.set,MS.push]
 refine aM (jG (ag A0.pre hc)) ?_
 generalize (h++[MO.list []]++[MO.list [.str [],.none,.ref h.length,.bool false,.none]]).length=st at *
 refine kB (fun j w4 w5 w6 w7 hp fs=>⟨[some (.ref rc),some (.ref r),some (.int loose),some (.ref st),w4,w5,w6,w7],hp⟩) (fun j w4 w5 w6 w7 hp fs=>At h.length h r ss hp st fs∧wts fs≤4+5 * j)
  _ _ _ _ _ _ rfl ⟨A0,Nat.le_refl 4⟩ (fun _ _ _ _ _ _ _ hI=>ag hI.1.pre hc) (fun j y w4 w5 w6 w7 hp fs P hy hI hn _=>?_) (fun w4 w5 w6 w7 hp fs hI=>?_)
 ·obtain ⟨A,hw⟩:=hI
  obtain ⟨z,hz1,rfl⟩:=oo hy
  obtain ⟨c,hc1,rfl⟩:=Option.map_eq_some_iff.mp (List.getElem?_map ..▸hz1)
  have hj:j<cells.length:=(List.getElem?_eq_some_iff.mp hc1).1
  have hc':=ag A.pre hc
  have last:∀more mode:Int,mode=0∨mode=1∨mode=2→aD K M [.expr (.call 40 [.var 3,.var 1,.var 6,.var 7])] P (fun c m=>X c m.heap) ⟨[some (.ref rc),some (.ref r),some (.int loose),some (.ref st),some (.int j),some (.int c),some (.int more),some (.int mode)],hp⟩:=fun more mode hm=>by
   refine Fe hK A (B:=2000) (by lia) (Nat.le_refl _) hM hm fun hp' fs' A' hw'=>?_
   exact hn _ _ _ _ _ _ ⟨A',n2 hw' hw (by simp +arith only)⟩
  have second:∀more mode:Int,mode=0∨mode=1→aD K M [.ite (.and [.cmp .gt (.var 2) (.cst (.int 1)),.cmp .eq (.var 4) (.bin .mod (.var 2) (.blt .len [.var 0]))]) [.asg [7] false (.cst (.int 2))] [],.expr (.call 40 [.var 3,.var 1,.var 6,.var 7])] P (fun c m=>X c m.heap) ⟨[some (.ref rc),some (.ref r),some (.int loose),some (.ref st),some (.int j),some (.int c),some (.int more),some (.int mode)],hp⟩:=fun more mode hm=>by
   show wpS K M _ _ _ _
   refine dN (gk (cN rfl .gt (.inr (.inl rfl))) fun Q hq=>?_).1 (last more 2 (.inr (.inr rfl))) (last more mode (by lia))
   refine az hc' ?_
   refine aw (decide_eq_true (by rw [List.length_map];exact kN (n1 hj (by simp +arith only)))) ?_
   exact hq _
  refine ⟨rfl,?_⟩
  refine ⟨.inl (by unfold dT;decide),?_⟩
  obtain ⟨M,rfl⟩:∃M',M=M'+1:=⟨M-1,sb (n1 hN (by simp +arith only))⟩
  refine b8 hK ?_
  refine ⟨.inl (uw _),?_⟩
  refine b8 hK ?_
  change aD K (M+1) [_,_,_,_] P _ ⟨[some (.ref rc),some (.ref r),some (.int loose),some (.ref st),some (.int j),some (.int c),some (.int _),w7],hp⟩
  show wpS K (M+1) (.ite _ _ _) _ _ ⟨[some (.ref rc),some (.ref r),some (.int loose),some (.ref st),some (.int j),some (.int c),some (.int _),some (.int 0)],hp⟩
  refine dN (gk (cN rfl .eq (.inl rfl)) (oA rfl (by decide) (by decide) .eq (.inl rfl))).1 (second _ 1 (.inr rfl)) (second _ 0 (.inl rfl))
 ·obtain ⟨A,hw⟩:=hI
  rw [pO,List.length_map] at hw
  exact ux hK A (Nat.le_trans (nb rfl) hM) (B:=4+5 * cells.length) (by lia) hw hq
end Internal
end
section
namespace Internal
set_option genCtorIdx false in
structure St where
 es:List (List Nat × MV)
 turns:Nat
 said:List Int
set_option genCtorIdx false in
inductive bR where
 | nought (k:Int) | tired (k:Int)
gen_injective_theorems% bR
noncomputable abbrev jm:List Nat:=[110,111,117,103,104,116]
noncomputable abbrev DL:List Nat:=[116,105,114,101,100]
noncomputable def bR.word:bR→List Nat
 | .nought _=>jm
 | .tired _=>DL
noncomputable def bR.num:bR→Int
 | .nought k=>k
 | .tired k=>k
noncomputable def mB:Option bR→MV
 | none=>.none
 | some s=>.tup [.str s.word,.int s.num]
noncomputable def Rw.ft:Rw→Tm
 | .set _ t=>t
 | .tell t=>t
 | .skip=>.num 0
 | .ite t _ _=>t
 | .wh t _=>t
mutual
inductive EvR:Int→Rw→St→St→Option bR→Prop
 | skip {k s}:EvR k .skip s s none
 | bad {k r s}:r≠.skip→rk s.es r.ft=none→EvR k r s s (some (.nought k))
 | set {k x t v s}:rk s.es t=some v→EvR k (.set x t) s ⟨bA s.es x (.int v),s.turns,s.said⟩ none
 | tell {k t v s}:rk s.es t=some v→EvR k (.tell t) s ⟨s.es,s.turns,s.said++[v]⟩ none
 | yes {k t a b v s s' o}:rk s.es t=some v→v≠0→Ev (k+1) a s s' o→EvR k (.ite t a b) s s' o
 | no {k t a b s s' o}:rk s.es t=some 0→Ev (k+1+aj a) b s s' o→EvR k (.ite t a b) s s' o
 | done {k t a s}:rk s.es t=some 0→EvR k (.wh t a) s s none
 | tired {k t a v s}:rk s.es t=some v→v≠0→s.turns=0→EvR k (.wh t a) s s (some (.tired k))
 | turn {k t a v n s s₁ s' o}:rk s.es t=some v→v≠0→s.turns=n+1→Ev (k+1) a ⟨s.es,n,s.said⟩ s₁ none→EvR k (.wh t a) s₁ s' o→EvR k (.wh t a) s s' o
 | stop {k t a v n s s₁ q}:rk s.es t=some v→v≠0→s.turns=n+1→Ev (k+1) a ⟨s.es,n,s.said⟩ s₁ (some q)→EvR k (.wh t a) s s₁ (some q)
inductive Ev:Int→List Rw→St→St→Option bR→Prop
 | nil {k s}:Ev k [] s s none
 | cons {k r rs s s₁ s' o}:EvR k r s s₁ none→Ev (k+r.size) rs s₁ s' o→Ev k (r::rs) s s' o
 | stop {k r rs s s₁ q}:EvR k r s s₁ (some q)→Ev k (r::rs) s s₁ (some q)
end
theorem xK {n:Nat}(ih:∀m<n,∀(rs:List Rw) (k:Int) (s:St),s.turns=m→∃s' o,Ev k rs s s' o∧s'.turns≤s.turns)
  (ihw:∀m<n,∀(t:Tm) (a:List Rw) (k:Int) (s:St),s.turns=m→∃s' o,EvR k (.wh t a) s s' o∧s'.turns≤s.turns)
  (r:Rw) (hr:∀b∈r.subs,∀(k:Int) (s:St),s.turns=n→∃s' o,Ev k b s s' o∧s'.turns≤s.turns) (k:Int) (s:St) (hs:s.turns=n):∃s' o,EvR k r s s' o∧s'.turns≤s.turns:=by
 cases hv:rk s.es r.ft with
 | none=>
  by_cases hq:r=.skip
  ·subst hq;exact ⟨s,none,.skip,Nat.le_refl _⟩
  ·exact ⟨s,_,.bad hq hv,Nat.le_refl _⟩
 | some v=>
  cases r with
  | set x t=>exact ⟨_,none,.set hv,Nat.le_refl _⟩
  | tell t=>exact ⟨_,none,.tell hv,Nat.le_refl _⟩
  | skip=>exact ⟨s,none,.skip,Nat.le_refl _⟩
  | ite t a b=>
   by_cases h0:v=0
   ·subst h0
    obtain ⟨s',o,h1,h2⟩:=hr b (.tail _ (.head _)) (k+1+aj a) s hs
    exact ⟨s',o,.no hv h1,h2⟩
   ·obtain ⟨s',o,h1,h2⟩:=hr a (.head _) (k+1) s hs
    exact ⟨s',o,.yes hv h0 h1,h2⟩
  | wh t a=>
   by_cases h0:v=0
   ·subst h0;exact ⟨s,none,.done hv,Nat.le_refl _⟩
   ·cases n with
    | zero=>exact ⟨s,_,.tired hv h0 hs,Nat.le_refl _⟩
    | succ n=>
     obtain ⟨s₁,o,h1,h2⟩:=ih n (Nat.lt_succ_self n) a (k+1) ⟨s.es,n,s.said⟩ rfl
     replace h2:s₁.turns≤n:=h2
     cases o with
     | some q=>exact ⟨s₁,_,.stop hv h0 hs h1,n2 h2 (Nat.le_of_eq hs.symm) (by simp +arith only)⟩
     | none=>
      obtain ⟨s',o,h3,h4⟩:=ihw s₁.turns (n1 h2 (by simp +arith only)) t a k s₁ rfl
      exact ⟨s',o,.turn hv h0 hs h1 h3,n3 h4 h2 (Nat.le_of_eq hs.symm) (by simp +arith only)⟩
theorem oG {n:Nat}:∀(rs:List Rw),(∀r∈rs,∀m≤n,∀(k:Int) (s:St),s.turns=m→∃s' o,EvR k r s s' o∧s'.turns≤s.turns)→∀m≤n,∀(k:Int) (s:St),s.turns=m→∃s' o,Ev k rs s s' o∧s'.turns≤s.turns
 | [],_,m,_,k,s,_=>⟨s,none,.nil,Nat.le_refl _⟩
 | r::rs,h,m,hm,k,s,hs=>by
  obtain ⟨s₁,o,h1,h2⟩:=h r (.head _) m hm k s hs
  cases o with
  | some q=>exact ⟨s₁,_,.stop h1,h2⟩
  | none=>
   obtain ⟨s',o,h3,h4⟩:=oG rs (fun r hr=>h r (.tail _ hr)) s₁.turns (n3 h2 (Nat.le_of_eq hs) hm (by simp +arith only)) (k+r.size) s₁ rfl
   exact ⟨s',o,.cons h1 h3,Nat.le_trans h4 h2⟩
theorem Ao (n:Nat):∀m≤n,∀(rs:List Rw) (k:Int) (s:St),s.turns=m→∃s' o,Ev k rs s s' o∧s'.turns≤s.turns:=by
 induction n with
 | zero=>
  intro m hm rs
  have hm:m=0:=Nat.le_zero.mp hm
  subst hm
  refine dK (P:=fun rs=>∀(k:Int) (s:St),s.turns=0→∃s' o,Ev k rs s s' o∧s'.turns≤s.turns) (fun rs ihb k s hs=>?_) rs
  refine oG (n:=0) rs (fun r hr m hm k s hs=>?_) 0 (Nat.le_refl _) k s hs
  have hm:m=0:=Nat.le_zero.mp hm
  subst hm
  exact xK (n:=0) (fun m hm=>absurd hm (Nat.not_lt_zero _)) (fun m hm=>absurd hm (Nat.not_lt_zero _)) r (ihb r hr) k s hs
 | succ n ih=>
  intro m hm rs
  rcases Nat.lt_or_ge m (n+1) with hlt | hge
  ·exact ih m (Nat.le_of_lt_succ hlt) rs
  ·have hm:m=n+1:=Nat.le_antisymm hm hge
   subst hm
   have one:∀{r:Rw} {k:Int} {s s':St} {o:Option bR},Ev k [r] s s' o→EvR k r s s' o:=fun {r k s s' o} h=>by
    cases h with
    | cons h1 h2=>cases h2;exact h1
    | stop h1=>exact h1
   have ihw:∀m<n+1,∀(t:Tm) (a:List Rw) (k:Int) (s:St),s.turns=m→∃s' o,EvR k (.wh t a) s s' o∧s'.turns≤s.turns:=fun m hm t a k s hs=>by
    obtain ⟨s',o,h1,h2⟩:=ih m (Nat.le_of_lt_succ hm) [.wh t a] k s hs
    exact ⟨s',o,one h1,h2⟩
   have ih':∀m<n+1,∀(rs:List Rw) (k:Int) (s:St),s.turns=m→∃s' o,Ev k rs s s' o∧s'.turns≤s.turns:=fun m hm=>ih m (Nat.le_of_lt_succ hm)
   refine dK (P:=fun rs=>∀(k:Int) (s:St),s.turns=n+1→∃s' o,Ev k rs s s' o∧s'.turns≤s.turns) (fun rs ihb k s hs=>?_) rs
   refine oG (n:=n+1) rs (fun r hr m hm k s hs=>?_) (n+1) (Nat.le_refl _) k s hs
   rcases Nat.lt_or_ge m (n+1) with hlt | hge
   ·obtain ⟨s',o,h1,h2⟩:=ih' m hlt [r] k s hs
    exact ⟨s',o,one h1,h2⟩
   ·have hm:m=n+1:=Nat.le_antisymm hm hge
    subst hm
    exact xK ih' ihw r (ihb r hr) k s hs
theorem rE (rs:List Rw) (k:Int) (s:St):∃s' o,Ev k rs s s' o∧s'.turns≤s.turns:=Ao s.turns s.turns (Nat.le_refl _) rs k s rfl
end Internal
end
section
namespace Internal
theorem jM:∀(es:List (List Nat × MV)) (x:List Nat) (v:MV) (k:List Nat),aE (bA es x v) k=if k=x then some v else aE es k
 | [],x,v,k=>by
  show (match x==k with | true=>some v | false=>none)=_
  by_cases e:k=x
  ·subst e;rw [beq_self_eq_true,if_pos rfl]
  ·rw [if_neg e,beq_eq_false_iff_ne.mpr (Ne.symm e)];rfl
 | (y,w)::r,x,v,k=>by
  have ih:=jM r x v k
  by_cases e:y=x
  ·subst e
   show aE (match y==y with | true=>(y,v)::r | false=>(y,w)::bA r y v) k=_
   rw [beq_self_eq_true]
   show (match y==k with | true=>some v | false=>aE r k)=if k=y then some v else (match y==k with | true=>some w | false=>aE r k)
   by_cases e2:k=y
   ·subst e2;rw [beq_self_eq_true,if_pos rfl]
   ·rw [if_neg e2,beq_eq_false_iff_ne.mpr (Ne.symm e2)]
  ·show aE (match y==x with | true=>(y,v)::r | false=>(y,w)::bA r x v) k=_
   rw [beq_eq_false_iff_ne.mpr e]
   show (match y==k with | true=>some w | false=>aE (bA r x v) k)=if k=x then some v else (match y==k with | true=>some w | false=>aE r k)
   by_cases e2:y=k
   ·subst e2;rw [beq_self_eq_true,if_neg e]
   ·rw [beq_eq_false_iff_ne.mpr e2];exact ih
theorem ey:∀{es:List (List Nat × MV)}{k:List Nat}{v w:MV},aE es k=some w→(bA es k v).map (·.1)=es.map (·.1)
 | [],k,v,w,h=>aB h
 | (a,u)::es,k,v,w,h=>by
  replace h:(match a==k with | true=>some u | false=>aE es k)=some w:=h
  show (match a==k with | true=>(a,v)::es | false=>(a,u)::bA es k v:List (List Nat × MV)).map (·.1)=a::es.map (·.1)
  cases q:a==k with
  | true=>rfl
  | false=>
   rw [q] at h
   show a::(bA es k v).map (·.1)=_
   rw [ey h]
mutual
noncomputable def Rw.okp (p:List Nat→Prop):Rw→Prop
 | .set s t=>p s∧t.ok p
 | .tell t=>t.ok p
 | .skip=>True
 | .ite t a b=>t.ok p∧du p a∧du p b
 | .wh t a=>t.ok p∧du p a
noncomputable def du (p:List Nat→Prop):List Rw→Prop
 | []=>True
 | r::rs=>r.okp p∧du p rs
end
theorem jN {p:List Nat→Prop}{r:Rw}(h:r.okp p) (hr:r≠.skip):r.ft.ok p:=by
 cases r with
 | set s t=>exact h.2
 | tell t=>exact h
 | skip=>exact absurd rfl hr
 | ite t a b=>exact h.1
 | wh t a=>exact h.1
noncomputable def bnd (M:Nat) (s:St):Nat:=s.said.length+s.turns * M
structure Kp (p:List Nat→Prop) (M z:Nat) (s s':St):Prop where
 good:bk s'.es p
 keys:s'.es.map (·.1)=s.es.map (·.1)
 bnd:bnd M s'≤bnd M s+z
theorem Kp.refl {p:List Nat→Prop}{M z:Nat}{s:St}(g:bk s.es p):Kp p M z s s:=⟨g,rfl,Nat.le_add_right _ _⟩
theorem xL {es:List (List Nat × MV)}{p:List Nat→Prop}(g:bk es p) {x:List Nat}{v:Int}(hv:In6 v):bk (bA es x (.int v)) p:=fun s hs=>by
 rw [jM]
 by_cases e:s=x
 ·rw [if_pos e];exact ⟨v,rfl,hv⟩
 ·rw [if_neg e];exact g s hs
theorem cO (p:List Nat→Prop) (M:Nat):(∀{k r s s' o},EvR k r s s' o→r.okp p→r.size≤M→bk s.es p→Kp p M r.size s s')∧(∀{k rs s s' o},Ev k rs s s' o→du p rs→aj rs≤M→bk s.es p→Kp p M (aj rs) s s'):=by
 have c3:∀{x:List Nat} {t:Tm} {v:Int} {s:St},rk s.es t=some v→(Rw.set x t).okp p→(Rw.set x t).size≤M→bk s.es p→Kp p M (Rw.set x t).size s ⟨bA s.es x (.int v),s.turns,s.said⟩:=fun {x t v s} hv ho hz g=>by
  obtain ⟨w,h1,_⟩:=g x ho.1
  exact ⟨xL g (pX g ho.2 hv),ey h1,Nat.le_add_right _ _⟩
 have c4:∀{t:Tm} {v:Int} {s:St},rk s.es t=some v→(Rw.tell t).okp p→(Rw.tell t).size≤M→bk s.es p→Kp p M (Rw.tell t).size s ⟨s.es,s.turns,s.said++[v]⟩:=fun {t v s} hv ho hz g=>by
  refine ⟨g,rfl,?_⟩
  show (s.said++[v]).length+s.turns * M≤s.said.length+s.turns * M+1
  rw [List.length_append,List.length_singleton];exact by simp +arith only
 have c5:∀{k t a b v s s' o},rk s.es t=some v→v≠0→Ev (k+1) a s s' o→(du p a→aj a≤M→bk s.es p→Kp p M (aj a) s s')→(Rw.ite t a b).okp p→(Rw.ite t a b).size≤M→bk s.es p→Kp p M (Rw.ite t a b).size s s':=fun {k t a b v s s' o} _ _ _ ih ho hz g=>by
  have hz:aj a+aj b+1≤M:=hz
  obtain ⟨h1,h2,h3⟩:=ih ho.2.1 (n1 hz (by simp +arith only)) g
  exact ⟨h1,h2,by show bnd M s'≤bnd M s+(aj a+aj b+1);exact n1 h3 (by simp +arith only)⟩
 have c6:∀{k:Int} {t a b s s' o},rk s.es t=some 0→Ev (k+1+aj a) b s s' o→(du p b→aj b≤M→bk s.es p→Kp p M (aj b) s s')→(Rw.ite t a b).okp p→(Rw.ite t a b).size≤M→bk s.es p→Kp p M (Rw.ite t a b).size s s':=fun {k t a b s s' o} _ _ ih ho hz g=>by
  have hz:aj a+aj b+1≤M:=hz
  obtain ⟨h1,h2,h3⟩:=ih ho.2.2 (n1 hz (by simp +arith only)) g
  exact ⟨h1,h2,by show bnd M s'≤bnd M s+(aj a+aj b+1);exact n1 h3 (by simp +arith only)⟩
 have dec:∀{s:St} {n z:Nat},s.turns=n+1→z≤M→bnd M ⟨s.es,n,s.said⟩+z≤bnd M s:=fun {s n z} hs hz=>by
  show s.said.length+n * M+z≤s.said.length+s.turns * M
  rw [hs,Nat.succ_mul];exact n1 hz (by simp +arith only)
 have c9:∀{k t a v n s s₁ s' o},rk s.es t=some v→v≠0→s.turns=n+1→Ev (k+1) a ⟨s.es,n,s.said⟩ s₁ none→EvR k (.wh t a) s₁ s' o→(du p a→aj a≤M→bk s.es p→Kp p M (aj a) ⟨s.es,n,s.said⟩ s₁)→((Rw.wh t a).okp p→(Rw.wh t a).size≤M→bk s₁.es p→Kp p M (Rw.wh t a).size s₁ s')→
   (Rw.wh t a).okp p→(Rw.wh t a).size≤M→bk s.es p→Kp p M (Rw.wh t a).size s s':=fun {k t a v n s s₁ s' o} _ _ hs _ _ ih1 ih2 ho hz g=>by
  have hz':aj a+1≤M:=hz
  obtain ⟨h1,h2,h3⟩:=ih1 ho.2 (n1 hz' (by simp +arith only)) g
  obtain ⟨h4,h5,h6⟩:=ih2 ho hz h1
  have:=dec hs (show aj a≤M by lia)
  exact ⟨h4,h5.trans h2,n3 this h6 h3 (by simp +arith only)⟩
 have c10:∀{k t a v n s s₁ q},rk s.es t=some v→v≠0→s.turns=n+1→Ev (k+1) a ⟨s.es,n,s.said⟩ s₁ (some q)→(du p a→aj a≤M→bk s.es p→Kp p M (aj a) ⟨s.es,n,s.said⟩ s₁)→
   (Rw.wh t a).okp p→(Rw.wh t a).size≤M→bk s.es p→Kp p M (Rw.wh t a).size s s₁:=fun {k t a v n s s₁ q} _ _ hs _ ih1 ho hz g=>by
  have hz':aj a+1≤M:=hz
  obtain ⟨h1,h2,h3⟩:=ih1 ho.2 (n1 hz' (by simp +arith only)) g
  have:=dec hs (show aj a≤M by lia)
  exact ⟨h1,h2,n2 this h3 (by simp +arith only)⟩
 have c12:∀{k:Int} {r:Rw} {rs s s₁ s' o},EvR k r s s₁ none→Ev (k+r.size) rs s₁ s' o→(r.okp p→r.size≤M→bk s.es p→Kp p M r.size s s₁)→(du p rs→aj rs≤M→bk s₁.es p→Kp p M (aj rs) s₁ s')→du p (r::rs)→aj (r::rs)≤M→bk s.es p→Kp p M (aj (r::rs)) s s':=fun {k r rs s s₁ s' o} _ _ ih1 ih2 ho hz g=>by
  have hz:r.size+aj rs≤M:=hz
  obtain ⟨h1,h2,h3⟩:=ih1 ho.1 (n1 hz (by simp +arith only)) g
  obtain ⟨h4,h5,h6⟩:=ih2 ho.2 (n1 hz (by simp +arith only)) h1
  exact ⟨h4,h5.trans h2,by show bnd M s'≤bnd M s+(r.size+aj rs);exact n2 h6 h3 (by simp +arith only)⟩
 have c13:∀{k:Int} {r:Rw} {rs s s₁ q},EvR k r s s₁ (some q)→(r.okp p→r.size≤M→bk s.es p→Kp p M r.size s s₁)→du p (r::rs)→aj (r::rs)≤M→bk s.es p→Kp p M (aj (r::rs)) s s₁:=fun {k r rs s s₁ q} _ ih1 ho hz g=>by
  have hz:r.size+aj rs≤M:=hz
  obtain ⟨h1,h2,h3⟩:=ih1 ho.1 (n1 hz (by simp +arith only)) g
  exact ⟨h1,h2,by show bnd M s₁≤bnd M s+(r.size+aj rs);exact n1 h3 (by simp +arith only)⟩
 refine ⟨fun h=>EvR.rec (motive_1:=fun k r s s' o _=>r.okp p→r.size≤M→bk s.es p→Kp p M r.size s s') (motive_2:=fun k rs s s' o _=>du p rs→aj rs≤M→bk s.es p→Kp p M (aj rs) s s') (fun _ _ g=>.refl g) (fun _ _ _ _ g=>.refl g) c3 c4 c5 c6 (fun _ _ _ g=>.refl g) (fun _ _ _ _ _ g=>.refl g) c9 c10 (fun _ _ g=>.refl g) c12 c13 h,
  fun h=>Ev.rec (motive_1:=fun k r s s' o _=>r.okp p→r.size≤M→bk s.es p→Kp p M r.size s s') (motive_2:=fun k rs s s' o _=>du p rs→aj rs≤M→bk s.es p→Kp p M (aj rs) s s') (fun _ _ g=>.refl g) (fun _ _ _ _ g=>.refl g) c3 c4 c5 c6 (fun _ _ _ g=>.refl g) (fun _ _ _ _ _ g=>.refl g) c9 c10 (fun _ _ g=>.refl g) c12 c13 h⟩
end Internal
end
section
namespace Internal
structure df (hp:List MO) (ri x y:Nat) (s:St):Prop where
 a:hp[ri]?=some (.attrs [(aY,.ref x),(cM,.int s.turns),(nE,.ref y)])
 d:hp[x]?=some (.dict s.es)
 l:hp[y]?=some (.list (s.said.map .int))
noncomputable def Kps (ri x y:Nat) (h h':List MO):Prop:=∀(j:Nat) (o:MO),j≠ri→j≠x→j≠y→h[j]?=some o→h'[j]?=some o
theorem Kps.refl {ri x y:Nat}(h:List MO):Kps ri x y h h:=fun _ _ _ _ _ e=>e
theorem Kps.trans {ri x y:Nat}{h h' h'':List MO}(a:Kps ri x y h h') (b:Kps ri x y h' h''):Kps ri x y h h'':=fun j o h1 h2 h3 e=>b j o h1 h2 h3 (a j o h1 h2 h3 e)
theorem Kps.pre {ri x y:Nat}{h h':List MO}(e:h<+:h'):Kps ri x y h h':=fun _ _ _ _ _ q=>ag e q
theorem df.pre {h h':List MO}{ri x y:Nat}{s:St}(r:df h ri x y s) (e:h<+:h'):df h' ri x y s:=⟨ag e r.a,ag e r.d,ag e r.l⟩
structure xM (p:List Nat→Prop) (M:Nat) (r:Rw) (s:St):Prop where
 good:r.good
 okp:r.okp p
 size:r.size≤M
 nest:r.nest≤50
 env:bk s.es p
 len:s.es.length≤1000
 bnd:bnd M s+r.size≤1000000
structure Bt (p:List Nat→Prop) (M:Nat) (rs:List Rw) (s:St):Prop where
 good:db rs
 okp:du p rs
 size:aj rs≤M
 nest:ap rs≤50
 env:bk s.es p
 len:s.es.length≤1000
 bnd:bnd M s+aj rs≤1000000
theorem pZ {a b:List (List Nat × MV)}(h:a.map (·.1)=b.map (·.1)):a.length=b.length:=by
 have:=congrArg List.length h
 rw [List.length_map,List.length_map] at this;exact this
theorem Ap (r:Rw):((nums 1 [] [r]).map eZ).length=r.size:=by rw [List.length_map,bq];exact Nat.add_zero _
noncomputable def xN (s:Option MSt):List MSt:=match s with
 | some (.while_ _ b)=>b
 | some (.for_ _ _ _ _ b)=>b
 | _=>[]
noncomputable abbrev il:List MSt:=xN cv.body[0]?
noncomputable abbrev FI:List MSt:=xN cu.body[1]?
section
variable (K:KT) (ri x y:Nat) (p:List Nat→Prop) (M:Nat)
noncomputable def gu (k:Int) (r:Rw) (s s':St) (o:Option bR):Prop:=∀⦃N:Nat⦄ ⦃Q:MV→List MO→Prop⦄ ⦃X:XT⦄ ⦃h:List MO⦄,df h ri x y s→xM p M r s→3 * r.nest+13<N→(∀h',Kps ri x y h h'→df h' ri x y s'→Q (mB o) h')→K N 85 [.inst 1 ri,r.mv,.int k] Q X h
noncomputable def dP (k:Int) (t:Tm) (a:List Rw) (s s':St) (o:Option bR):Prop:=∃n,∀⦃N:Nat⦄ ⦃P:Fl→MS→Prop⦄ ⦃X:XM⦄ ⦃h:List MO⦄ ⦃w3 w4:Option MV⦄,df h ri x y s→xM p M (.wh t a) s→3 * ap a+14<N→
 (∀h' v3 v4,Kps ri x y h h'→df h' ri x y s'→P (.ret (mB o)) ⟨[some (.inst 1 ri),some (Rw.wh t a).mv,some (.int k),v3,v4],h'⟩)→
  bS (fun P m=>wpE K N (.cst (.bool true)) (bF P) X m) (fun P m=>aD K N il P X m) P n ⟨[some (.inst 1 ri),some (Rw.wh t a).mv,some (.int k),w3,w4],h⟩
noncomputable def g6 (k:Int) (rs:List Rw) (s s':St) (o:Option bR):Prop:=∀⦃N:Nat⦄ ⦃P:Fl→MS→Prop⦄ ⦃X:XM⦄ ⦃h:List MO⦄ ⦃u f w4 w5:Option MV⦄,df h ri x y s→Bt p M rs s→3 * ap rs+13<N→
 (∀h' k' v4 v5,Kps ri x y h h'→df h' ri x y s'→P (match o with | none=>.next | some q=>.ret (mB (some q))) ⟨[some (.inst 1 ri),u,f,some (.int k'),v4,v5],h'⟩)→
  dA none (fun v P m=>asg [4] false v (fun m=>aD K N FI P X m) m) P (mvs rs) ⟨[some (.inst 1 ri),u,f,some (.int k),w4,w5],h⟩
end
section
variable {K:KT}(hK:aF PP K) {ri x y:Nat}(d1:ri≠x) (d2:ri≠y) (d3:x≠y) {p:List Nat→Prop}{M:Nat}
include hK
theorem gW {k:Int}{rs:List Rw}{s s':St}{o:Option bR}(hf:g6 K ri x y p M k rs s s' o) {N:Nat}{Q:MV→List MO→Prop}{X:XT}{h:List MO}(R:df h ri x y s) (C:Bt p M rs s) (hN:3 * ap rs+14<N)
  (hq:∀h',Kps ri x y h h'→df h' ri x y s'→Q (mB o) h'):K N 84 [.inst 1 ri,.tup (mvs rs),.int k] Q X h:=by
 obtain ⟨m,rfl,hM⟩:=room hN
 refine hK _ _ _ _ _ _ cu rfl rfl ?_
 refine hf R C (hM) fun h' k' v4 v5 q1 q2=>?_
 cases o with
 | none=>exact hq h' q1 q2
 | some q=>exact hq h' q1 q2
omit hK in
theorem Aq {k:Int}{s:St}:g6 K ri x y p M k [] s s none:=by
 intro N P X h u f w4 w5 R C hN hq
 show dA _ _ _ [] _
 rw [kR]
 exact ⟨trivial,hq h k w4 w5 (.refl _) R⟩
theorem xO {k:Int}{r:Rw}{rs:List Rw}{s s₁ s':St}{o:Option bR}(he:EvR k r s s₁ none) (hr:gu K ri x y p M k r s s₁ none) (hf:g6 K ri x y p M (k+r.size) rs s₁ s' o):g6 K ri x y p M k (r::rs) s s' o:=by
 intro N P X h u f w4 w5 R C hN hq
 obtain ⟨g,ok,sz,ne,en,ln,bd⟩:=C
 have sz:r.size+aj rs≤M:=sz
 have bd:bnd M s+(r.size+aj rs)≤1000000:=bd
 have ne:max r.nest (ap rs)≤50:=ne
 have hN:3 * max r.nest (ap rs)+13<N:=hN
 obtain ⟨k1,k2,k3⟩:=(cO p M).1 he ok.1 (n1 sz (by simp +arith only)) en
 show dA _ _ _ (r.mv::mvs rs) _
 rw [gA]
 refine ⟨trivial,?_⟩
 refine aw (de R.a rfl) ?_
 refine hr R ⟨g.1,ok.1,n1 sz (by simp +arith only),n2 ne (Nat.le_max_left r.nest (ap rs)) (by simp +arith only),en,ln,n1 bd (by simp +arith only)⟩ (m3l hN) fun h2 q2 R2=>?_
 refine dM hK [r] (k:=1) (ab:=[]) (by show r.size+0≤_;exact n1 bd (by simp +arith only)) (by show 0+max r.nest 0≤_;rw [Nat.zero_add];exact mx0 (Nat.le_trans (Nat.le_max_left ..) (lk ne rfl))) (n2 (Nat.le_max_left r.nest (ap rs)) hN (by show max r.nest 0+1+1+_≤_;rw [Nat.max_zero];exact by simp +arith only)) fun h3 p3 e3=>?_
 have p3:h2<+:h3:=p3
 refine az e3 ?_
 rw [Ap]
 exact hf (R2.pre p3) ⟨g.2,ok.2,n1 sz (by simp +arith only),n2 ne (Nat.le_max_right r.nest (ap rs)) (by simp +arith only),k1,by rw [pZ k2];exact ln,n2 k3 bd (by simp +arith only)⟩ (m3r hN) fun h' k' v4 v5 q1 R'=>hq h' k' v4 v5 ((q2.trans (.pre p3)).trans q1) R'
theorem xP {k:Int}{r:Rw}{rs:List Rw}{s s₁:St}{q:bR}(hr:gu K ri x y p M k r s s₁ (some q)):g6 K ri x y p M k (r::rs) s s₁ (some q):=by
 intro N P X h u f w4 w5 R C hN hq
 obtain ⟨g,ok,sz,ne,en,ln,bd⟩:=C
 have sz:r.size+aj rs≤M:=sz
 have bd:bnd M s+(r.size+aj rs)≤1000000:=bd
 have ne:max r.nest (ap rs)≤50:=ne
 have hN:3 * max r.nest (ap rs)+13<N:=hN
 show dA _ _ _ (r.mv::mvs rs) _
 rw [gA]
 refine ⟨trivial,?_⟩
 refine aw (de R.a rfl) ?_
 refine hr R ⟨g.1,ok.1,n1 sz (by simp +arith only),n2 ne (Nat.le_max_left r.nest (ap rs)) (by simp +arith only),en,ln,n1 bd (by simp +arith only)⟩ (m3l hN) fun h2 q2 R2=>?_
 exact hq h2 k _ _ q2 R2
end
end Internal
end
section
namespace Internal
theorem Ar {r:Rw}(h:r.good):r.ft.deep≤3:=by
 cases r with
 | set s t=>exact h.2.2
 | tell t=>exact h.2
 | skip=>exact Nat.zero_le _
 | ite t a b=>exact h.1.2
 | wh t a=>exact h.1.2
theorem jO {es:List (List Nat × MV)}{t:Tm}{v:Int}(h:rk es t=some v):ofO (rk es t)=.int v:=by rw [h];rfl
section
variable {K:KT}(hK:aF PP K) {ri x y:Nat}(d1:ri≠x) (d2:ri≠y) (d3:x≠y) {p:List Nat→Prop}{M:Nat}
omit hK in
theorem xQ {k:Int}{s:St}(hK:aF PP K):gu K ri x y p M k .skip s s none:=by
 intro N Q X h R C hN hq
 obtain ⟨m,rfl,hM⟩:=room hN
 refine hK _ _ _ _ _ _ bC rfl rfl ?_
 exact hq h (.refl _) R
include hK
theorem jo {k:Int}{r:Rw}{s:St}{N:Nat}{Q:MV→List MO→Prop}{X:XT}{h:List MO}(h1:r≠.skip) (h2:∀t a,r≠.wh t a) (R:df h ri x y s) (C:xM p M r s) (hN:7<N)
  (hq:aD K N (bC.body.drop 3) (fin Q) (fun c m=>X c m.heap) ⟨[some (.inst 1 ri),some r.mv,some (.int k),some (ofO (rk s.es r.ft))],h⟩):K (N+1) 85 [.inst 1 ri,r.mv,.int k] Q X h:=by
 refine hK _ _ _ _ _ _ bC rfl rfl ?_
 have hd:=Ar C.good
 have ho:=jN C.okp h1
 cases r with
 | skip=>exact absurd rfl h1
 | wh t a=>exact absurd rfl (h2 t a)
 | set z t=>
  refine ke hK (eX (ik (n:=0) (.set z t))) (Nat.le_trans (nb rfl) hN) ?_
  refine aR R.a ?_
  exact oz hK C.env t (by show t.deep+2≤N;have:t.deep≤3:=hd;exact n2 this hN (by simp +arith only)) R.d ho hq
 | tell t=>
  refine ke hK (eX (ik (n:=0) (.tell t))) (Nat.le_trans (nb rfl) hN) ?_
  refine aR R.a ?_
  exact oz hK C.env t (by show t.deep+2≤N;have:t.deep≤3:=hd;exact n2 this hN (by simp +arith only)) R.d ho hq
 | ite t a b=>
  refine ke hK (eX (ik (n:=0) (.ite t a b))) (Nat.le_trans (nb rfl) hN) ?_
  refine aR R.a ?_
  exact oz hK C.env t (by show t.deep+2≤N;have:t.deep≤3:=hd;exact n2 this hN (by simp +arith only)) R.d ho hq
theorem As {k:Int}{r:Rw}{s:St}(h1:r≠.skip) (h2:∀t a,r≠.wh t a) (hv:rk s.es r.ft=none):gu K ri x y p M k r s s (some (.nought k)):=by
 intro N Q X h R C hN hq
 obtain ⟨m,rfl,hM⟩:=room hN
 refine jo hK h1 h2 R C (n1 hN (by simp +arith only)) ?_
 rw [hv]
 exact hq h (.refl _) R
include d1 d3 in
theorem Au {k:Int}{z:List Nat}{t:Tm}{v:Int}{s:St}(hv:rk s.es t=some v):gu K ri x y p M k (.set z t) s ⟨bA s.es z (.int v),s.turns,s.said⟩ none:=by
 intro N Q X h R C hN hq
 obtain ⟨m,rfl,hM⟩:=room hN
 refine jo hK (by intro q;cases q) (by intro _ _ q;cases q) R C (n1 hN (by simp +arith only)) ?_
 rw [show ofO (rk s.es (Rw.set z t).ft)=.int v from jO hv]
 refine aR R.a ?_
 refine bw R.d ⟨Nat.lt_of_le_of_lt C.len (by decide),?_⟩
 exact hq _ (fun j o h1 h2 h3 e=>ak (Ne.symm h2) e) ⟨ak (Ne.symm d1) R.a,get_set R.d,ak d3 R.l⟩
include d2 d3 in
theorem xR {k:Int}{t:Tm}{v:Int}{s:St}(hv:rk s.es t=some v):gu K ri x y p M k (.tell t) s ⟨s.es,s.turns,s.said++[v]⟩ none:=by
 intro N Q X h R C hN hq
 obtain ⟨m,rfl,hM⟩:=room hN
 refine jo hK (by intro q;cases q) (by intro _ _ q;cases q) R C (n1 hN (by simp +arith only)) ?_
 rw [show ofO (rk s.es (Rw.tell t).ft)=.int v from jO hv]
 refine aR R.a ?_
 refine aw (aK R.l) ?_
 refine bf (bc R.l) ⟨?_,?_⟩
 ·have:=C.bnd
  have:s.said.length≤1000000:=by unfold bnd at this;exact n1 this (by simp +arith only)
  rw [List.length_map];exact Nat.lt_of_le_of_lt this (by decide)
 ·exact hq _ (fun j o h1 h2 h3 e=>ak (Ne.symm h3) e) ⟨ak (Ne.symm d2) R.a,ak (Ne.symm d3) R.d,by rw [List.map_append];exact get_set R.l⟩
theorem Av {k:Int}{t:Tm}{a b:List Rw}{v:Int}{s s':St}{o:Option bR}(hv:rk s.es t=some v) (h0:v≠0) (hf:g6 K ri x y p M (k+1) a s s' o):gu K ri x y p M k (.ite t a b) s s' o:=by
 intro N Q X h R C hN hq
 obtain ⟨m,rfl,hM⟩:=room hN
 refine jo hK (by intro q;cases q) (by intro _ _ q;cases q) R C (n1 hN (by simp +arith only)) ?_
 rw [show ofO (rk s.es (Rw.ite t a b).ft)=.int v from jO hv]
 obtain ⟨g,ok,sz,ne,en,ln,bd⟩:=C
 have sz:aj a+aj b+1≤M:=sz
 have bd:bnd M s+(aj a+aj b+1)≤1000000:=bd
 have ne:max (ap a) (ap b)+1≤50:=ne
 have hM:3 * (max (ap a) (ap b)+1)+13≤m:=hM
 conv=>whnf
 rw [show (v==0)=false from beq_eq_false_iff_ne.mpr h0]
 refine aw (de R.a rfl) ?_
 exact gW hK hf R ⟨g.2.1,ok.2.1,n1 sz (by simp +arith only),n2 ne (Nat.le_max_left (ap a) (ap b)) (by simp +arith only),en,ln,n1 bd (by simp +arith only)⟩ (by lia) fun h' q R'=>hq h' q R'
theorem DM {k:Int}{t:Tm}{a b:List Rw}{s s':St}{o:Option bR}(hv:rk s.es t=some 0) (hf:g6 K ri x y p M (k+1+aj a) b s s' o):gu K ri x y p M k (.ite t a b) s s' o:=by
 intro N Q X h R C hN hq
 obtain ⟨m,rfl,hM⟩:=room hN
 refine jo hK (by intro q;cases q) (by intro _ _ q;cases q) R C (n1 hN (by simp +arith only)) ?_
 rw [show ofO (rk s.es (Rw.ite t a b).ft)=.int 0 from jO hv]
 obtain ⟨g,ok,sz,ne,en,ln,bd⟩:=C
 have sz:aj a+aj b+1≤M:=sz
 have bd:bnd M s+(aj a+aj b+1)≤1000000:=bd
 have ne:max (ap a) (ap b)+1≤50:=ne
 have hM:3 * (max (ap a) (ap b)+1)+13≤m:=hM
 refine aw (de R.a rfl) ?_
 refine dM hK a (k:=1) (ab:=[]) (n1 bd (by simp +arith only)) (by show 0+ap a≤_;exact n2 ne (Nat.le_max_left (ap a) (ap b)) (by simp +arith only)) (n2 hM (Nat.le_max_left (ap a) (ap b)) (by simp +arith only)) fun h3 p3 e3=>?_
 have p3:h<+:h3:=p3
 refine az e3 ?_
 rw [List.length_map,bq]
 exact gW hK hf (R.pre p3) ⟨g.2.2,ok.2.2,n1 sz (by simp +arith only),n2 ne (Nat.le_max_right (ap a) (ap b)) (by simp +arith only),en,ln,n1 bd (by simp +arith only)⟩ (by lia) fun h' q R'=>hq h' ((Kps.pre p3).trans q) R'
theorem DN {k:Int}{t:Tm}{a:List Rw}{s s':St}{o:Option bR}(hl:dP K ri x y p M k t a s s' o):gu K ri x y p M k (.wh t a) s s' o:=by
 intro N Q X h R C hN hq
 obtain ⟨n,hl⟩:=hl
 obtain ⟨m,rfl,hM⟩:=room hN
 have hM:3 * (ap a+1)+13≤m:=hM
 refine hK _ _ _ _ _ _ bC rfl rfl ?_
 refine aw (de R.a rfl) ?_
 obtain ⟨m,rfl,hM⟩:=room (k:=3 * (ap a+1)+12) (show _<m by lia)
 refine hK _ _ _ _ _ _ cv rfl rfl ?_
 exact ⟨n,hl R C (n1 hM (by simp +arith only)) fun h' v3 v4 q R'=>hq h' q R'⟩
theorem jp {k:Int}{t:Tm}{a:List Rw}{s:St}{N n:Nat}{P:Fl→MS→Prop}{X:XM}{h:List MO}{w3 w4:Option MV}(R:df h ri x y s) (C:xM p M (.wh t a) s) (hN:6<N)
  (hq:aD K N (il.drop 1) (fun f m=>match f with
   | .next=>bS (fun P m=>wpE K N (.cst (.bool true)) (bF P) X m) (fun P m=>aD K N il P X m) P n m
   | .cont=>bS (fun P m=>wpE K N (.cst (.bool true)) (bF P) X m) (fun P m=>aD K N il P X m) P n m
   | .brk=>P .next m
   | .ret r=>P (.ret r) m) X ⟨[some (.inst 1 ri),some (Rw.wh t a).mv,some (.int k),some (ofO (rk s.es t)),w4],h⟩) :
  bS (fun P m=>wpE K N (.cst (.bool true)) (bF P) X m) (fun P m=>aD K N il P X m) P (n+1) ⟨[some (.inst 1 ri),some (Rw.wh t a).mv,some (.int k),w3,w4],h⟩:=by
 rw [fK]
 refine aR R.a ?_
 exact oz hK C.env t (by have:t.deep≤3:=C.good.1.2;exact n2 this hN (by simp +arith only)) R.d C.okp.1 hq
end
end Internal
end
section
namespace Internal
section
variable {K:KT}(hK:aF PP K) {ri x y:Nat}(d1:ri≠x) (d2:ri≠y) (d3:x≠y) {p:List Nat→Prop}{M:Nat}
include hK
theorem xS {k:Int}{t:Tm}{a:List Rw}{s:St}(hv:rk s.es t=none):dP K ri x y p M k t a s s (some (.nought k)):=⟨1,by
 intro N P X h w3 w4 R C hN hq
 refine jp hK R C (n1 hN (by simp +arith only)) ?_
 rw [hv]
 exact hq h _ _ (.refl _) R⟩
theorem uy {k:Int}{t:Tm}{a:List Rw}{s:St}(hv:rk s.es t=some 0):dP K ri x y p M k t a s s none:=⟨1,by
 intro N P X h w3 w4 R C hN hq
 refine jp hK R C (n1 hN (by simp +arith only)) ?_
 rw [hv]
 exact hq h _ _ (.refl _) R⟩
theorem rF {k:Int}{t:Tm}{a:List Rw}{v:Int}{s:St}(hv:rk s.es t=some v) (h0:v≠0) (hs:s.turns=0):dP K ri x y p M k t a s s (some (.tired k)):=⟨1,by
 intro N P X h w3 w4 R C hN hq
 refine jp hK R C (n1 hN (by simp +arith only)) ?_
 rw [jO hv]
 conv=>whnf
 rw [show (v==0)=false from beq_eq_false_iff_ne.mpr h0]
 refine aR R.a ?_
 rw [hs]
 exact hq h _ _ (.refl _) R⟩
include d1 d2 in
theorem sM {k:Int}{t:Tm}{a:List Rw}{v:Int}{n:Nat}{s s₁:St}{o:Option bR}(hv:rk s.es t=some v) (h0:v≠0) (hs:s.turns=n+1) (hf:g6 K ri x y p M (k+1) a ⟨s.es,n,s.said⟩ s₁ o) {N q:Nat}{P:Fl→MS→Prop}{X:XM}{h:List MO}{w3 w4:Option MV}(R:df h ri x y s) (C:xM p M (.wh t a) s) (hN:3 * ap a+14<N)
  (hq:∀h',Kps ri x y h h'→df h' ri x y s₁→aD K N (il.drop 6) (fun f m=>match f with
   | .next=>bS (fun P m=>wpE K N (.cst (.bool true)) (bF P) X m) (fun P m=>aD K N il P X m) P q m
   | .cont=>bS (fun P m=>wpE K N (.cst (.bool true)) (bF P) X m) (fun P m=>aD K N il P X m) P q m
   | .brk=>P .next m
   | .ret r=>P (.ret r) m) X ⟨[some (.inst 1 ri),some (Rw.wh t a).mv,some (.int k),some (.int v),some (mB o)],h'⟩) :
  bS (fun P m=>wpE K N (.cst (.bool true)) (bF P) X m) (fun P m=>aD K N il P X m) P (q+1) ⟨[some (.inst 1 ri),some (Rw.wh t a).mv,some (.int k),w3,w4],h⟩:=by
 refine jp hK R C (n1 hN (by simp +arith only)) ?_
 rw [jO hv]
 conv=>whnf
 rw [show (v==0)=false from beq_eq_false_iff_ne.mpr h0]
 refine aR R.a ?_
 conv=>whnf
 rw [show (((s.turns:Nat):Int)==0)=false from beq_eq_false_iff_ne.mpr (cne (n1 (Nat.le_of_eq hs.symm) (by simp +arith only)))]
 refine aR R.a ?_
 refine aR R.a ⟨(by decide:3<1000),?_⟩
 have R1:df (h.set ri (.attrs [(aY,.ref x),(cM,.int ((s.turns:Int)-1)),(nE,.ref y)])) ri x y ⟨s.es,n,s.said⟩:=by
  refine ⟨?_,ak d1 R.d,ak d2 R.l⟩
  rw [get_set R.a]
  have:((s.turns:Nat):Int)-1=(n:Nat):=by lia
  rw [this]
 change aD K N (il.drop 5) _ X ⟨_,h.set ri (.attrs [(aY,.ref x),(cM,.int ((s.turns:Int)-1)),(nE,.ref y)])⟩
 have k1:Kps ri x y h (h.set ri (.attrs [(aY,.ref x),(cM,.int ((s.turns:Int)-1)),(nE,.ref y)])):=fun j o h1 _ _ e=>ak (Ne.symm h1) e
 generalize h.set ri (.attrs [(aY,.ref x),(cM,.int ((s.turns:Int)-1)),(nE,.ref y)])=h1 at *
 refine aw (de R1.a rfl) ?_
 refine jk hK (h:=h1) (eX (ik (n:=0) (.wh t a))) (n1 hN (by simp +arith only)) fun us hus=>?_
 obtain ⟨u,us',rfl,hb,rfl⟩:=hus
 have hb:=nD a hb
 subst hb
 refine af (ac _ _) ?_
 obtain ⟨g,ok,sz,ne,en,ln,bd⟩:=C
 have sz:aj a+1≤M:=sz
 have bd:bnd M s+(aj a+1)≤1000000:=bd
 have ne:ap a+1≤50:=ne
 have hb2:bnd M ⟨s.es,n,s.said⟩+M≤bnd M s:=by
  show s.said.length+n * M+M≤s.said.length+s.turns * M
  rw [hs,Nat.succ_mul];exact by simp +arith only
 refine gW hK hf (R1.pre (aa (ai _))) ⟨g.2,ok.2,n1 sz (by simp +arith only),n1 ne (by simp +arith only),en,ln,n2 hb2 bd (by simp +arith only)⟩ (hN) fun h' q R'=>?_
 exact hq h' ((k1.trans (.pre (aa (ai _)))).trans q) R'
include d1 d2 in
theorem uz {k:Int}{t:Tm}{a:List Rw}{v:Int}{n:Nat}{s s₁:St}{q:bR}(hv:rk s.es t=some v) (h0:v≠0) (hs:s.turns=n+1) (hf:g6 K ri x y p M (k+1) a ⟨s.es,n,s.said⟩ s₁ (some q)):dP K ri x y p M k t a s s₁ (some q):=⟨1,by
 intro N P X h w3 w4 R C hN hq
 exact sM hK d1 d2 hv h0 hs (o:=some q) hf (q:=0) R C (hN) fun h' q R'=>hq h' _ _ q R'⟩
include d1 d2 in
theorem uL {k:Int}{t:Tm}{a:List Rw}{v:Int}{n:Nat}{s s₁ s':St}{o:Option bR}(hv:rk s.es t=some v) (h0:v≠0) (hs:s.turns=n+1) (he:Ev (k+1) a ⟨s.es,n,s.said⟩ s₁ none) (hf:g6 K ri x y p M (k+1) a ⟨s.es,n,s.said⟩ s₁ none) (hl:dP K ri x y p M k t a s₁ s' o):dP K ri x y p M k t a s s' o:=by
 obtain ⟨q,hl⟩:=hl
 refine ⟨q+1,?_⟩
 intro N P X h w3 w4 R C hN hq
 refine sM hK d1 d2 hv h0 hs (o:=none) hf (q:=q) R C (hN) fun h' k' R'=>?_
 obtain ⟨g,ok,sz,ne,en,ln,bd⟩:=C
 have sz':aj a+1≤M:=sz
 have bd:bnd M s+(aj a+1)≤1000000:=bd
 have hb2:bnd M ⟨s.es,n,s.said⟩+M≤bnd M s:=by
  show s.said.length+n * M+M≤s.said.length+s.turns * M
  rw [hs,Nat.succ_mul];exact by simp +arith only
 obtain ⟨k1,k2,k3⟩:=(cO p M).2 he ok.2 (n1 sz' (by simp +arith only)) en
 exact hl R' ⟨g,ok,sz,ne,k1,by rw [pZ k2];exact ln,by show bnd M s₁+(aj a+1)≤_;lia⟩ (hN) fun h'' v3 v4 q R''=>hq h'' v3 v4 (k'.trans q) R''
include d1 d2 d3
theorem DP {k:Int}{rs:List Rw}{s s':St}{o:Option bR}(h:Ev k rs s s' o):g6 K ri x y p M k rs s s' o:=by
 have no:∀{r:Rw} {k:Int} {s s':St} {o:Option bR},(∀t a,r≠.wh t a)→gu K ri x y p M k r s s' o→gu K ri x y p M k r s s' o∧∀t a,r=.wh t a→dP K ri x y p M k t a s s' o:=fun h1 h2=>⟨h2,fun t a e=>absurd e (h1 t a)⟩
 have yes:∀{k:Int} {t:Tm} {a:List Rw} {s s':St} {o:Option bR},dP K ri x y p M k t a s s' o→gu K ri x y p M k (.wh t a) s s' o∧∀t' a',Rw.wh t a=.wh t' a'→dP K ri x y p M k t' a' s s' o:=fun h=>⟨DN hK h,fun t' a' e=>by cases e;exact h⟩
 have c1:∀{k:Int} {s:St},gu K ri x y p M k .skip s s none∧∀t a,Rw.skip=.wh t a→dP K ri x y p M k t a s s none:=fun {k s}=>no (fun _ _ q=>nomatch q) (xQ hK)
 have c2:∀{k:Int} {r:Rw} {s:St},r≠.skip→rk s.es r.ft=none→gu K ri x y p M k r s s (some (.nought k))∧∀t a,r=.wh t a→dP K ri x y p M k t a s s (some (.nought k)):=fun {k r s} h1 h2=>by
  cases r with
  | wh t a=>exact yes (xS hK h2)
  | _=>exact no (fun _ _ q=>nomatch q) (As hK h1 (fun _ _ q=>nomatch q) h2)
 have c11:∀{k:Int} {s:St},g6 K ri x y p M k [] s s none:=fun {k s}=>Aq
 have c12:∀{k:Int} {r:Rw} {rs:List Rw} {s s₁ s':St} {o:Option bR},EvR k r s s₁ none→Ev (k+r.size) rs s₁ s' o→(gu K ri x y p M k r s s₁ none∧∀t a,r=.wh t a→dP K ri x y p M k t a s s₁ none)→g6 K ri x y p M (k+r.size) rs s₁ s' o→g6 K ri x y p M k (r::rs) s s' o:=fun {k r rs s s₁ s' o} h1 _ ih1 ih2=>xO hK h1 ih1.1 ih2
 have c13:∀{k:Int} {r:Rw} {rs:List Rw} {s s₁:St} {q:bR},EvR k r s s₁ (some q)→(gu K ri x y p M k r s s₁ (some q)∧∀t a,r=.wh t a→dP K ri x y p M k t a s s₁ (some q))→g6 K ri x y p M k (r::rs) s s₁ (some q):=fun {k r rs s s₁ q} _ ih=>xP hK ih.1
 exact @Ev.rec (motive_1:=fun k r s s' o _=>gu K ri x y p M k r s s' o∧∀t a,r=.wh t a→dP K ri x y p M k t a s s' o) (motive_2:=fun k rs s s' o _=>g6 K ri x y p M k rs s s' o)
  @c1 @c2 (fun h=>no (fun _ _ q=>nomatch q) (Au hK d1 d3 h)) (fun h=>no (fun _ _ q=>nomatch q) (xR hK d2 d3 h)) (fun h1 h2 _ ih=>no (fun _ _ q=>nomatch q) (Av hK h1 h2 ih)) (fun h1 _ ih=>no (fun _ _ q=>nomatch q) (DM hK h1 ih))
  (fun h=>yes (uy hK h)) (fun h1 h2 h3=>yes (rF hK h1 h2 h3)) (fun h1 h2 h3 h4 _ ih1 ih2=>yes (uL hK d1 d2 h1 h2 h3 h4 ih1 (ih2.2 _ _ rfl))) (fun h1 h2 h3 _ ih=>yes (uz hK d1 d2 h1 h2 h3 ih))
  @c11 @c12 @c13 _ _ _ _ _ h
end
end Internal
end
section
namespace Internal
theorem mC:∀{es:List (List Nat × MV)}{k:List Nat},k∈es.map (·.1)→∃v,aE es k=some v∧(k,v)∈es
 | [],k,h=>aX h
 | (a,w)::es,k,h=>by
  show ∃v,(match a==k with | true=>some w | false=>aE es k)=some v∧_
  cases q:a==k with
  | true=>rw [eq_of_beq q];exact ⟨w,rfl,.head _⟩
  | false=>
   rcases List.mem_cons.mp h with e | h
   ·rw [e,beq_self_eq_true] at q;exact tf q
   ·obtain ⟨v,h1,h2⟩:=mC h;exact ⟨v,h1,.tail _ h2⟩
theorem p8:∀{es:List (List Nat × MV)}{k:List Nat}{v:MV},aE es k=some v→(k,v)∈es
 | [],k,v,h=>aB h
 | (a,w)::es,k,v,h=>by
  replace h:(match a==k with | true=>some w | false=>aE es k)=some v:=h
  cases q:a==k with
  | true=>rw [q] at h;rw [←Option.some.inj h,eq_of_beq q];exact .head _
  | false=>rw [q] at h;exact .tail _ (p8 h)
theorem mD {f:List Nat→MV}:∀{ns:List (List Nat)}{s:List Nat},s∈ns→aE (ns.map fun n=>(n,f n)) s=some (f s)
 | [],s,h=>aX h
 | n::ns,s,h=>by
  show (match n==s with | true=>some (f n) | false=>aE (ns.map fun n=>(n,f n)) s)=some (f s)
  cases q:n==s with
  | true=>rw [eq_of_beq q]
  | false=>
   rcases List.mem_cons.mp h with e | h
   ·rw [e,beq_self_eq_true] at q;exact tf q
   ·exact mD h
structure dQ (es:List (List Nat × MV)) (ns:List (List Nat)):Prop where
 keys:es.map (·.1)=ns
 vals:∀e∈es,∃k,e.2=.int k∧In6 k
theorem dQ.vok {es:List (List Nat × MV)}{ns:List (List Nat)}(v:dQ es ns):Vok es ns:=by
 refine ⟨by rw [←v.keys,List.length_map],fun s hs=>?_⟩
 obtain ⟨w,h1,h2⟩:=mC (es:=es) (k:=s) (by rw [v.keys];exact hs)
 obtain ⟨k,h3,h4⟩:=v.vals _ h2
 obtain rfl:w=.int k:=h3
 exact ⟨k,h1,h4.1,h4.2⟩
theorem dQ.good {es:List (List Nat × MV)}{ns ms:List (List Nat)}(v:dQ es ns):bk (bI es ms) (·∈ms):=fun s hs=>by
 unfold bI
 rw [mD (f:=fun n=>(aE es n).getD (.int 0)) hs]
 cases e:aE es s with
 | none=>exact ⟨0,rfl,by unfold In6;decide⟩
 | some w=>
  obtain ⟨k,h3,h4⟩:=v.vals _ (p8 e)
  obtain rfl:w=.int k:=h3
  exact ⟨k,rfl,h4⟩
theorem nG {p q:List Nat→Prop}:∀{t:Tm},t.ok q→(∀x∈an t,p x)→t.ok p
 | .num _,h,_=>h
 | .nm s,_,h=>h s (.head _)
 | .op c a b,h1,h=>⟨h1.1,nG h1.2.1 fun x hx=>h x (List.mem_append_left _ hx),nG h1.2.2 fun x hx=>h x (List.mem_append_right _ hx)⟩
mutual
theorem DQ {p:List Nat→Prop}:∀(r:Rw) (k:Int) (ab:List Tm),r.good→(∀x∈bG (r.num k ab),p x)→r.okp p
 | .set s t,k,ab,g,h=>by
  have h:∀x∈(s::aC (an t))++[],p x:=h
  rw [List.append_nil] at h
  exact ⟨h s (.head _),nG g.2.1 fun x hx=>h x (.tail _ (aA.mpr hx))⟩
 | .tell t,k,ab,g,h=>by
  have h:∀x∈aC (an t)++[],p x:=h
  rw [List.append_nil] at h
  exact nG g.1 fun x hx=>h x (aA.mpr hx)
 | .skip,_,_,_,_=>trivial
 | .ite t a b,k,ab,g,h=>by
  have h:∀x∈aC (an t)++bG (nums (k+1) (ab++[t]) a++nums (k+1+aj a) (ab++[t]) b),p x:=h
  rw [cz] at h
  exact ⟨nG g.1.1 fun x hx=>h x (List.mem_append_left _ (aA.mpr hx)),fD a _ _ g.2.1 fun x hx=>h x (List.mem_append_right _ (List.mem_append_left _ hx)),fD b _ _ g.2.2 fun x hx=>h x (List.mem_append_right _ (List.mem_append_right _ hx))⟩
 | .wh t a,k,ab,g,h=>by
  have h:∀x∈aC (an t)++bG (nums (k+1) (ab++[t]) a),p x:=h
  exact ⟨nG g.1.1 fun x hx=>h x (List.mem_append_left _ (aA.mpr hx)),fD a _ _ g.2 fun x hx=>h x (List.mem_append_right _ hx)⟩
theorem fD {p:List Nat→Prop}:∀(rs:List Rw) (k:Int) (ab:List Tm),db rs→(∀x∈bG (nums k ab rs),p x)→du p rs
 | [],_,_,_,_=>trivial
 | r::rs,k,ab,g,h=>by
  have h:∀x∈bG (r.num k ab++nums (k+r.size) ab rs),p x:=h
  rw [cz] at h
  exact ⟨DQ r k ab g.1 fun x hx=>h x (List.mem_append_left _ hx),fD rs _ ab g.2 fun x hx=>h x (List.mem_append_right _ hx)⟩
end
theorem sN:∀{h0 h':List MO},(∀(j:Nat) (o:MO),h0[j]?=some o→h'[j]?=some o)→h0<+:h'
 | [],h',_=>List.nil_prefix
 | o::h0,[],h=>aB (h 0 o rfl)
 | o::h0,o'::h',h=>by
  obtain rfl:o'=o:=Option.some.inj (h 0 o rfl)
  obtain ⟨t,e⟩:=sN (h0:=h0) (h':=h') fun j q hq=>h (j+1) q hq
  exact ⟨t,by rw [←e];rfl⟩
theorem Ff {m:MS}{a:Nat}{v:MV}(h:a<m.vars.length):(m.set a v).get a=some v:=by
 unfold MS.get MS.set
 rw [List.getElem?_set_self h]
noncomputable abbrev Fg:List Nat:=[100,111,110,101]
noncomputable def Aw:Option bR→List Nat
 | none=>Fg
 | some q=>q.word
noncomputable def Ax:Option bR→Int
 | none=>0
 | some q=>q.num
noncomputable def d8 (ns:List (List Nat)) (es:List (List Nat × MV)):List MV:=ns.map fun n=>.tup [.str n,(aE es n).getD (.int 0)]
section
variable {K:KT}(hK:aF PP K)
include hK
theorem Fh {i d:Nat}{A B ns:List (List Nat)}{rows:List Rw}{es:List (List Nat × MV)}{t:Nat}{s':St}{o:Option bR}{N:Nat}{Q:MV→List MO→Prop}{X:XT}{h:List MO}(hp:bn h i A B rows) (hl:A.length+B.length≤300) (hd:h[d]?=some (.dict es)) (hv:dQ es (A++B)) (ht:t≤450) (hg:db rows) (hs:aj rows≤400) (hns:aC (av A B rows)=ns) (h64:ns.length<64) (hn:ap rows≤7) (he:Ev 1 rows ⟨bI es ns,t,[]⟩ s' o) (hN:60<N)
  (hq:∀h' r y,h<+:h'→h.length≤r→h.length≤y→r≠y→h'[r]?=some (.list (d8 ns s'.es))→h'[y]?=some (.list (s'.said.map .int))→Q (.tup [.str (Aw o),.int (Ax o),.ref r,.ref y]) h'):K N 87 [.inst 0 i,.ref d,.int t] Q X h:=by
 obtain ⟨m,rfl,hM⟩:=room hN
 refine hK _ _ _ _ _ _ rh rfl rfl ?_
 refine Ag hK (h:=h) hp hl hd hv.vok (Nat.le_trans (nb rfl) hM) fun h1 p1=>?_
 refine FG hK (.int t) (Nat.le_trans (nb rfl) hM) ?_
 rw [decide_eq_true (show (0:Int)≤t by lia),decide_eq_true (show (t:Int)≤1000 by lia)]
 obtain ⟨m,rfl,hM⟩:=room hM
 show K m 83 _ _ _ _
 have hp1:=hp.up p1
 subst hns
 refine ur hK (h0:=h1) hp1 (ag p1 hd) hg (hs) hl h64 hn (n1 hN (by simp +arith only)) fun h2 x y p2 hx hy hxy a2 d2 s2=>?_
 have p2:h1<+:h2:=p2
 have hp2:=hp1.up p2
 obtain ⟨_,_,b1,_⟩:=id hp2
 have R2:df h2 h1.length x y ⟨bI es (aC (av A B rows)),t,[]⟩:=⟨a2,d2,s2⟩
 have hG:bk (bI es (aC (av A B rows))) (·∈aC (av A B rows)):=hv.good
 have hok:du (·∈aC (av A B rows)) rows:=fD rows 1 [] hg fun x hx=>aA.mpr (List.mem_append_right _ hx)
 have hlen:(bI es (aC (av A B rows))).length≤1000:=by unfold bI;rw [List.length_map];exact n1 h64 (by simp +arith only)
 have hb0:bnd 400 ⟨bI es (aC (av A B rows)),t,[]⟩+aj rows≤1000000:=by
  show 0+t * 400+aj rows≤_
  lia
 refine aw (de a2 rfl) ?_
 refine aw (de b1 rfl) ?_
 refine iC hK (h:=h2) hp2 (nb rfl) ?_
 refine gW hK (DP hK (p:=(·∈aC (av A B rows))) (M:=400) (Nat.ne_of_lt hx) (Nat.ne_of_lt hy) hxy he) R2 ⟨hg,hok,hs,Nat.le_trans hn (nb rfl),hG,hlen,hb0⟩ (by lia) fun h3 q3 R3=>?_
 obtain ⟨k1,k2,k3⟩:=(cO (·∈aC (av A B rows)) 400).2 he hok hs hG
 have p3:h1<+:h3:=sN fun j o e=>by
  have hj:=(List.getElem?_eq_some_iff.mp e).1
  exact q3 j o (Nat.ne_of_lt hj) (Nat.ne_of_lt (Nat.lt_trans hj hx)) (Nat.ne_of_lt (Nat.lt_trans hj hy)) (ag p2 e)
 have hp3:=hp1.up p3
 obtain ⟨_,_,c1,_⟩:=id hp3
 have rest:aD K (m+1) (rh.body.drop 5) (fin Q) (fun c m=>X c m.heap) ⟨[some (.inst 0 i),some (.ref d),some (.int t),some (.inst 1 h1.length),some (.tup [.str (Aw o),.int (Ax o)]),none,none],h3⟩:=by
  refine aw (de c1 rfl) ?_
  refine f9 hK (h:=h3) hp3 hg (hs) hl h64 hn (Nat.le_trans (nb rfl) hM) fun h4 r p4 l4 e4=>?_
  have p4:h3<+:h4:=p4
  refine aM (aH e4) ?_
  refine kE (fun w=>⟨[some (.inst 0 i),some (.ref d),some (.int t),some (.inst 1 h1.length),some (.tup [.str (Aw o),.int (Ax o)]),none,w],h4⟩) (fun j=>(d8 (aC (av A B rows)) s'.es).take j) _ rfl rfl (fun _=>e4) (fun j z w P hz n1 n2=>?_) (fun w=>?_)
  ·skip
   obtain ⟨s,hs1,rfl⟩:=Option.map_eq_some_iff.mp (List.getElem?_map ..▸hz)
   obtain ⟨v,hv1,hv2⟩:=k1 s (List.mem_of_getElem? hs1)
   refine aR (ag p4 R3.a) ?_
   refine bw (ag p4 R3.d) ?_
   refine bN hv1 ?_
   refine n1 _ _ ?_
   refine aq ?_
   show (d8 (aC (av A B rows)) s'.es)[j]?=_
   unfold d8
   rw [List.getElem?_map,hs1]
   show some (MV.tup [.str s,(aE s'.es s).getD (.int 0)])=_
   rw [hv1];rfl
  ·skip
   have el:((aC (av A B rows)).map MV.str).length=(d8 (aC (av A B rows)) s'.es).length:=by unfold d8;rw [List.length_map,List.length_map]
   rw [el,List.take_length]
   refine aR (ah (ag p4 R3.a)) ?_
   have l3:h1.length≤h3.length:=p3.length_le
   have l1:h.length≤h1.length:=p1.length_le
   have l34:h3.length≤h4.length:=p4.length_le
   have hy3:y<h4.length:=(List.getElem?_eq_some_iff.mp (ag p4 R3.l)).1
   exact hq _ h4.length y ((p1.trans p3).trans (p4.trans (List.prefix_append _ _))) (n3 hy3 l1 hy (by simp +arith only)) (n2 l1 hy (by simp +arith only)) (Nat.ne_of_gt hy3) (ac _ _) (ah (ag p4 R3.l))
 cases o with
 | none=>exact rest
 | some q=>exact rest
end
end Internal
end
section
namespace Internal
mutual
theorem nH:∀d:D,d.deq d=true
 | .none=>rfl
 | .bool b=>beq_self_eq_true b
 | .int i=>beq_self_eq_true i
 | .str s=>beq_self_eq_true s
 | .list xs=>iE xs
 | .tup xs=>iE xs
theorem iE:∀ds:List D,D.deqs ds ds=true
 | []=>rfl
 | d::ds=>by
  show (d.deq d&&D.deqs ds ds)=true
  rw [nH d,iE ds];rfl
end
theorem sP {hp:List MO}{x y:MV}{Q:Bool→Prop}(d:D) (h1:Rd hp x d) (h2:Rd hp y d) (h3:d.deep≤1000) (h4:d.ok=true) (h:Q true):EqP hp x y Q:=.mk d d h1 h2 h3 h4 h4 (by rw [nH];exact h)
noncomputable def prM (p:List Nat × Int):MV:=.tup [.str p.1,.int p.2]
noncomputable def prD (p:List Nat × Int):D:=.tup [.str p.1,.int p.2]
theorem oH {hp:List MO}:∀(qs:List (List Nat × Int)),Rds hp (qs.map prM) (qs.map prD)
 | []=>.nil
 | p::qs=>.cons (.tup (.cons (.str _) (.cons (.int _) .nil))) (oH qs)
theorem mE {hp:List MO}:∀(is:List Int),Rds hp (is.map .int) (is.map .int)
 | []=>.nil
 | i::is=>.cons (.int _) (mE is)
theorem sQ:∀{qs:List (List Nat × Int)},(∀p∈qs,okS p.1)→D.oks (qs.map prD)=true
 | [],_=>rfl
 | p::qs,h=>by
  have h1:=(h p (.head _)).d
  show (((D.str p.1).ok&&true)&&D.oks (qs.map prD))=true
  rw [h1,sQ fun q hq=>h q (.tail _ hq)];rfl
theorem p9:∀(is:List Int),D.oks (is.map .int)=true
 | []=>rfl
 | i::is=>by show (true&&D.oks (is.map .int))=true;rw [p9 is];rfl
theorem nI:∀(qs:List (List Nat × Int)),D.deeps (qs.map prD)≤1
 | []=>Nat.zero_le _
 | p::qs=>by
  have:=nI qs
  exact mx (Nat.le_refl _) this
theorem mF:∀(is:List Int),D.deeps (is.map .int)=0
 | []=>rfl
 | i::is=>by show max 0 (D.deeps (is.map .int))=0;rw [mF is];rfl
structure LF (A B:List (List Nat)) (rows:List Rw):Prop where
 gn:∀s∈A++B,Gn s
 nd:(A++B).Nodup
 len:A.length+B.length≤100
 g:db rows
 sz:aj rows≤400
 ne:ap rows≤7
 few:(aC (av A B rows)).length<64
 ok:∀s∈aC (av A B rows),okS s
end Internal
end
section
namespace Internal
section
variable {K:KT}(hK:aF PP K)
include hK
theorem sR {is:List Int}{a:Int}{r:Nat}{ns:List (List Nat)}{N:Nat}{Q:MV→List MO→Prop}{X:XT}{h:List MO}(ha:0≤a) (hr:h[r]?=some (.list (ns.map .str))) (hnd:ns.Nodup) (hl:ns.length≤300) (hN:1<N)
  (hq:∀h' es,h<+:h'→h'[h.length]?=some (.dict es)→dQ es ns→Q (.ref h.length) h'):K N 89 [.scr is,.int a,.ref r] Q X h:=by
 obtain ⟨m,rfl,hM⟩:=room hN
 refine hK _ _ _ _ _ _ ij rfl rfl ?_
 refine aM (jG (ah hr)) ?_
 refine om (fun j w4 w5 w6 hp es=>⟨[some (.scr is),some (.int a),some (.ref r),some (.ref h.length),w4,w5,w6],hp⟩) (fun j w4 w5 w6 hp es=>A4 (h<+:hp) (hp[h.length]?=some (.dict es)) (es.map (·.1)=ns.take j) (∀e∈es,∃k,e.2=.int k∧In6 k))
  none none none _ [] rfl ⟨aa (ai _),ac _ _,rfl,fun e h=>aX h⟩ (fun _ _ _ _ _ _ ⟨p,_,_,_⟩=>ag p hr) (fun j x w4 w5 w6 hp es P hx hI hn _=>?_) (fun w4 w5 w6 hp es hI=>?_)
 ·obtain ⟨p1,e1,e2,e3⟩:=hI
  obtain ⟨z,hz1,rfl⟩:=oo hx
  obtain ⟨s,hs1,rfl⟩:=Option.map_eq_some_iff.mp (List.getElem?_map ..▸hz1)
  obtain ⟨m,rfl,hM⟩:=room hM
  refine ⟨rfl,?_⟩
  refine eu hK (by lia) ?_
  refine b8 hK ?_
  generalize hc:mix (cell is (a+(j:Int)))=c
  refine af (ac _ _) ?_
  refine aS jd kC ?_
  refine bw (ah e1) ?_
  have hel:es.length=(ns.take j).length:=by rw [←e2,List.length_map]
  rw [List.length_take] at hel
  refine ⟨by unfold line;lia,?_⟩
  have hj:=(List.getElem?_eq_some_iff.mp hs1).1
  have hnew:s∉es.map (·.1):=by
   rw [e2]
   intro q
   have hd:=List.nodup_append.mp ((List.take_append_drop (j+1) ns).symm▸hnd)
   have hd:=hd.1
   rw [aq hs1] at hd
   exact (List.nodup_append.mp hd).2.2 s q s (List.mem_singleton.mpr rfl) rfl
  have hsel:∃k,sel (decide (5<c % 8)) (MV.int (c / 8 % 4)) (.int (c / 8 % 10 ^ (6:Int).toNat))=.int k∧In6 k:=by
   have e6:(10:Int) ^ (6:Int).toNat=1000000:=by decide
   rw [e6]
   cases decide (5<c % 8) with
   | true=>exact ⟨_,rfl,by unfold In6;exact em rfl⟩
   | false=>exact ⟨_,rfl,by unfold In6;exact em rfl⟩
  obtain ⟨v,hv1,hv2⟩:=hsel
  suffices key:P .next ⟨[some (.scr is),some (.int a),some (.ref r),some (.ref h.length),some (.int j),some (.str s),some (.int c)],(hp++[MO.list [.int (c / 8 % 4),.int (c / 8 % 10 ^ (6:Int).toNat)]]).set h.length (.dict (bA es s (sel (decide (5<c % 8)) (.int (c / 8 % 4)) (.int (c / 8 % 10 ^ (6:Int).toNat)))))⟩ from key
  rw [hv1]
  refine hn _ _ _ _ (bA es s (.int v)) ⟨aJ (aa p1) (Nat.le_refl _),get_set (ah e1),?_,?_⟩
  ·rw [gc hnew,List.map_append,e2,aq hs1];rfl
  ·rw [gc hnew]
   intro e he
   rcases List.mem_append.mp he with he | he
   ·exact e3 e he
   ·rw [List.mem_singleton.mp he];exact ⟨v,rfl,hv2⟩
 ·obtain ⟨p1,e1,e2,e3⟩:=hI
  rw [pO,List.length_map,List.take_length] at e2
  exact hq _ es p1 e1 ⟨e2,e3⟩
end
end Internal
end
section
namespace Internal
noncomputable def yN (b n:Nat):List (List Nat):=(List.range n).map fun (k:Nat)=>121::b::dec k
theorem xT:∀s∈yN 111 20++yN 115 20,Gn s:=by unfold Gn Nm;decide +kernel
theorem FJ:(yN 111 20++yN 115 20).Nodup:=by decide +kernel
theorem DR {α:Type}{p:α→Bool}{ys:List α}{j:Nat}{s:α}(e:ys[j]?=some s) (h:p s=true):(ys.take (j+1)).filter p=(ys.take j).filter p++[s]:=by
 rw [aq e,List.filter_append,List.filter_cons_of_pos h];rfl
theorem DS {α:Type}{p:α→Bool}{ys:List α}{j:Nat}{s:α}(e:ys[j]?=some s) (h:p s=false):(ys.take (j+1)).filter p=(ys.take j).filter p:=by
 rw [aq e,List.filter_append,List.filter_cons_of_neg (by rw [h];exact Bool.false_ne_true)];exact List.append_nil _
theorem xU (b:Nat) {n:Nat}(h:n≤20):(yN b n).Sublist (yN b 20):=by
 have e:yN b n=(yN b 20).take n:=by
  unfold yN;rw [←List.map_take,List.take_range,Nat.min_eq_left h]
 rw [e];exact List.take_sublist ..
theorem xV (b n:Nat):(yN b n).length=n:=by unfold yN;rw [List.length_map,List.length_range]
section
variable {K:KT}
theorem Bu {n i:Nat}{e:ME}{r:List MSt}{Q:Fl→MS→Prop}{X:XM}{m:MS}(h:wpE K n e (fun v m=>aD K n r Q X (m.set i v)) X m):aD K n (.asg [i] false e::r) Q X m:=h
theorem Ay {n:Nat}{a b:ME}{Q:PQ}{X:XM}{m:MS}(h:wpE K n a (fun x m=>wpE K n b (fun y m=>Q (.ref m.heap.length) (m.push (.list [x,y]))) X m) X m):wpE K n (.list [a,b]) Q X m:=h
theorem xW {g:Option (Nat × List MV)}{step:MV→(Option MV→MS→Prop)→MS→Prop}{Q:List MV→MS→Prop}{x y:MV}{m:MS}(A:MV→MS→Prop) (B:MV→MV→MS→Prop) (g0:aW g m.heap) (h1:∀P:Option MV→MS→Prop,(∀a m1,A a m1→P (some a) m1)→step x P m) (ga:∀a m1,A a m1→aW g m1.heap)
  (h2:∀a m1,A a m1→∀P:Option MV→MS→Prop,(∀b m2,B a b m2→P (some b) m2)→step y P m1) (gb:∀a b m2,B a b m2→aW g m2.heap∧Q [a,b] m2):cZ g step Q [x,y] [] m:=by
 rw [fe]
 refine ⟨g0,h1 _ fun a m1 hA=>?_⟩
 show cZ g step Q [y] [a] m1
 rw [fe]
 refine ⟨ga a m1 hA,h2 a m1 hA _ fun b m2 hB=>?_⟩
 show cZ g step Q [] [a,b] m2
 rw [jy]
 exact gb a b m2 hB
theorem xX {n v b:Nat}{k:Int}{src:ME}{m:MS}{Q:PQ}{X:XM}(hk:0≤k∧k≤20) (hsrc:∀Q:PQ,Q (.int k) m→wpE K n src Q X m) (hv:v<m.vars.length) (hq:Q (.ref m.heap.length) ⟨m.vars,m.heap++[.list ((yN b k.toNat).map .str)]⟩) :
  wpE K n (.comp (.bin .add (.cst (.str [121,b])) (.blt .str [.var v])) [v] false .range1 [src] []) Q X m:=by
 show wpE K n src _ X m
 refine hsrc _ ?_
 refine aM (ka (z1 hk.1 (by simp +arith only)) (z1 hk.2 (by simp +arith only))) ?_
 refine gS (fun j a m'=>m'.vars.length=m.vars.length∧m'.heap=m.heap∧a=((yN b k.toNat).take j).map .str) ⟨rfl,rfl,rfl⟩ (fun _ _ _ _=>trivial) (fun j x a m' P hx hI n1 _=>?_) (fun a m' hI=>?_)
 ·obtain ⟨e1,e2,rfl⟩:=hI
  obtain ⟨hj,rfl⟩:=mc hx
  show wpE K n (.var v) _ noX (m'.set v (.int j))
  refine pP (Ff (by rw [e1];exact hv)) ?_
  refine ⟨⟨Int.natCast_nonneg _,by lia⟩,?_⟩
  have:=(rR (i:=(j:Int)) ⟨Int.natCast_nonneg _,by lia⟩).2
  refine ⟨by show 2+_≤_;unfold line;lia,?_⟩
  refine n1 _ _ ⟨by show (m'.vars.set v _).length=_;rw [List.length_set,e1],e2,?_⟩
  rw [aq (r:=121::b::dec j) (by unfold yN;rw [List.getElem?_map,List.getElem?_range hj];rfl),List.map_append];rfl
 ·obtain ⟨e1,e2,rfl⟩:=hI
  rw [nv,List.take_of_length_le (by rw [xV];exact Nat.le_refl _),e2]
  exact hq
theorem xY {n r a:Nat}{ss ys:List (List Nat)}{v1 v2 v3 v4 v5 v7:Option MV}{hp:List MO}{Q:PQ}{X:XM}(hr:hp[r]?=some (.list (ss.map .str))) (hs:∀s∈ss,okS s) (ha:hp[a]?=some (.list (ys.map .str))) (hy:∀s∈ys,okS s) (hq:Q (.ref hp.length) ⟨[some (.ref r),v1,v2,v3,v4,v5,some (.ref a),v7],hp++[.list ((ys.filter fun s=>!ss.contains s).map .str)]⟩) :
  wpE K n (.comp (.var 7) [7] false .val [.var 6] [.cmp .nin (.var 7) (.var 0)]) Q X ⟨[some (.ref r),v1,v2,v3,v4,v5,some (.ref a),v7],hp⟩:=by
 refine aM (aH ha) ?_
 refine kE (fun w=>⟨[some (.ref r),v1,v2,v3,v4,v5,some (.ref a),w],hp⟩) (fun j=>((ys.take j).filter fun s=>!ss.contains s).map .str) _ rfl rfl (fun _=>ha) (fun j x w P hx n1 n2=>?_) (fun w=>?_)
 ·obtain ⟨s,hs1,rfl⟩:=Option.map_eq_some_iff.mp (List.getElem?_map ..▸hx)
  refine az hr ?_
  refine cK (hy s (List.mem_of_getElem? hs1)) hs ?_
  cases q:ss.contains s with
  | true=>exact n2 _ (by rw [DS hs1 (by rw [q];rfl)])
  | false=>exact n1 _ _ (by rw [DR hs1 (by rw [q];rfl),List.map_append];rfl)
 ·rw [List.length_map,List.take_length]
  exact hq
variable (hK:aF PP K)
include hK
theorem DT {c:Int}{r:Nat}{ss:List (List Nat)}{N:Nat}{Q:MV→List MO→Prop}{X:XT}{h:List MO}(hr:h[r]?=some (.list (ss.map .str))) (hs:∀s∈ss,okS s) (hN:0<N)
  (hq:∀(h':List MO) (i a b:Nat) (U V:List (List Nat)),h<+:h'→h'[i]?=some (.list [.ref a,.ref b])→h'[a]?=some (.list (U.map .str))→h'[b]?=some (.list (V.map .str))→U.Sublist (yN 111 20)→V.Sublist (yN 115 20)→(∀s∈U++V,s∉ss)→Q (.ref i) h'):K N 95 [.ref r,.int c] Q X h:=by
 obtain ⟨m,rfl,hM⟩:=room hN
 refine hK _ _ _ _ _ _ f6 rfl rfl ?_
 refine af (ac _ _) ?_
 have hx:0≤c % 4∧c % 4<4:=em rfl
 obtain ⟨x,hx1,k,rfl,hk⟩:=kb.get (P:=fun _ x=>∃k:Int,x=.int k∧0≤k∧k<20) (n:=0) (l:=[MV.int 0,.int (c / 4 % 3),.int (c / 4 % 20),.int 0]) (.cons ⟨0,rfl,by decide⟩ (.cons ⟨_,rfl,em rfl⟩ (.cons ⟨_,rfl,em rfl⟩ (.cons ⟨0,rfl,by decide⟩ .nil)))) (c % 4).toNat (by show _<4;exact emN rfl)
 refine aS (aU hx.1 hx.2) hx1 ?_
 have rest:∀hp:List MO,h<+:hp→aD K m (f6.body.drop 1) (fin Q) (fun c m=>X c m.heap) ⟨[some (.ref r),some (.int c),some (.int k),none,none,none,none,none],hp⟩:=fun hp p1=>by
  refine Bu (Ay ?_)
  refine xX (⟨z1 hk.1 (by simp +arith only),z1 hk.2 (by simp +arith only)⟩) (fun Q hq=>hq) (Nat.le_of_ble_eq_true rfl) ?_
  refine xX (k:=k+c / 4 % 2) (by lia) (fun Q hq=>hq) (Nat.le_of_ble_eq_true rfl) ?_
  have ya:∀b n,b=111∨b=115→n≤20→∀s∈yN b n,okS s:=fun b n hb hn s hs=>by
   have hs:=(xU b hn).subset hs
   rcases hb with rfl | rfl
   ·exact (xT s (List.mem_append_left _ hs)).1.ok
   ·exact (xT s (List.mem_append_right _ hs)).1.ok
  have q1:=p1.trans (aa (o:=.list ((yN 115 (k+c / 4 % 2).toNat).map .str)) (aa (o:=.list ((yN 111 k.toNat).map .str)) (ai hp)))
  have q2:(hp++[MO.list ((yN 111 k.toNat).map .str)]++[.list ((yN 115 (k+c / 4 % 2).toNat).map .str)])[hp.length]?=some (.list ((yN 111 k.toNat).map .str)):=ah (ac _ _)
  have q3:(hp++[MO.list ((yN 111 k.toNat).map .str)]++[.list ((yN 115 (k+c / 4 % 2).toNat).map .str)])[(hp++[MO.list ((yN 111 k.toNat).map .str)]).length]?=some (.list ((yN 115 (k+c / 4 % 2).toNat).map .str)):=ac _ _
  dsimp only
  generalize (hp++[MO.list ((yN 111 k.toNat).map .str)]).length=b at *
  generalize hp++[MO.list ((yN 111 k.toNat).map .str)]++[.list ((yN 115 (k+c / 4 % 2).toNat).map .str)]=h1 at *
  refine aM (aH (ac _ _)) ?_
  refine xW (fun a m=>a=.ref (h1++[MO.list [.ref hp.length,.ref b]]).length∧m=⟨[some (.ref r),some (.int c),some (.int k),some (.ref h1.length),none,none,some (.ref hp.length),none],h1++[MO.list [.ref hp.length,.ref b]]++[MO.list (((yN 111 k.toNat).filter fun s=>!ss.contains s).map .str)]⟩) (fun a e m=>a=.ref (h1++[MO.list [.ref hp.length,.ref b]]).length∧e=.ref (h1++[MO.list [.ref hp.length,.ref b]]++[MO.list (((yN 111 k.toNat).filter fun s=>!ss.contains s).map .str)]).length∧m.heap=h1++[MO.list [.ref hp.length,.ref b]]++[MO.list (((yN 111 k.toNat).filter fun s=>!ss.contains s).map .str)]++[MO.list (((yN 115 (k+c / 4 % 2).toNat).filter fun s=>!ss.contains s).map .str)])
   (ac _ _) (fun P n1=>?_) (fun a m1 hA=>by obtain ⟨_,rfl⟩:=hA;exact ah (ac _ _)) (fun a m1 hA P n1=>?_) (fun a e m2 hB=>?_)
  ·show wpE K m (.comp (.var 7) [7] false .val [.var 6] [.cmp .nin (.var 7) (.var 0)]) (fun x m=>P (some x) m) noX ⟨[some (.ref r),some (.int c),some (.int k),some (.ref h1.length),none,none,some (.ref hp.length),none],h1++[MO.list [.ref hp.length,.ref b]]⟩
   refine xY (n:=m) (v1:=some (.int c)) (v2:=some (.int k)) (v3:=some (.ref h1.length)) (v4:=none) (v5:=none) (v7:=none) (ah (ag q1 hr)) hs (ah q2) (ya 111 _ (.inl rfl) (by lia)) ?_
   exact n1 _ _ ⟨rfl,rfl⟩
  ·obtain ⟨rfl,rfl⟩:=hA
   show wpE K m (.comp (.var 7) [7] false .val [.var 6] [.cmp .nin (.var 7) (.var 0)]) (fun x m=>P (some x) m) noX ⟨[some (.ref r),some (.int c),some (.int k),some (.ref h1.length),none,none,some (.ref b),none],h1++[MO.list [.ref hp.length,.ref b]]++[MO.list (((yN 111 k.toNat).filter fun s=>!ss.contains s).map .str)]⟩
   refine xY (n:=m) (v1:=some (.int c)) (v2:=some (.int k)) (v3:=some (.ref h1.length)) (v4:=none) (v5:=none) (v7:=none) (ah (ah (ag q1 hr))) hs (ah (ah q3)) (ya 115 _ (.inr rfl) (by lia)) ?_
   exact n1 _ _ ⟨rfl,rfl,rfl⟩
  obtain ⟨rfl,rfl,hB⟩:=hB
  refine ⟨by rw [hB];exact ah (ah (ac _ _)),?_⟩
  show Q _ (m2.heap++[_])
  rw [hB]
  refine hq _ _ _ _ ((yN 111 k.toNat).filter fun s=>!ss.contains s) ((yN 115 (k+c / 4 % 2).toNat).filter fun s=>!ss.contains s) (q1.trans (aa (aa (aa (aa (ai _)))))) (ac _ _) (ah (ah (ac _ _))) (ah (ac _ _)) (List.filter_sublist.trans (xU _ (by lia))) (List.filter_sublist.trans (xU _ (by lia))) fun s hs' q=>?_
  have hc:ss.contains s=true:=List.contains_iff_mem.mpr q
  rcases List.mem_append.mp hs' with h1 | h1
  ·have:=(List.mem_filter.mp h1).2;rw [hc] at this;exact ff this
  ·have:=(List.mem_filter.mp h1).2;rw [hc] at this;exact ff this
 exact rest _ (aa (ai _))
end
end Internal
end
section
namespace Internal
theorem qa {α:Type}(n:Nat) (l:List α):(l.drop n++l.take n).Perm l:=by
 have:=List.perm_append_comm (l₁:=l.drop n) (l₂:=l.take n)
 rw [List.take_append_drop] at this;exact this
section
variable {K:KT}(hK:aF PP K)
include hK
theorem Az {c:Int}{r i a b:Nat}{ss U V:List (List Nat)}{N:Nat}{Q:MV→List MO→Prop}{X:XT}{h:List MO}(hr:h[r]?=some (.list (ss.map .str))) (ten:ss.length=10) (hi:h[i]?=some (.list [.ref a,.ref b])) (ha:h[a]?=some (.list (U.map .str))) (hb:h[b]?=some (.list (V.map .str))) (hU:U.length≤20) (hV:V.length≤20) (hN:0<N)
  (hq:∀(h':List MO) (i a b:Nat) (A B A' B':List (List Nat)),h<+:h'→h'[i]?=some (.list [.ref a,.ref b])→h'[a]?=some (.list (A.map .str))→h'[b]?=some (.list (B.map .str))→A.Perm (U++A')→B.Perm (V++B')→A'.Sublist (ss.take 5)→B'.Sublist (ss.drop 5)→Q (.ref i) h'):K N 96 [.ref r,.ref i,.int c] Q X h:=by
 obtain ⟨m,rfl,hM⟩:=room hN
 refine hK _ _ _ _ _ _ d7 rfl rfl ?_
 refine af hi ?_
 refine az ha ?_
 refine af (ah hi) ?_
 refine az (ah hb) ?_
 have loop:∀(hp:List MO) (ra rb rr:Nat),h<+:hp→h.length≤ra→h.length≤rb→ra≠rb→ra≠rr→rb≠rr→hp[rr]?=some (.list [.ref ra,.ref rb])→hp[ra]?=some (.list (U.map .str))→hp[rb]?=some (.list (V.map .str))→
   aD K m (d7.body.drop 2) (fin Q) (fun c m=>X c m.heap) ⟨[some (.ref r),some (.ref i),some (.int c),some (.ref rr),some (.int c),none,none,none],hp⟩:=fun hp ra rb rr p0 la lb n1 n2 n3 e1 e2 e3=>by
  refine aM (jG (ag p0 hr)) ?_
  refine kB (fun j (v:Int) (w5:Option MV) (w6:Option MV) (hp:List MO) (A:List (List Nat)) (B:List (List Nat))=>⟨[some (.ref r),some (.ref i),some (.int c),some (.ref rr),some (.int v),w5,w6,none],hp⟩) (fun j (v:Int) (w5:Option MV) (w6:Option MV) (hp:List MO) (A:List (List Nat)) (B:List (List Nat))=>A6 (h<+:hp) (hp[rr]?=some (.list [.ref ra,.ref rb])) (hp[ra]?=some (.list ((U++A).map .str))) (hp[rb]?=some (.list ((V++B).map .str))) (A.Sublist ((ss.take 5).take j)) (B.Sublist ((ss.drop 5).take (j-5))))
   c none none hp [] [] rfl ⟨p0,e1,by rw [List.append_nil];exact e2,by rw [List.append_nil];exact e3,List.nil_sublist _,List.nil_sublist _⟩ (fun _ _ _ _ _ _ _ hI=>ag hI.h1 hr) (fun j x v w5 w6 hp A B P hx hI hn _=>?_) (fun v w5 w6 hp A B hI=>?_)
  ·obtain ⟨p1,f1,f2,f3,sA,sB⟩:=hI
   obtain ⟨z,hz1,rfl⟩:=oo hx
   obtain ⟨s,hs1,rfl⟩:=Option.map_eq_some_iff.mp (List.getElem?_map ..▸hz1)
   have hj:=(List.getElem?_eq_some_iff.mp hs1).1
   have lA:=sA.length_le
   have lB:=sB.length_le
   rw [List.length_take,List.length_take] at lA
   rw [List.length_take,List.length_drop] at lB
   have tA:((ss.take 5).take j).Sublist ((ss.take 5).take (j+1)):=List.take_sublist_take_left (Nat.le_succ _)
   have tB:((ss.drop 5).take (j-5)).Sublist ((ss.drop 5).take (j+1-5)):=List.take_sublist_take_left (Nat.sub_le_sub_right (Nat.le_succ _) _)
   refine ⟨rfl,?_⟩
   conv=>whnf
   cases decide (0<v % 3) with
   | false=>
    exact hn _ _ _ hp A B ⟨p1,f1,f2,f3,sA.trans tA,sB.trans tB⟩
   | true=>
    refine af f1 ?_
    rcases Nat.lt_or_ge j 5 with h5 | h5
    ·refine aS (j:=0) (v:=.ref ra) ?_ rfl ?_
     ·rw [show (j:Int) / 5=0 from Int.ediv_eq_zero_of_lt (Int.natCast_nonneg _) (Int.ofNat_lt.mpr h5)];rfl
     refine aw (aK f2) ?_
     refine bf (bc f2) ?_
     have lA:=Nat.le_trans lA (Nat.min_le_left ..)
     refine ⟨by rw [List.length_map,List.length_append];exact lk (Internal.n3 hU lA h5 (by simp +arith only)) (b:=1000) rfl,?_⟩
     refine hn _ _ _ _ (A++[s]) B ⟨aJ p1 la,ak n2 f1,?_,ak n1 f3,?_,sB.trans tB⟩
     ·rw [show (U++(A++[s])).map MV.str=(U++A).map MV.str++[.str s] by rw [←List.append_assoc,List.map_append];rfl];exact get_set f2
     ·rw [aq (r:=s) (by rw [List.getElem?_take_of_lt h5];exact hs1)]
      exact sA.append (List.Sublist.refl _)
    ·refine aS (j:=1) (v:=.ref rb) ?_ rfl ?_
     ·rw [aU (by lia) (by show (j:Int) / 5<2;lia)];congr 1;lia
     refine aw (aK f3) ?_
     refine bf (bc f3) ?_
     have lB:=Nat.le_trans (Nat.le_trans lB (Nat.min_le_left ..)) (Nat.sub_le _ _)
     refine ⟨by rw [List.length_map,List.length_append];exact lk (Internal.n3 hV lB (Nat.le_trans hj (Nat.le_of_eq ten)) (by simp +arith only)) (b:=1000) rfl,?_⟩
     refine hn _ _ _ _ A (B++[s]) ⟨aJ p1 lb,ak n3 f1,ak (Ne.symm n1) f2,?_,sA.trans tA,?_⟩
     ·rw [show (V++(B++[s])).map MV.str=(V++B).map MV.str++[.str s] by rw [←List.append_assoc,List.map_append];rfl];exact get_set f3
     ·rw [Nat.succ_sub h5,aq (r:=s) (by rw [List.getElem?_drop,Nat.add_sub_cancel' h5];exact hs1)]
      exact sB.append (List.Sublist.refl _)
  ·obtain ⟨p1,f1,f2,f3,sA,sB⟩:=hI
   have sA:=sA.trans (List.take_sublist _ _)
   have sB:=sB.trans (List.take_sublist _ _)
   have lA:=sA.length_le
   have lB:=sB.length_le
   rw [List.length_take] at lA
   rw [List.length_drop] at lB
   refine af f1 ?_
   refine az f2 ?_
   refine aw (decide_eq_true (Int.lt_of_lt_of_le Int.one_pos (Int.le_max_left ..))) ?_
   refine af f1 ?_
   refine az f3 ?_
   refine aw (decide_eq_true (Int.lt_of_lt_of_le Int.one_pos (Int.le_max_left ..))) ?_
   have hx:0≤c / 27 % max 1 (((U++A).map MV.str).length:Int):=Int.emod_nonneg _ (Int.ne_of_gt (Int.lt_of_lt_of_le Int.one_pos (Int.le_max_left ..)))
   have hy:0≤c / 189 % max 1 (((V++B).map MV.str).length:Int):=Int.emod_nonneg _ (Int.ne_of_gt (Int.lt_of_lt_of_le Int.one_pos (Int.le_max_left ..)))
   generalize c / 27 % max 1 (((U++A).map MV.str).length:Int)=x at *
   generalize c / 189 % max 1 (((V++B).map MV.str).length:Int)=y at *
   have fin':∀hp,h<+:hp→hp[rr]?=some (.list [.ref ra,.ref rb])→hp[ra]?=some (.list ((U++A).map .str))→hp[rb]?=some (.list ((V++B).map .str))→aD K m (d7.body.drop 4) (fin Q) (fun c m=>X c m.heap) ⟨[some (.ref r),some (.ref i),some (.int c),some (.ref rr),some (.int v),w5,w6,some (.ref hp.length)],hp++[MO.list [.int x,.int y]]⟩:=fun hp p1 f1 f2 f3=>by
    refine af (ah f1) ?_
    refine af (ac _ _) ?_
    refine af (ah f2) ?_
    have rot:∀(l:List (List Nat)) {x:Int},0≤x→aL (l.map MV.str) (some x) none++aL (l.map MV.str) none (some x)=(l.drop x.toNat++l.take x.toNat).map MV.str:=fun l {x} hx=>by
     rw [bH hx,cA hx,List.map_append,List.map_drop,List.map_take]
    have rln:∀(l:List (List Nat)) {x:Int},0≤x→l.length≤1000→(aL (l.map MV.str) (some x) none).length+(aL (l.map MV.str) none (some x)).length≤line:=fun l {x} hx hl=>by
     rw [bH hx,cA hx,List.length_drop,List.length_take,List.length_map,Nat.min_comm,Nat.sub_add_min_cancel];exact lk hl rfl
    refine af (ah (ah f1)) ?_
    refine af (ah (ac _ _)) ?_
    refine af (ah (ah f2)) ?_
    refine af (ah (ac _ _)) ?_
    refine af (ac _ _) ?_
    refine ⟨rln _ hx (by rw [List.length_append];lia),?_⟩
    refine af (ah (ah (ah (ah f1)))) ?_
    refine af (ah (ah (ah (ac _ _)))) ?_
    refine af (ah (ah (ah (ah f3)))) ?_
    refine af (ah (ah (ah (ah (ah f1))))) ?_
    refine af (ah (ah (ah (ah (ac _ _))))) ?_
    refine af (ah (ah (ah (ah (ah f3))))) ?_
    refine af (ah (ac _ _)) ?_
    refine af (ac _ _) ?_
    refine ⟨rln _ hy (by rw [List.length_append];lia),?_⟩
    refine hq _ _ _ _ ((U++A).drop x.toNat++(U++A).take x.toNat) ((V++B).drop y.toNat++(V++B).take y.toNat) A B (aa (aa (aa (aa (aa (aa (aa (aa p1)))))))) (ac _ _) ?_ ?_ (qa _ _) (qa _ _) sA sB
    ·rw [←rot _ hx];exact ah (ah (ah (ah (ac _ _))))
    ·rw [←rot _ hy];exact ah (ac _ _)
   exact fin' hp p1 f1 f2 f3
 have l1:(h++[MO.list (U.map .str)]).length=h.length+1:=by rw [List.length_append];rfl
 have l2:(h++[MO.list (U.map .str)]++[MO.list (V.map .str)]).length=h.length+1+1:=by rw [List.length_append,l1];rfl
 exact loop (h++[MO.list (U.map .str)]++[MO.list (V.map .str)]++[MO.list [.ref h.length,.ref (h++[MO.list (U.map .str)]).length]]) h.length (h++[MO.list (U.map .str)]).length (h++[MO.list (U.map .str)]++[MO.list (V.map .str)]).length (aa (aa (aa (ai _)))) (Nat.le_refl _) (n1 (Nat.le_of_eq l1.symm) (by simp +arith only)) (Nat.ne_of_lt (n1 (Nat.le_of_eq l1.symm) (by simp +arith only))) (Nat.ne_of_lt (n1 (Nat.le_of_eq l2.symm) (by simp +arith only))) (Nat.ne_of_lt (n2 (Nat.le_of_eq l2.symm) (Nat.le_of_eq l1) (by simp +arith only))) (ac _ _) (ah (ah (ac _ _))) (ah (ac _ _))
end
end Internal
end
section
namespace Internal
mutual
theorem rG:∀r:Rw,r.size≤r.lines.length
 | .set s t=>Nat.le_refl _
 | .tell t=>Nat.le_refl _
 | .skip=>Nat.le_refl _
 | .ite t a b=>by
  have h1:=e8 a
  have h2:=e8 b
  show aj a+aj b+1≤(lns a++nz::(lns b++[mQ])).length+1
  rw [List.length_append,List.length_cons,List.length_append];exact n2 h2 h1 (by simp +arith only)
 | .wh t a=>by
  have h1:=e8 a
  show aj a+1≤(lns a++[mQ]).length+1
  rw [List.length_append];exact n1 h1 (by simp +arith only)
theorem e8:∀rs:List Rw,aj rs≤(lns rs).length
 | []=>Nat.le_refl _
 | r::rs=>by
  have h1:=rG r
  have h2:=e8 rs
  show r.size+aj rs≤(r.lines++lns rs).length
  rw [List.length_append];exact n2 h2 h1 (by simp +arith only)
end
theorem uM {p:List Nat→Prop}:∀{t:Tm},t.ok p→∀x∈an t,p x
 | .num _,_,x,h=>aX h
 | .nm s,q,x,h=>by rw [List.mem_singleton.mp h];exact q
 | .op c a b,q,x,h=>(List.mem_append.mp h).elim (uM q.2.1 x) (uM q.2.2 x)
mutual
theorem DU {p:List Nat→Prop}:∀(r:Rw) (k:Int) (ab:List Tm),r.gp p→∀x∈bG (r.num k ab),p x
 | .set s t,k,ab,g,x,h=>by
  have h:x∈(s::aC (an t))++[]:=h
  rw [List.append_nil] at h
  rcases List.mem_cons.mp h with e | h
  ·rw [e];exact g.1
  ·exact uM g.2.1 x (aA.mp h)
 | .tell t,k,ab,g,x,h=>by
  have h:x∈aC (an t)++[]:=h
  rw [List.append_nil] at h
  exact uM g.1 x (aA.mp h)
 | .skip,k,ab,_,x,h=>aX h
 | .ite t a b,k,ab,g,x,h=>by
  have h:x∈aC (an t)++bG (nums (k+1) (ab++[t]) a++nums (k+1+aj a) (ab++[t]) b):=h
  rw [cz] at h
  rcases List.mem_append.mp h with h | h
  ·exact uM g.1.1 x (aA.mp h)
  ·exact (List.mem_append.mp h).elim (jq a _ _ g.2.1 x) (jq b _ _ g.2.2 x)
 | .wh t a,k,ab,g,x,h=>by
  have h:x∈aC (an t)++bG (nums (k+1) (ab++[t]) a):=h
  rcases List.mem_append.mp h with h | h
  ·exact uM g.1.1 x (aA.mp h)
  ·exact jq a _ _ g.2 x h
theorem jq {p:List Nat→Prop}:∀(rs:List Rw) (k:Int) (ab:List Tm),gps p rs→∀x∈bG (nums k ab rs),p x
 | [],_,_,_,x,h=>aX h
 | r::rs,k,ab,g,x,h=>by
  have h:x∈bG (r.num k ab++nums (k+r.size) ab rs):=h
  rw [cz] at h
  exact (List.mem_append.mp h).elim (DU r k ab g.1 x) (jq rs _ ab g.2 x)
end
theorem uN {ss U V A B A' B':List (List Nat)}{rows:List Rw}(ten:ss.length=10) (gn:∀s∈ss,Gn s) (hnd:ss.Nodup) (hU:U.Sublist (yN 111 20)) (hV:V.Sublist (yN 115 20)) (hno:∀s∈U++V,s∉ss) (pA:A.Perm (U++A')) (pB:B.Perm (V++B')) (sA:A'.Sublist (ss.take 5)) (sB:B'.Sublist (ss.drop 5)) (hg:gps (·∈ss) rows) (hn:ap rows≤7) (hl:aj rows≤400):LF A B rows:=by
 have sy:(U++V).Sublist (yN 111 20++yN 115 20):=hU.append hV
 have ss':(A'++B').Sublist ss:=by have:=sA.append sB;rw [List.take_append_drop] at this;exact this
 have pp:(A++B).Perm ((U++V)++(A'++B')):=by
  refine (pA.append pB).trans ?_
  rw [List.append_assoc,List.append_assoc]
  refine List.Perm.append_left U ?_
  rw [←List.append_assoc,←List.append_assoc]
  exact List.Perm.append_right B' List.perm_append_comm
 have lU:=hU.length_le
 have lV:=hV.length_le
 rw [xV] at lU lV
 have l':=ss'.length_le
 have gU:∀s∈U++V,Gn s:=fun s h=>xT s (sy.subset h)
 have lp:=pp.length_eq
 simp only [List.length_append] at lp l'
 have mem:∀s∈A++B,s∈(U++V)++ss:=fun s h=>by
  rcases List.mem_append.mp (pp.subset h) with h | h
  ·exact List.mem_append_left _ h
  ·exact List.mem_append_right _ (ss'.subset h)
 have gall:∀s∈(U++V)++ss,Gn s:=fun s h=>(List.mem_append.mp h).elim (gU s) (gn s)
 have memp:∀s∈av A B rows,s∈(U++V)++ss:=fun s h=>by
  rcases List.mem_append.mp h with h | h
  ·exact mem s h
  ·exact List.mem_append_right _ (jq rows 1 [] hg s h)
 refine ⟨fun s h=>gall s (mem s h),pp.nodup_iff.mpr (List.nodup_append.mpr ⟨FJ.sublist sy,hnd.sublist ss',fun a ha b hb e=>hno a ha (e▸ss'.subset hb)⟩),by lia,gj (gh gn hg),hl,hn,?_,fun s h=>(gall s (memp s (aA.mp h))).1.ok⟩
 have:=jh memp
 simp only [List.length_append] at this
 lia
end Internal
end
section
namespace Internal
noncomputable abbrev Txt:=List Nat
noncomputable def rn:Tm→List Txt
 | .op c a b=>rn a++rn b++(match c==47 with
  | true=>an b
  | false=>[])
 | _=>[]
noncomputable def dvs:Tm→Bool
 | .op c a b=>c==47||(dvs a||dvs b)
 | _=>false
theorem xZ:∀{t:Tm}{x:Txt},x∈rn t→x∈an t
 | .num _,x,h=>aX h
 | .nm _,x,h=>aX h
 | .op c a b,x,h=>by
  show x∈an a++an b
  rcases List.mem_append.mp (show x∈rn a++rn b++_ from h) with h | h
  ·exact (List.mem_append.mp h).elim (fun h=>List.mem_append_left _ (xZ h)) fun h=>List.mem_append_right _ (xZ h)
  ·cases q:c==47 with
   | true=>rw [q] at h;exact List.mem_append_right _ h
   | false=>rw [q] at h;exact aX h
theorem sS {c:Nat}{x y:Int}(hc:cf c) (h:jn c x y=none):c=47∧y=0:=by
 refine un (P:=fun c=>jn c x y=none→c=47∧y=0) hc ?_ ?_ ?_ ?_ ?_ ?_ h
 ·intro h;exact im h
 ·intro h;exact im h
 ·intro h;exact im h
 ·intro h;exact im h
 ·intro h;exact im h
 ·intro h
  replace h:(match y==0 with | true=>none | false=>some (x / y))=none:=h
  cases q:y==0 with
  | true=>exact ⟨rfl,eq_of_beq q⟩
  | false=>rw [q] at h;exact im h
noncomputable abbrev ES:=List (List Nat × MV)
noncomputable def Lw (S:Txt→Prop) (es es':ES):Prop:=∀n,¬ S n→aE es n=aE es' n
section
variable {S:Txt→Prop}{p:Txt→Prop}{es es':ES}
theorem dR (h:Lw S es es'):∀{t:Tm},(∀n∈an t,¬ S n)→rk es t=rk es' t
 | .num _,_=>rfl
 | .nm s,k=>by
  show (match aE es s with | some (.int v)=>some v | _=>none)=(match aE es' s with | some (.int v)=>some v | _=>none)
  rw [h s (k s (.head _))]
 | .op c a b,k=>by
  show (match rk es a,rk es b with | some x,some y=>jn c x y | _,_=>none)=(match rk es' a,rk es' b with | some x,some y=>jn c x y | _,_=>none)
  rw [dR h fun n hn=>k n (List.mem_append_left _ hn),dR h fun n hn=>k n (List.mem_append_right _ hn)]
theorem jr (g:bk es p):∀{t:Tm},t.ok p→dvs t=false→rk es t≠none
 | .num _,_,_=>fun h=>im h
 | .nm s,ht,_=>fun h=>by
  obtain ⟨u,e,_⟩:=g s ht
  exact aO h (sJ e)
 | .op c a b,ht,hd=>fun h=>by
  obtain ⟨h1,h2⟩:=Bool.or_eq_false_iff.mp hd
  obtain ⟨h2,h3⟩:=Bool.or_eq_false_iff.mp h2
  cases e1:rk es a with
  | none=>exact jr g ht.2.1 h2 e1
  | some x=>
   cases e2:rk es b with
   | none=>exact jr g ht.2.2 h3 e2
   | some y=>
    rw [mw e1 e2] at h
    rw [(sS ht.1 h).1] at h1;exact tf h1
theorem oJ (g:bk es p) (h:Lw S es es'):∀{t:Tm},t.ok p→(∀n∈rn t,¬ S n)→rk es t=none→rk es' t=none
 | .num _,_,_,e=>im e
 | .nm s,ht,_,e=>by
  obtain ⟨u,e1,_⟩:=g s ht
  exact aO e (sJ e1)
 | .op c a b,ht,hn,e=>by
  have na:∀n∈rn a,¬ S n:=fun n q=>hn n (List.mem_append_left _ (List.mem_append_left _ q))
  have nb:∀n∈rn b,¬ S n:=fun n q=>hn n (List.mem_append_left _ (List.mem_append_right _ q))
  have any:rk es' b=none→rk es' (.op c a b)=none:=fun q=>by
   cases q1:rk es' a with
   | none=>exact mu q1
   | some x=>exact rB q1 q
  cases e1:rk es a with
  | none=>exact mu (oJ g h ht.2.1 na e1)
  | some x=>
   cases e2:rk es b with
   | none=>exact any (oJ g h ht.2.2 nb e2)
   | some y=>
    rw [mw e1 e2] at e
    obtain ⟨rfl,rfl⟩:=sS ht.1 e
    have eb:rk es b=rk es' b:=dR h fun n q=>hn n (List.mem_append_right _ q)
    cases q1:rk es' a with
    | none=>exact mu q1
    | some x'=>rw [mw q1 (eb.symm.trans e2)];rfl
end
theorem Lw.symm {S:Txt→Prop}{es es':ES}(h:Lw S es es'):Lw S es' es:=fun n q=>(h n q).symm
theorem Lw.trans {S:Txt→Prop}{es es' es'':ES}(h:Lw S es es') (k:Lw S es' es''):Lw S es es'':=fun n q=>(h n q).trans (k n q)
theorem Lw.set {S:Txt→Prop}{es es':ES}(h:Lw S es es') (x:Txt) (v:MV):Lw S (bA es x v) (bA es' x v):=fun n q=>by rw [jM,jM,h n q]
theorem Lw.hide {S:Txt→Prop}(es:ES) {x:Txt}(hx:S x) (v:MV):Lw S es (bA es x v):=fun n q=>by
 rw [jM,if_neg (show ¬ n=x from fun e=>q (by rw [e];exact hx))]
noncomputable def Dv (S:Txt→Prop) (H:Prop) (t:Tm):Prop:=dvs t=true→¬ H∧∀n∈rn t,¬ S n
mutual
noncomputable def Rw.sf (S:Txt→Prop) (H:Prop):Rw→Prop
 | .set x t=>(¬ S x→¬ H∧∀n∈an t,¬ S n)∧Dv S H t
 | .tell t=>(¬ H∧∀n∈an t,¬ S n)∧Dv S H t
 | .skip=>True
 | .ite t a b=>Dv S H t∧sfs S (H∨∃n∈an t,S n) a∧sfs S (H∨∃n∈an t,S n) b
 | .wh t a=>(¬ H∧∀n∈an t,¬ S n)∧Dv S H t∧sfs S (H∨∃n∈an t,S n) a
noncomputable def sfs (S:Txt→Prop) (H:Prop):List Rw→Prop
 | []=>True
 | r::rs=>r.sf S H∧sfs S H rs
end
theorem Bv {S:Txt→Prop}{H:Prop}{r:Rw}(h:r.sf S H) (hr:r≠.skip):Dv S H r.ft:=by
 cases r with
 | set x t=>exact h.2
 | tell t=>exact h.2
 | skip=>exact absurd rfl hr
 | ite t a b=>exact h.1
 | wh t a=>exact h.2.1
structure Hi (S:Txt→Prop) (s s':St) (o:Option bR):Prop where
 o:o=none
 turns:s'.turns=s.turns
 said:s'.said=s.said
 es:Lw S s.es s'.es
section
variable {S:Txt→Prop}{p:Txt→Prop}
theorem oK {k:Int}{rs:List Rw}{s s':St}{o:Option bR}(h:Ev k rs s s' o):∀⦃H:Prop⦄,H→sfs S H rs→du p rs→bk s.es p→Hi S s s' o:=by
 refine Ev.rec (motive_1:=fun k r s s' o _=>∀⦃H:Prop⦄,H→r.sf S H→r.okp p→bk s.es p→Hi S s s' o) (motive_2:=fun k rs s s' o _=>∀⦃H:Prop⦄,H→sfs S H rs→du p rs→bk s.es p→Hi S s s' o)
  ?_ ?_ ?_ ?_ ?_ ?_ ?_ ?_ ?_ ?_ ?_ ?_ ?_ h
 ·intro k s H hH hs ho g;exact ⟨rfl,rfl,rfl,fun _ _=>rfl⟩
 ·intro k r s hr hv H hH hs ho g
  refine absurd hv (jr g (jN ho hr) ?_)
  cases q:dvs r.ft with
  | false=>rfl
  | true=>exact absurd hH (Bv hs hr q).1
 ·intro k x t v s hv H hH hs ho g
  exact ⟨rfl,rfl,rfl,Lw.hide _ (Classical.byContradiction fun q=>(hs.1 q).1 hH) _⟩
 ·intro k t v s hv H hH hs ho g;exact absurd hH hs.1.1
 ·intro k t a b v s s' o hv h0 _ ih H hH hs ho g;exact ih (.inl hH) hs.2.1 ho.2.1 g
 ·intro k t a b s s' o hv _ ih H hH hs ho g;exact ih (.inl hH) hs.2.2 ho.2.2 g
 ·intro k t a s hv H hH hs ho g;exact absurd hH hs.1.1
 ·intro k t a v s hv h0 ht H hH hs ho g;exact absurd hH hs.1.1
 ·intro k t a v n s s₁ s' o hv h0 ht _ _ _ _ H hH hs ho g;exact absurd hH hs.1.1
 ·intro k t a v n s s₁ q hv h0 ht _ _ H hH hs ho g;exact absurd hH hs.1.1
 ·intro k s H hH hs ho g;exact ⟨rfl,rfl,rfl,fun _ _=>rfl⟩
 ·intro k r rs s s₁ s' o he _ i1 i2 H hH hs ho g
  obtain ⟨a1,a2,a3,a4⟩:=i1 hH hs.1 ho.1 g
  obtain ⟨b1,b2,b3,b4⟩:=i2 hH hs.2 ho.2 ((cO p r.size).1 he ho.1 (Nat.le_refl _) g).good
  exact ⟨b1,b2.trans a2,b3.trans a3,a4.trans b4⟩
 ·intro k r rs s s₁ q he i1 H hH hs ho g
  exact im (i1 hH hs.1 ho.1 g).o
structure Al (S:Txt→Prop) (s z:St):Prop where
 turns:z.turns=s.turns
 said:z.said=s.said
 es:Lw S s.es z.es
theorem Al.hi {s z s' z':St}{o o':Option bR}(A:Al S s z) (h:Hi S s s' o) (k:Hi S z z' o'):o'=o∧Al S s' z':=⟨k.o.trans h.o.symm,k.turns.trans (A.turns.trans h.turns.symm),k.said.trans (A.said.trans h.said.symm),(h.es.symm.trans A.es).trans k.es⟩
theorem x0 {k:Int}{rs:List Rw}{s s':St}{o:Option bR}(h:Ev k rs s s' o):∀⦃H:Prop⦄,¬ H→sfs S H rs→du p rs→bk s.es p→∀⦃z:St⦄,bk z.es p→Al S s z→∃z',Ev k rs z z' o∧Al S s' z':=by
 have both:∀{r:Rw} {H:Prop} {s z:St},r≠.skip→r.sf S H→r.okp p→bk s.es p→bk z.es p→Al S s z→(rk s.es r.ft=none↔rk z.es r.ft=none):=fun {r H s z} hr hs ho g g' A=>by
  cases q:dvs r.ft with
  | false=>exact ⟨fun e=>absurd e (jr g (jN ho hr) q),fun e=>absurd e (jr g' (jN ho hr) q)⟩
  | true=>
   have hn:=(Bv hs hr q).2
   exact ⟨oJ g A.es (jN ho hr) hn,oJ g' A.es.symm (jN ho hr) hn⟩
 have num:∀{r:Rw} {H:Prop} {s z:St} {v:Int},r≠.skip→r.sf S H→r.okp p→bk s.es p→bk z.es p→Al S s z→rk s.es r.ft=some v→∃w,rk z.es r.ft=some w:=fun {r H s z v} hr hs ho g g' A hv=>by
  cases e:rk z.es r.ft with
  | some w=>exact ⟨w,rfl⟩
  | none=>exact aO ((both hr hs ho g g' A).mpr e) hv
 have dark:∀{k:Int} {t:Tm} {a b:List Rw} {H:Prop} {s s' z:St} {v:Int} {o:Option bR},(∃n∈an t,S n)→(Rw.ite t a b).sf S H→(Rw.ite t a b).okp p→bk s.es p→bk z.es p→Al S s z→rk s.es t=some v→Hi S s s' o→∃z',EvR k (.ite t a b) z z' o∧Al S s' z':=fun {k t a b H s s' z v o} hS hs ho g g' A hv hi=>by
  obtain ⟨w,hw⟩:=num (r:=.ite t a b) (fun e=>by cases e) hs ho g g' A hv
  obtain ⟨e0,_⟩:=id hi
  subst e0
  by_cases h0:w=0
  ·obtain ⟨z',o',ev,_⟩:=rE b (k+1+aj a) z
   have h2:=oK ev (.inr hS) hs.2.2 ho.2.2 g'
   obtain ⟨e1,_⟩:=id h2
   subst e1 h0
   exact ⟨z',.no hw ev,(A.hi hi h2).2⟩
  ·obtain ⟨z',o',ev,_⟩:=rE a (k+1) z
   have h2:=oK ev (.inr hS) hs.2.1 ho.2.1 g'
   obtain ⟨e1,_⟩:=id h2
   subst e1
   exact ⟨z',.yes hw h0 ev,(A.hi hi h2).2⟩
 refine Ev.rec (motive_1:=fun k r s s' o _=>∀⦃H:Prop⦄,¬ H→r.sf S H→r.okp p→bk s.es p→∀⦃z:St⦄,bk z.es p→Al S s z→∃z',EvR k r z z' o∧Al S s' z') (motive_2:=fun k rs s s' o _=>∀⦃H:Prop⦄,¬ H→sfs S H rs→du p rs→bk s.es p→∀⦃z:St⦄,bk z.es p→Al S s z→∃z',Ev k rs z z' o∧Al S s' z')
  ?_ ?_ ?_ ?_ ?_ ?_ ?_ ?_ ?_ ?_ ?_ ?_ ?_ h
 ·intro k s H hH hs ho g z g' A;exact ⟨z,.skip,A⟩
 ·intro k r s hr hv H hH hs ho g z g' A;exact ⟨z,.bad hr ((both hr hs ho g g' A).mp hv),A⟩
 ·intro k x t v s hv H hH hs ho g z g' A
  by_cases hx:S x
  ·obtain ⟨w,hw⟩:=num (r:=.set x t) (fun e=>by cases e) hs ho g g' A hv
   exact ⟨_,.set hw,A.turns,A.said,((Lw.hide _ hx _).symm.trans A.es).trans (Lw.hide _ hx _)⟩
  ·exact ⟨_,.set ((dR A.es (hs.1 hx).2).symm.trans hv),A.turns,A.said,A.es.set _ _⟩
 ·intro k t v s hv H hH hs ho g z g' A
  exact ⟨_,.tell ((dR A.es hs.1.2).symm.trans hv),A.turns,congrArg (·++[_]) A.said,A.es⟩
 ·intro k t a b v s s' o hv h0 h1 ih H hH hs ho g z g' A
  by_cases hS:∃n∈an t,S n
  ·exact dark hS hs ho g g' A hv (oK h1 (.inr hS) hs.2.1 ho.2.1 g)
  ·obtain ⟨z',h2,A'⟩:=ih (fun q=>q.elim hH hS) hs.2.1 ho.2.1 g g' A
   exact ⟨z',.yes ((dR A.es fun n hn q=>hS ⟨n,hn,q⟩).symm.trans hv) h0 h2,A'⟩
 ·intro k t a b s s' o hv h1 ih H hH hs ho g z g' A
  by_cases hS:∃n∈an t,S n
  ·exact dark hS hs ho g g' A hv (oK h1 (.inr hS) hs.2.2 ho.2.2 g)
  ·obtain ⟨z',h2,A'⟩:=ih (fun q=>q.elim hH hS) hs.2.2 ho.2.2 g g' A
   exact ⟨z',.no ((dR A.es fun n hn q=>hS ⟨n,hn,q⟩).symm.trans hv) h2,A'⟩
 ·intro k t a s hv H hH hs ho g z g' A;exact ⟨z,.done ((dR A.es hs.1.2).symm.trans hv),A⟩
 ·intro k t a v s hv h0 ht H hH hs ho g z g' A;exact ⟨z,.tired ((dR A.es hs.1.2).symm.trans hv) h0 (A.turns.trans ht),A⟩
 ·intro k t a v n s s₁ s' o hv h0 ht h1 h3 i1 i2 H hH hs ho g z g' A
  obtain ⟨z₁,h4,A1⟩:=i1 (fun q=>q.elim hH fun ⟨n,hn,q⟩=>hs.1.2 n hn q) hs.2.2 ho.2 g (z:=⟨z.es,n,z.said⟩) g' ⟨rfl,A.said,A.es⟩
  obtain ⟨z',h5,A2⟩:=i2 hH hs ho ((cO p (aj a)).2 h1 ho.2 (Nat.le_refl _) g).good ((cO p (aj a)).2 h4 ho.2 (Nat.le_refl _) g').good A1
  exact ⟨z',.turn ((dR A.es hs.1.2).symm.trans hv) h0 (A.turns.trans ht) h4 h5,A2⟩
 ·intro k t a v n s s₁ q hv h0 ht h1 i1 H hH hs ho g z g' A
  obtain ⟨z₁,h4,A1⟩:=i1 (fun q=>q.elim hH fun ⟨n,hn,q⟩=>hs.1.2 n hn q) hs.2.2 ho.2 g (z:=⟨z.es,n,z.said⟩) g' ⟨rfl,A.said,A.es⟩
  exact ⟨z₁,.stop ((dR A.es hs.1.2).symm.trans hv) h0 (A.turns.trans ht) h4,A1⟩
 ·intro k s H hH hs ho g z g' A;exact ⟨z,.nil,A⟩
 ·intro k r rs s s₁ s' o h1 h3 i1 i2 H hH hs ho g z g' A
  obtain ⟨z₁,h4,A1⟩:=i1 hH hs.1 ho.1 g g' A
  obtain ⟨z',h5,A2⟩:=i2 hH hs.2 ho.2 ((cO p r.size).1 h1 ho.1 (Nat.le_refl _) g).good ((cO p r.size).1 h4 ho.1 (Nat.le_refl _) g').good A1
  exact ⟨z',.cons h4 h5,A2⟩
 ·intro k r rs s s₁ q h1 i1 H hH hs ho g z g' A
  obtain ⟨z₁,h4,A1⟩:=i1 hH hs.1 ho.1 g g' A
  exact ⟨z₁,.stop h4,A1⟩
end
end Internal
end
section
namespace Internal
noncomputable abbrev js:Txt:=[116,117,114,110]
noncomputable def ats (ab:List Tm):List Txt:=ab.flatMap fun t=>aC (an t)
noncomputable def Rw.fs:Rw→List Txt
 | .skip=>[]
 | r=>aC (an r.ft)
noncomputable def e9 (r:Rw) (ab:List Tm):List Txt:=aC (ats ab++r.fs)
theorem fE {ab:List Tm}{n:Txt}:n∈ats ab↔∃t∈ab,n∈an t:=by
 unfold ats
 rw [List.mem_flatMap]
 exact ⟨fun ⟨t,h,k⟩=>⟨t,h,aA.mp k⟩,fun ⟨t,h,k⟩=>⟨t,h,aA.mpr k⟩⟩
theorem x2 {r:Rw}{n:Txt}(hr:r≠.skip):n∈r.fs↔n∈an r.ft:=by
 cases r with
 | skip=>exact absurd rfl hr
 | set s t=>exact aA
 | tell t=>exact aA
 | ite t a b=>exact aA
 | wh t a=>exact aA
theorem gv {r:Rw}{ab:List Tm}{n:Txt}(hr:r≠.skip):n∈e9 r ab↔n∈ats ab∨n∈an r.ft:=by
 unfold e9
 rw [aA,List.mem_append,x2 hr]
noncomputable abbrev Flw:=Int × Txt × Txt
noncomputable def qfl (q:Num):List Flw:=match q.2.1 with
 | .set x t=>(e9 (.set x t) q.2.2).map fun s=>(q.1,s,x)
 | _=>[]
noncomputable def cC (qs:List Num):List Flw:=qs.flatMap qfl
inductive Rch (A B:List Txt) (fl:List Flw):Txt→Prop
 | base {x} (h:x∈B):Rch A B fl x
 | step {k s x} (h:(k,s,x)∈fl) (hs:Rch A B fl s) (hA:x∉A) (hB:x∉B):Rch A B fl x
noncomputable abbrev Lk:=Txt × List Txt
noncomputable def lk1 (A:List Txt) (r:Rw) (ab:List Tm):List Lk:=match r with
 | .set x t=>match A.contains x with
  | true=>[(dj,e9 (.set x t) ab)]
  | false=>[]
 | _=>[]
noncomputable def lk2 (r:Rw) (ab:List Tm):List Lk:=match r with
 | .tell t=>[(dH,e9 (.tell t) ab)]
 | _=>[]
noncomputable def lk3 (r:Rw) (ab:List Tm):List Lk:=match r with
 | .wh t a=>[(js,e9 (.wh t a) ab)]
 | _=>[]
noncomputable def lk4 (r:Rw) (ab:List Tm):List Lk:=match dvs r.ft with
 | true=>[(jm,aC (rn r.ft)++ats ab)]
 | false=>[]
noncomputable def lks (A:List Txt) (r:Rw) (ab:List Tm):List Lk:=lk1 A r ab++lk2 r ab++lk3 r ab++lk4 r ab
section
variable {S:Txt→Prop}{A:List Txt}
structure jP (S:Txt→Prop) (A:List Txt) (qs:List Num):Prop where
 lk:∀q∈qs,∀l∈lks A q.2.1 q.2.2,∀n∈l.2,¬ S n
 cl:∀f∈cC qs,S f.2.1→f.2.2∉A→S f.2.2
theorem jP.left {qs qs':List Num}(h:jP S A (qs++qs')):jP S A qs:=⟨fun q hq=>h.lk q (List.mem_append_left _ hq),fun f hf=>h.cl f (by unfold cC;rw [List.flatMap_append];exact List.mem_append_left _ hf)⟩
theorem jP.right {qs qs':List Num}(h:jP S A (qs++qs')):jP S A qs':=⟨fun q hq=>h.lk q (List.mem_append_right _ hq),fun f hf=>h.cl f (by unfold cC;rw [List.flatMap_append];exact List.mem_append_right _ hf)⟩
theorem oL {ab:List Tm}{t:Tm}:(∃n∈ats (ab++[t]),S n)=((∃n∈ats ab,S n)∨∃n∈an t,S n):=by
 refine propext ⟨fun ⟨n,h,k⟩=>?_,fun h=>?_⟩
 ·obtain ⟨u,hu,hn⟩:=fE.mp h
  rcases List.mem_append.mp hu with hu | hu
  ·exact .inl ⟨n,fE.mpr ⟨u,hu,hn⟩,k⟩
  ·rw [List.mem_singleton.mp hu] at hn;exact .inr ⟨n,hn,k⟩
 ·rcases h with ⟨n,h,k⟩ | ⟨n,h,k⟩
  ·obtain ⟨u,hu,hn⟩:=fE.mp h
   exact ⟨n,fE.mpr ⟨u,List.mem_append_left _ hu,hn⟩,k⟩
  ·exact ⟨n,fE.mpr ⟨t,List.mem_append_right _ (List.mem_singleton.mpr rfl),h⟩,k⟩
theorem kG {q:Num}{qs:List Num}(h:jP S A qs) (hq:q∈qs):Dv S (∃n∈ats q.2.2,S n) q.2.1.ft:=fun hd=>by
 have key:∀n∈aC (rn q.2.1.ft)++ats q.2.2,¬ S n:=h.lk q hq (jm,_) (List.mem_append_right _ (by unfold lk4;rw [hd];exact .head _))
 exact ⟨fun ⟨n,hn,k⟩=>key n (List.mem_append_right _ hn) k,fun n hn=>key n (List.mem_append_left _ (aA.mpr hn))⟩
theorem mG {r:Rw}{ab:List Tm}(hr:r≠.skip) (h:∀n∈e9 r ab,¬ S n):(¬ ∃n∈ats ab,S n)∧∀n∈an r.ft,¬ S n:=
 ⟨fun ⟨n,hn,k⟩=>h n ((gv hr).mpr (.inl hn)) k,fun n hn=>h n ((gv hr).mpr (.inr hn))⟩
mutual
theorem AA:∀(r:Rw) {k:Int}{ab:List Tm},jP S A (r.num k ab)→r.sf S (∃n∈ats ab,S n)
 | .set x t,k,ab,h=>by
  refine ⟨fun hx=>mG (r:=.set x t) (fun e=>by cases e) fun n hn hS=>?_,kG (q:=(k,.set x t,ab)) h (.head _)⟩
  cases q:A.contains x with
  | true=>
   refine h.lk (k,.set x t,ab) (.head _) (dj,e9 (.set x t) ab) ?_ n hn hS
   refine List.mem_append_left _ (List.mem_append_left _ (List.mem_append_left _ ?_))
   show _∈(match A.contains x with | true=>_ | false=>_)
   rw [q];exact .head _
  | false=>
   refine hx (h.cl (k,n,x) (List.mem_flatMap.mpr ⟨_,.head _,List.mem_map.mpr ⟨n,hn,rfl⟩⟩) hS fun hA=>?_)
   rw [List.contains_iff_mem.mpr hA] at q;exact tf q
 | .tell t,k,ab,h=>⟨mG (r:=.tell t) (fun e=>by cases e) (h.lk (k,.tell t,ab) (.head _) (dH,_) (List.mem_append_left _ (List.mem_append_left _ (List.mem_append_right _ (.head _))))),kG (q:=(k,.tell t,ab)) h (.head _)⟩
 | .skip,k,ab,h=>trivial
 | .ite t a b,k,ab,h=>by
  have h2:jP S A ([(k,.ite t a b,ab)]++(nums (k+1) (ab++[t]) a++nums (k+1+aj a) (ab++[t]) b)):=h
  refine ⟨kG (q:=(k,.ite t a b,ab)) h (.head _),?_,?_⟩
  ·rw [←oL];exact gw a h2.right.left
  ·rw [←oL];exact gw b h2.right.right
 | .wh t a,k,ab,h=>by
  have h2:jP S A ([(k,.wh t a,ab)]++nums (k+1) (ab++[t]) a):=h
  refine ⟨mG (r:=.wh t a) (fun e=>by cases e) (h.lk (k,.wh t a,ab) (.head _) (js,_) (List.mem_append_left _ (List.mem_append_right _ (.head _)))),kG (q:=(k,.wh t a,ab)) h (.head _),?_⟩
  rw [←oL];exact gw a h2.right
theorem gw:∀(rs:List Rw) {k:Int}{ab:List Tm},jP S A (nums k ab rs)→sfs S (∃n∈ats ab,S n) rs
 | [],_,_,_=>trivial
 | r::rs,k,ab,h=>⟨AA r (jP.left h),gw rs (jP.right (qs:=r.num k ab) h)⟩
end
end
theorem x3 {A B:List Txt}{rows:List Rw}{p:Txt→Prop}{s s' z:St}{o:Option bR}(hm:∀q∈nums 1 [] rows,∀l∈lks A q.2.1 q.2.2,∀n∈l.2,¬ Rch A B (cC (nums 1 [] rows)) n) (ho:du p rows) (g:bk s.es p) (g':bk z.es p) (ha:Al (Rch A B (cC (nums 1 [] rows))) s z) (h1:Ev 1 rows s s' o) :
  ∃z',Ev 1 rows z z' o∧Al (Rch A B (cC (nums 1 [] rows))) s' z':=by
 refine x0 h1 (H:=∃n∈ats [],Rch A B (cC (nums 1 [] rows)) n) (fun ⟨n,hn,_⟩=>aX hn) (gw rows ⟨hm,fun f hf hS hA=>?_⟩) ho g g' ha
 obtain ⟨k,s,x⟩:=f
 by_cases hB:x∈B
 ·exact .base hB
 ·exact .step hf hS hA hB
end Internal
end
section
namespace Internal
mutual
theorem DV {P:Tm→Prop}:∀(r:Rw) {k:Int}{ab:List Tm},(∀q∈r.num k ab,P q.2.1.ft)→(∀t∈ab,P t)→∀q∈r.num k ab,(∀t∈q.2.2,P t)∧q.2.2.length≤ab.length+r.nest
 | .set s t,k,ab,h,ha,q,hq=>by rw [List.mem_singleton.mp hq];exact ⟨ha,Nat.le_refl _⟩
 | .tell t,k,ab,h,ha,q,hq=>by rw [List.mem_singleton.mp hq];exact ⟨ha,Nat.le_refl _⟩
 | .skip,k,ab,h,ha,q,hq=>by rw [List.mem_singleton.mp hq];exact ⟨ha,Nat.le_refl _⟩
 | .ite t a b,k,ab,h,ha,q,hq=>by
  have hb:∀u∈ab++[t],P u:=fun u hu=>(List.mem_append.mp hu).elim (ha u) fun e=>by rw [List.mem_singleton.mp e];exact h (k,.ite t a b,ab) (.head _)
  rcases List.mem_cons.mp hq with rfl | hq
  ·exact ⟨ha,Nat.le_add_right _ _⟩
  ·show _∧_≤ab.length+(max (ap a) (ap b)+1)
   rcases List.mem_append.mp hq with hq | hq
   ·obtain ⟨h1,h2⟩:=jt a (fun q hq=>h q (.tail _ (List.mem_append_left _ hq))) hb q hq
    rw [List.length_append,List.length_singleton] at h2
    exact ⟨h1,n2 h2 (Nat.le_max_left (ap a) (ap b)) (by simp +arith only)⟩
   ·obtain ⟨h1,h2⟩:=jt b (fun q hq=>h q (.tail _ (List.mem_append_right _ hq))) hb q hq
    rw [List.length_append,List.length_singleton] at h2
    exact ⟨h1,n2 h2 (Nat.le_max_right (ap a) (ap b)) (by simp +arith only)⟩
 | .wh t a,k,ab,h,ha,q,hq=>by
  have hb:∀u∈ab++[t],P u:=fun u hu=>(List.mem_append.mp hu).elim (ha u) fun e=>by rw [List.mem_singleton.mp e];exact h (k,.wh t a,ab) (.head _)
  rcases List.mem_cons.mp hq with rfl | hq
  ·exact ⟨ha,Nat.le_add_right _ _⟩
  ·obtain ⟨h1,h2⟩:=jt a (fun q hq=>h q (.tail _ hq)) hb q hq
   rw [List.length_append,List.length_singleton] at h2
   exact ⟨h1,show _≤ab.length+(ap a+1) from n1 h2 (by simp +arith only)⟩
theorem jt {P:Tm→Prop}:∀(rs:List Rw) {k:Int}{ab:List Tm},(∀q∈nums k ab rs,P q.2.1.ft)→(∀t∈ab,P t)→∀q∈nums k ab rs,(∀t∈q.2.2,P t)∧q.2.2.length≤ab.length+ap rs
 | [],_,_,_,_,q,hq=>aX hq
 | r::rs,k,ab,h,ha,q,hq=>by
  show _∧_≤ab.length+max r.nest (ap rs)
  rcases List.mem_append.mp (show q∈r.num k ab++nums (k+r.size) ab rs from hq) with hq | hq
  ·obtain ⟨h1,h2⟩:=DV r (fun q hq=>h q (List.mem_append_left _ hq)) ha q hq
   exact ⟨h1,n2 h2 (Nat.le_max_left r.nest (ap rs)) (by simp +arith only)⟩
  ·obtain ⟨h1,h2⟩:=jt rs (fun q hq=>h q (List.mem_append_right _ hq)) ha q hq
   exact ⟨h1,n2 h2 (Nat.le_max_right r.nest (ap rs)) (by simp +arith only)⟩
end
theorem kH {r:Rw}(h:r.good):r.ft.good:=by
 cases r with
 | set s t=>exact h.2
 | tell t=>exact h
 | skip=>exact ⟨⟨Int.le_refl 0,by decide⟩,Nat.zero_le _⟩
 | ite t a b=>exact h.1
 | wh t a=>exact h.1
theorem DW {r:Rw}{n:Txt}(h:n∈an r.ft):n∈r.nms:=by
 cases r with
 | set s t=>exact .tail _ (aA.mpr h)
 | tell t=>exact aA.mpr h
 | skip=>exact aX h
 | ite t a b=>exact aA.mpr h
 | wh t a=>exact aA.mpr h
structure nJ (T:List Txt) (q:Num):Prop where
 good:q.2.1.good
 tg:∀t∈q.2.2,t.good
 am:∀n∈ats q.2.2,n∈T
 fn:∀n∈an q.2.1.ft,n∈T
 len:q.2.2.length≤7
theorem LF.nums {A B:List Txt}{rows:List Rw}(F:LF A B rows):∀q∈nums 1 [] rows,nJ (aC (av A B rows)) q:=fun q hq=>by
 have key:∀q∈Internal.nums 1 [] rows,q.2.1.ft.good∧∀n∈Internal.an q.2.1.ft,n∈aC (av A B rows):=fun q hq=>⟨kH (cB F.g q hq),fun n hn=>aA.mpr (List.mem_append_right _ (List.mem_flatMap.mpr ⟨q,hq,DW hn⟩))⟩
 obtain ⟨h1,h2⟩:=jt rows (P:=fun t=>t.good∧∀n∈Internal.an t,n∈aC (av A B rows)) key (fun _ h=>aX h) q hq
 refine ⟨cB F.g q hq,fun t ht=>(h1 t ht).1,fun n hn=>?_,(key q hq).2,Nat.le_trans h2 (by rw [List.length_nil,Nat.zero_add];exact F.ne)⟩
 obtain ⟨t,ht,hn⟩:=fE.mp hn
 exact (h1 t ht).2 n hn
theorem dy {t:Tm}(h:t.good):(aC (an t)).length≤8:=Nat.le_trans (f7 _) (Nat.le_trans (cw t) h.lv)
theorem x4 (ab:List Tm) (t:Tm):ats (ab++[t])=ats ab++aC (an t):=by
 unfold ats
 rw [List.flatMap_append]
 exact congrArg (_++·) (List.append_nil _)
theorem kI:∀{ab:List Tm},(∀t∈ab,t.good)→(ats ab).length≤8 * ab.length
 | [],_=>Nat.le_refl _
 | t::ab,h=>by
  have h1:=dy (h t (.head _))
  have h2:=kI (ab:=ab) fun u hu=>h u (.tail _ hu)
  show (aC (an t)++ats ab).length≤8 * (ab.length+1)
  rw [List.length_append];exact n2 h2 h1 (by simp +arith only)
variable {K:KT}(hK:aF PP K)
include hK
theorem sW {ab:List Tm}{N:Nat}{Q:MV→List MO→Prop}{X:XT}{h:List MO}(hg:∀t∈ab,t.good) (hl:ab.length≤7) (hN:6<N) (hq:∀h',h<+:h'→h'[h.length]?=some (.list ((ats ab).map .str))→Q (.ref h.length) h'):K N 101 [.tup (ab.map Tm.mv)] Q X h:=by
 obtain ⟨M,rfl,hM⟩:=room hN
 refine hK _ _ _ _ _ _ fT rfl rfl ?_
 refine gP (fun j w hp=>⟨[some (.tup (ab.map Tm.mv)),some (.ref h.length),w],hp⟩) (fun j w hp=>h<+:hp∧hp[h.length]?=some (.list ((ats (ab.take j)).map .str))) none _ rfl ⟨aa (ai _),ac _ _⟩ (fun _ _ _ _=>trivial) (fun j x w hp P hx hI hn _=>?_) (fun w hp hI=>?_)
 ·obtain ⟨p1,e1⟩:=hI
  obtain ⟨t,ht,rfl⟩:=Option.map_eq_some_iff.mp (List.getElem?_map ..▸hx)
  have hg1:=hg t (List.mem_of_getElem? ht)
  refine aw (gT e1) ?_
  refine iB hK (by have:=hg1.2;exact n2 this hN (by simp +arith only)) hg1.1 (Nat.le_trans hg1.lv (nb rfl)) fun i h2 p2 l2 e2=>?_
  have e3:=ag p2 e1
  refine bf (bc e3) (bf (bc e2) ?_)
  have l1:=kI (ab:=ab.take j) fun u hu=>hg u (List.mem_of_mem_take hu)
  have l2:=dy hg1
  have l3:(ab.take j).length≤ab.length:=by rw [List.length_take];exact Nat.min_le_right ..
  refine ⟨aZ (by rw [List.length_map,List.length_map];lia),?_⟩
  refine hn _ _ ⟨aJ (p1.trans p2) (Nat.le_refl _),?_⟩
  rw [aq ht,x4,List.map_append];exact get_set e3
 ·obtain ⟨p1,e1⟩:=hI
  rw [List.length_map,List.take_length] at e1
  exact hq hp p1 e1
omit hK in
theorem DX {r:Rw}(h:r.good):r.fs.length≤8:=by
 cases r with
 | skip=>exact Nat.zero_le _
 | set s t=>exact dy h.2
 | tell t=>exact dy h
 | ite t a b=>exact dy h.1
 | wh t a=>exact dy h.1
theorem x5 {T:List Txt}{k:Int}{r:Rw}{ab:List Tm}{N:Nat}{Q:MV→List MO→Prop}{X:XT}{h:List MO}(o:nJ T (k,r,ab)) (hT:T.length<64) (hN:7<N) (hq:∀h' i,h<+:h'→h.length≤i→h'[i]?=some (.list ((e9 r ab).map .str))→Q (.ref i) h'):K N 102 [r.mv,.tup (ab.map Tm.mv)] Q X h:=by
 obtain ⟨M,rfl,hM⟩:=room hN
 have few:(aC (ats ab++r.fs)).length<64:=Nat.lt_of_le_of_lt (jh (t:=T) fun n hn=>(List.mem_append.mp hn).elim (o.am n) fun hn=>by
  by_cases hs:r=.skip
  ·rw [hs] at hn;exact aX hn
  ·exact o.fn n ((x2 hs).mp hn)) hT
 have la:(ats ab).length≤8 * ab.length:=kI o.tg
 have ll:ab.length≤7:=o.len
 have lf:r.fs.length≤8:=DX o.good
 refine hK _ _ _ _ _ _ hZ rfl rfl ?_
 refine sW hK o.tg o.len hM fun h1 p1 e1=>?_
 have p1:h<+:h1:=p1
 have last:∀{hp:List MO} {i:Nat},h1<+:hp→hp[i]?=some (.list ((ats ab++r.fs).map .str))→aD K M [.ret (.blt .sortedSet [.var 2])] (fin Q) (fun c m=>X c m.heap) ⟨[some r.mv,some (.tup (ab.map Tm.mv)),some (.ref i)],hp⟩:=fun {hp i} p e=>by
  refine af e ?_
  refine .mk (ats ab++r.fs) rfl few (by rw [List.length_append];lia) (hq _ _ (aa (p1.trans p)) (Nat.le_trans p1.length_le p.length_le) (ac _ _))
 have more:∀{t:Tm},r.fm=t.mv→r.fs=aC (an t)→t.good→aD K M [.asg [2] false (.bin .add (.var 2) (.call 1 [.call 26 [.var 0]])),.ret (.blt .sortedSet [.var 2])] (fin Q) (fun c m=>X c m.heap) ⟨[some r.mv,some (.tup (ab.map Tm.mv)),some (.ref h.length)],h1⟩:=fun {t} h2 h3 ht=>by
  refine ke hK (eX (ik (n:=0) r)) (Nat.le_trans (nb rfl) hM) ?_
  rw [h2]
  refine iB hK (by have:=ht.2;exact n2 this hN (by simp +arith only)) ht.1 (Nat.le_trans ht.lv (nb rfl)) fun i h4 p4 l4 e4=>?_
  have p4:h1<+:h4:=p4
  refine af (ag p4 e1) (af e4 ?_)
  rw [h3] at lf
  refine ⟨bQ (by lia),?_⟩
  refine last (aa p4) ?_
  rw [h3];exact b9 _ _ _
 cases r with
 | skip=>
  refine last (ai _) ?_
  rw [show ats ab++Rw.fs .skip=ats ab from List.append_nil _];exact e1
 | set s t=>exact more rfl rfl o.good.2
 | tell t=>exact more rfl rfl o.good
 | ite t a b=>exact more rfl rfl o.good.1
 | wh t a=>exact more rfl rfl o.good.1
noncomputable abbrev mH:Txt:=[111,112,101,110]
noncomputable abbrev kJ:Txt:=[115,101,99,114,101,116]
noncomputable abbrev Fi:Txt:=[102,114,101,101]
noncomputable def nK (A B:List Txt) (x:Txt):Txt:=match A.contains x with
 | true=>mH
 | false=>match B.contains x with
  | true=>kJ
  | false=>Fi
theorem x6 {i:Nat}{A B:List Txt}{rows:List Rw}{x:Txt}{N:Nat}{Q:MV→List MO→Prop}{X:XT}{h:List MO}(hp:bn h i A B rows) (hg:∀s∈A++B,Gn s) (hx:okS x) (hN:0<N) (hq:Q (.str (nK A B x)) h):K N 65 [.inst 0 i,.str x] Q X h:=by
 obtain ⟨M,rfl,hM⟩:=room hN
 obtain ⟨a,b,h1,h2,h3⟩:=hp
 unfold nK at hq
 refine hK _ _ _ _ _ _ fG rfl rfl ?_
 refine aR h1 ?_
 refine az h2 ?_
 refine cK hx (fun s hs=>(hg s (List.mem_append_left _ hs)).1.ok) ?_
 cases q:A.contains x with
 | true=>rw [q] at hq;exact hq
 | false=>
  rw [q] at hq
  refine aR h1 ?_
  refine az h3 ?_
  refine cK hx (fun s hs=>(hg s (List.mem_append_right _ hs)).1.ok) ?_
  cases q:B.contains x with
  | true=>rw [q] at hq;exact hq
  | false=>rw [q] at hq;exact hq
noncomputable def iG (f:Flw):MV:=.tup [.int f.1,.str f.2.1,.str f.2.2]
omit hK in
theorem sX {T:List Txt}{q:Num}(o:nJ T q) (hT:T.length<64):(qfl q).length≤63:=by
 obtain ⟨k,r,ab⟩:=q
 cases r with
 | set x t=>
  show ((e9 (.set x t) ab).map _).length≤63
  rw [List.length_map]
  exact Nat.le_of_lt_succ (Nat.lt_of_le_of_lt (jh (t:=T) fun n hn=>(List.mem_append.mp hn).elim (o.am n) fun hn=>o.fn n (aA.mp hn)) hT)
 | _=>exact Nat.zero_le _
omit hK in
theorem qb {T:List Txt}(hT:T.length<64):∀{qs:List Num},(∀q∈qs,nJ T q)→(cC qs).length≤63 * qs.length
 | [],_=>Nat.le_refl _
 | q::qs,h=>by
  have h1:=sX (h q (.head _)) hT
  have h2:=qb hT (qs:=qs) fun x hx=>h x (.tail _ hx)
  show (qfl q++cC qs).length≤63 * (qs.length+1)
  rw [List.length_append];exact n2 h2 h1 (by simp +arith only)
omit hK in
theorem qc (a b:List Num):cC (a++b)=cC a++cC b:=List.flatMap_append ..
theorem AB {i:Nat}{A B:List Txt}{rows:List Rw}{N:Nat}{Q:MV→List MO→Prop}{X:XT}{h:List MO}(hp:bn h i A B rows) (F:LF A B rows) (hN:9<N)
  (hq:∀h' r,h<+:h'→h.length≤r→h'[r]?=some (.list ((cC (nums 1 [] rows)).map iG))→Q (.ref r) h'):K N 103 [.inst 0 i] Q X h:=by
 obtain ⟨M,rfl,hM⟩:=room hN
 obtain ⟨a,b,h1,_,_⟩:=id hp
 have p1:h<+:h++[.list []]:=aa (ai _)
 have hF:=F.nums
 have ln:(nums 1 [] rows).length=aj rows:=bq rows 1 []
 have sz:=F.sz
 refine hK _ _ _ _ _ _ pM rfl rfl ?_
 refine aw (de (ag p1 h1) rfl) ?_
 refine iC hK (hp.up p1) (Nat.le_trans (nb rfl) hM) ?_
 refine dM hK rows (k:=1) (ab:=[]) (Nat.le_trans F.sz (nb rfl)) (by show 0+_≤_;exact n1 F.ne (by simp +arith only)) (n2 hN F.ne (by simp +arith only)) fun h4 p4 e4=>?_
 have p4:h++[.list []]<+:h4:=p4
 have l4:h.length<h4.length:=Nat.lt_of_lt_of_le (by rw [List.length_append];exact Nat.lt_succ_self _) p4.length_le
 refine aM (aH e4) ?_
 refine om (fun j w2 w3 w4 w5 hp=>⟨[some (.inst 0 i),some (.ref h.length),w2,w3,w4,w5],hp⟩) (fun j w2 w3 w4 w5 hp=>A3 (h<+:hp) (hp[h.length]?=some (.list ((cC ((nums 1 [] rows).take j)).map iG))) (hp[(h++[MO.list []]).length]?=some (.list ((nums 1 [] rows).map eZ))))
  none none none none _ rfl ⟨p1.trans p4,ag p4 (ac _ _),e4⟩ (fun _ _ _ _ _ _ hI=>hI.h3) (fun j x w2 w3 w4 w5 hp P hx hI hn _=>?_) (fun w2 w3 w4 w5 hp hI=>?_)
 ·obtain ⟨q1,q2,q3⟩:=hI
  obtain ⟨⟨k,r,ab⟩,hq1,rfl⟩:=Option.map_eq_some_iff.mp (List.getElem?_map ..▸hx)
  have o:=hF _ (List.mem_of_getElem? hq1)
  have lt:=qb F.few (qs:=(nums 1 [] rows).take j) fun x hx=>hF x (List.mem_of_mem_take hx)
  have lj:=List.length_take_le j (nums 1 [] rows)
  have hj:=(List.getElem?_eq_some_iff.mp hq1).1
  refine ⟨rfl,?_⟩
  have skip:qfl (k,r,ab)=[]→P .next ⟨[some (.inst 0 i),some (.ref h.length),some (.int k),some r.mv,some (.tup (ab.map Tm.mv)),w5],hp⟩:=fun e=>hn _ _ _ _ _ ⟨q1,by rw [aq hq1,qc,show cC [(k,r,ab)]=[] from (List.append_nil _).trans e,List.append_nil];exact q2,q3⟩
  cases r with
  | skip=>exact skip rfl
  | tell t=>exact skip rfl
  | ite t a b=>exact skip rfl
  | wh t a=>exact skip rfl
  | set x t=>
   have lq:=sX o F.few
   refine aw (gT q2) ?_
   refine x5 hK o F.few (n1 hN (by simp +arith only)) fun h5 r5 p5 l5 e5=>?_
   have p5:hp<+:h5:=p5
   refine aM (aH e5) ?_
   refine kE (fun w=>⟨[some (.inst 0 i),some (.ref h.length),some (.int k),some (Rw.mv (.set x t)),some (.tup (ab.map Tm.mv)),w],h5⟩) (fun j=>((qfl (k,.set x t,ab)).map iG).take j) _ rfl rfl (fun _=>e5) (fun j z w P hz n1 n2=>?_) (fun w=>?_)
   ·obtain ⟨s,hs1,rfl⟩:=Option.map_eq_some_iff.mp (List.getElem?_map ..▸hz)
    refine n1 _ _ (aq ?_)
    show (((e9 (.set x t) ab).map fun s=>(k,s,x)).map iG)[j]?=_
    rw [List.getElem?_map,List.getElem?_map,hs1];rfl
   ·have e6:((e9 (.set x t) ab).map MV.str).length=((qfl (k,.set x t,ab)).map iG).length:=by
     show _=(((e9 (.set x t) ab).map fun s=>(k,s,x)).map iG).length
     rw [List.length_map,List.length_map,List.length_map]
    rw [e6,List.take_length]
    have q4:=ah (o':=.list ((qfl (k,.set x t,ab)).map iG)) (ag p5 q2)
    refine bf (bc q4) (bf (bc (ac _ _)) ?_)
    refine ⟨aZ (by rw [List.length_map,List.length_map];lia),?_⟩
    refine hn _ _ _ _ _ ⟨aJ (aa (q1.trans p5)) (Nat.le_refl _),?_,ak (by rw [List.length_append];exact Nat.ne_of_lt (Nat.lt_succ_self _)) (ah (ag p5 q3))⟩
    rw [aq hq1,qc,show cC [(k,.set x t,ab)]=qfl (k,.set x t,ab) from List.append_nil _,List.map_append]
    exact get_set q4
 ·obtain ⟨q1,q2,q3⟩:=hI
  rw [List.length_map,List.take_length] at q2
  exact hq _ _ q1 (Nat.le_refl _) q2
end Internal
end
section
namespace Internal
noncomputable def FK (hp:List MO) (w:Nat) (x:Txt) (v:MV) (n:Nat):Prop:=∃i k ps,v=.ref i∧w<i∧hp[i]?=some (.list (ps++[.tup [.int k,.str x]]))∧ps.length<n
theorem qd {es:ES}{x:Txt}:(aE es x).isSome=true↔x∈es.map (·.1):=by
 constructor
 ·intro h
  obtain ⟨v,e⟩:=Option.isSome_iff_exists.mp h
  exact List.mem_map.mpr ⟨_,p8 e,rfl⟩
 ·intro h
  obtain ⟨v,e,_⟩:=mC h
  rw [e];rfl
structure RI (h:List MO) (T:List Txt) (hp:List MO) (es:ES) (ws:List Txt):Prop where
 pre:h<+:hp
 d:hp[h.length]?=some (.dict es)
 w:hp[h.length+1]?=some (.list (ws.map .str))
 keys:es.map (·.1)=ws
 nd:ws.Nodup
 rd:∀e∈es,FK hp (h.length+1) e.1 e.2 ws.length
 sub:∀x∈ws,x∈T
section
variable {h:List MO}{T:List Txt}{hp hp':List MO}{es:ES}{ws:List Txt}
theorem RI.up (r:RI h T hp es ws) (p:hp<+:hp'):RI h T hp' es ws:=⟨r.pre.trans p,ag p r.d,ag p r.w,r.keys,r.nd,fun e he=>by
 obtain ⟨i,k,ps,h1,h2,h3,h4⟩:=r.rd e he
 exact ⟨i,k,ps,h1,h2,ag p h3,h4⟩,r.sub⟩
theorem RI.few (r:RI h T hp es ws) (hT:T.length<64):ws.length<64:=Nat.lt_of_le_of_lt (oq ws T r.nd r.sub) hT
theorem RI.len (r:RI h T hp es ws):es.length=ws.length:=by rw [←r.keys,List.length_map]
theorem RI.add (r:RI h T hp es ws) {x:Txt}(hx:x∉ws) (hT:x∈T) {i:Nat}{k:Int}{ps:List MV}(hi:h.length+1<i) (e:hp[i]?=some (.list (ps++[.tup [.int k,.str x]]))) (hl:ps.length≤ws.length) :
  RI h T ((hp.set h.length (.dict (bA es x (.ref i)))).set (h.length+1) (.list ((ws++[x]).map .str))) (bA es x (.ref i)) (ws++[x]):=by
 have hd:bA es x (.ref i)=es++[(x,.ref i)]:=gc (by rw [r.keys];exact hx)
 have keep:∀{j:Nat} {o:MO},h.length+1<j→hp[j]?=some o→((hp.set h.length (.dict (bA es x (.ref i)))).set (h.length+1) (.list ((ws++[x]).map .str)))[j]?=some o:=fun hj ho=>ak (Nat.ne_of_lt hj) (ak (Nat.ne_of_lt (Nat.lt_trans (Nat.lt_succ_self _) hj)) ho)
 refine ⟨aJ (aJ r.pre (Nat.le_refl _)) (Nat.le_succ _),ak (Nat.succ_ne_self _) (get_set r.d),get_set (ak (Ne.symm (Nat.succ_ne_self _)) r.w),?_,?_,fun q hq=>?_,fun y hy=>?_⟩
 ·rw [hd,List.map_append,r.keys];rfl
 ·exact List.nodup_append.mpr ⟨r.nd,List.nodup_cons.mpr ⟨List.not_mem_nil,List.nodup_nil⟩,fun a ha b hb e=>hx (by rw [←List.mem_singleton.mp hb,←e];exact ha)⟩
 ·rw [List.length_append,List.length_singleton]
  rw [hd] at hq
  rcases List.mem_append.mp hq with hq | hq
  ·obtain ⟨i',k',ps',h1,h2,h3,h4⟩:=r.rd q hq
   exact ⟨i',k',ps',h1,h2,keep h2 h3,Nat.lt_succ_of_lt h4⟩
  ·rw [List.mem_singleton.mp hq]
   exact ⟨i,k,ps,rfl,hi,keep hi e,Nat.lt_succ_of_le hl⟩
 ·rcases List.mem_append.mp hy with hy | hy
  ·exact r.sub y hy
  ·rw [List.mem_singleton.mp hy];exact hT
end
variable {K:KT}(hK:aF PP K)
include hK
theorem uO {h:List MO}{T A B:List Txt}{rows:List Rw}{i f N:Nat}{fl:List Flw}{hp:List MO}{es:ES}{ws:List Txt}{v3:Option MV}{w7 w8:Option MV}{at_:Int}{k:Int}{src s x:Txt}{P:Fl→MS→Prop}{X:XM}(r:RI h T hp es ws) (hT:T.length<64) (hpg:bn h i A B rows) (hg:∀s∈A++B,Gn s) (hx:okS x) (hxT:x∈T) (hs:src∈ws) (hN:0<N)
  (hf:h.length+1<f) (hfl:hp[f]?=some (.list (fl.map iG)))
  (hq:∀hp' es' ws',RI h T hp' es' ws'→hp'[f]?=some (.list (fl.map iG))→(ws'=ws∨(ws'=ws++[x]∧s=src∧x∉A∧x∉B))→(s=src→x∉A→x∉B→x∈ws')→P .next ⟨[some (.inst 0 i),some (.ref h.length),some (.ref (h.length+1)),some (.str x),some (.ref f),some (.int at_),some (.str src),some (.int k),some (.str s)],hp'⟩) :
  asg [7,8,3] true (iG (k,s,x)) (fun m=>aD K N [.ite (.and [.cmp .eq (.var 8) (.var 6),.cmp .nin (.var 3) (.var 1),.cmp .eq (.umth 0 65 [107,105,110,100] (.var 0) [.var 3]) (.cst (.str [102,114,101,101]))]) [.setIdx (.var 1) (.var 3) (.bin .add (.idx (.var 1) (.var 6)) (.list [.tup [.var 7,.var 3]])),.expr (.mth .append (.var 2) [.var 3])] []] P X m) ⟨[some (.inst 0 i),some (.ref h.length),some (.ref (h.length+1)),v3,some (.ref f),some (.int at_),some (.str src),w7,w8],hp⟩:=by
 obtain ⟨a,b,h1,_,_⟩:=hpg.up r.pre
 have few:=r.few hT
 refine ⟨rfl,?_⟩
 conv=>whnf
 cases q1:(s==src) with
 | false=>exact hq hp es ws r hfl (.inl rfl) fun e=>by rw [e,beq_self_eq_true] at q1;exact tf q1
 | true=>
  refine eD r.d ?_
  conv=>whnf
  cases q2:(aE es x).isSome with
  | true=>exact hq hp es ws r hfl (.inl rfl) fun _ _ _=>r.keys▸qd.mp q2
  | false=>
   have hnew:x∉ws:=fun hx=>by rw [qd.mpr (r.keys.symm▸hx)] at q2;exact tf q2
   refine aw (de h1 rfl) ?_
   refine x6 hK (hpg.up r.pre) hg hx hN ?_
   unfold nK
   cases q3:A.contains x with
   | true=>exact hq hp es ws r hfl (.inl rfl) fun _ hA=>absurd (List.contains_iff_mem.mp q3) hA
   | false=>
    cases q4:B.contains x with
    | true=>exact hq hp es ws r hfl (.inl rfl) fun _ _ hB=>absurd (List.contains_iff_mem.mp q4) hB
    | false=>
     obtain ⟨v,e1,e2⟩:=mC (es:=es) (k:=src) (by rw [r.keys];exact hs)
     obtain ⟨j,k',ps,e3,e4,e5,e6⟩:=r.rd _ e2
     obtain rfl:v=.ref j:=e3
     refine bw r.d ?_
     refine bN e1 ?_
     refine af (ah e5) (af (ac _ _) ?_)
     refine ⟨aZ (by rw [List.length_append,List.length_singleton,List.length_singleton];exact n2 e6 few (by simp +arith only)),?_⟩
     have p2:hp<+:hp++[MO.list [.tup [.int k,.str x]]]++[MO.list (ps++[.tup [.int k',.str src]]++[.tup [.int k,.str x]])]:=aa (aa (ai _))
     have r2:=r.up p2
     refine bw r2.d ?_
     have ln:=r.len
     refine ⟨by unfold line;lia,?_⟩
     have r3:RI h T _ _ _:=r2.add hnew hxT (i:=(hp++[MO.list [.tup [.int k,.str x]]]).length) (k:=k) (ps:=ps++[.tup [.int k',.str src]]) ?_ (ac _ _) (by rw [List.length_append,List.length_singleton];exact e6)
     ·have hw:((hp++[MO.list [.tup [.int k,.str x]]]++[MO.list (ps++[.tup [.int k',.str src]]++[.tup [.int k,.str x]])]).set h.length (.dict (bA es x (.ref (hp++[MO.list [.tup [.int k,.str x]]]).length))))[h.length+1]?=some (.list (ws.map .str)):=ak (Ne.symm (Nat.succ_ne_self _)) r2.w
      refine aw (aK hw) (bf (bc hw) ?_)
      refine ⟨by rw [List.length_map];unfold line;exact Nat.le_trans few (nb rfl),?_⟩
      rw [List.map_append] at r3
      refine hq _ _ _ r3 (ak (Nat.ne_of_lt hf) (ak (Nat.ne_of_lt (Nat.lt_trans (Nat.lt_succ_self _) hf)) (ag p2 hfl))) (.inr ⟨rfl,eq_of_beq q1,fun q=>?_,fun q=>?_⟩) fun _ _ _=>List.mem_append_right _ (List.mem_singleton.mpr rfl)
      ·rw [List.contains_iff_mem.mpr q] at q3;exact tf q3
      ·rw [List.contains_iff_mem.mpr q] at q4;exact tf q4
     ·have:=(List.getElem?_eq_some_iff.mp r.w).1
      rw [List.length_append,List.length_singleton];exact n1 this (by simp +arith only)
end Internal
end
section
namespace Internal
structure rH (hp:List MO) (S:Txt→Prop) (es:ES):Prop where
 keys:∀x,x∈es.map (·.1)↔S x
 rd:∀e∈es,∃i k ps,e.2=.ref i∧hp[i]?=some (.list (ps++[.tup [.int k,.str e.1]]))∧ps.length<64
theorem DY {A B:List Txt}{rows:List Rw}:∀f∈cC (nums 1 [] rows),f.2.2∈aC (av A B rows):=fun f hf=>by
 obtain ⟨⟨k,r,ab⟩,hq,hf⟩:=List.mem_flatMap.mp hf
 refine aA.mpr (List.mem_append_right _ (List.mem_flatMap.mpr ⟨_,hq,?_⟩))
 cases r with
 | set x t=>
  obtain ⟨s,_,rfl⟩:=List.mem_map.mp (show f∈(e9 (.set x t) ab).map fun s=>(k,s,x) from hf)
  exact .head _
 | _=>exact aX hf
structure RL (A B:List Txt) (fl:List Flw) (ws:List Txt) (n:Nat):Prop where
 base:∀x∈B,x∈ws
 snd:∀x∈ws,Rch A B fl x
 cl:∀s∈ws.take n,∀k x,(k,s,x)∈fl→x∉A→x∉B→x∈ws
theorem RL.all {A B:List Txt}{fl:List Flw}{ws:List Txt}{n:Nat}(h:RL A B fl ws n) (hn:ws.length≤n) (x:Txt):x∈ws↔Rch A B fl x:=by
 refine ⟨h.snd x,fun r=>?_⟩
 induction r with
 | base hb=>exact h.base _ hb
 | step hf _ hA hB ih=>exact h.cl _ (by rw [List.take_of_length_le hn];exact ih) _ _ hf hA hB
theorem DZ {fl:List Flw}{j:Nat}{v:MV}(e:(fl.map iG)[j]?=some v):∃k s x,fl[j]?=some (k,s,x)∧v=iG (k,s,x):=by
 obtain ⟨⟨k,s,x⟩,h1,h2⟩:=List.getElem?_map ..▸e |> Option.map_eq_some_iff.mp
 exact ⟨k,s,x,h1,h2.symm⟩
theorem RL.turn {A B:List Txt}{fl:List Flw}{ws ws':List Txt}{n j:Nat}{k:Int}{src s x:Txt}(L:RL A B fl ws n) (hc:∀k x,(k,src,x)∈fl.take j→x∉A→x∉B→x∈ws) (e:ws[n]?=some src) (hj:fl[j]?=some (k,s,x))
  (h3:ws'=ws∨(ws'=ws++[x]∧s=src∧x∉A∧x∉B)) (h4:s=src→x∉A→x∉B→x∈ws'):RL A B fl ws' n∧(∀k x,(k,src,x)∈fl.take (j+1)→x∉A→x∉B→x∈ws')∧ws'[n]?=some src:=by
 have d:∀{k' y},(k',src,y)∈fl.take (j+1)→(k',src,y)∈fl.take j∨(s=src∧y=x):=fun hy=>by
  rw [aq hj] at hy
  exact (List.mem_append.mp hy).imp_right fun hy=>by cases List.mem_singleton.mp hy;exact ⟨rfl,rfl⟩
 rcases h3 with rfl | ⟨rfl,rfl,hA,hB⟩
 ·exact ⟨L,fun k y hy hA hB=>(d hy).elim (fun hy=>hc k y hy hA hB) fun q=>by obtain ⟨q,rfl⟩:=q;exact h4 q hA hB,e⟩
 ·refine ⟨⟨fun y hy=>List.mem_append_left _ (L.base y hy),fun y hy=>?_,fun s' hs' k'' y hf' hA hB=>List.mem_append_left _ (L.cl s' ?_ k'' y hf' hA hB)⟩,fun k y hy hA hB=>(d hy).elim (fun hy=>List.mem_append_left _ (hc k y hy hA hB)) fun q=>by obtain ⟨q,rfl⟩:=q;exact h4 q hA hB,ah e⟩
  ·rcases List.mem_append.mp hy with hy | hy
   ·exact L.snd y hy
   ·rw [List.mem_singleton.mp hy]
    exact .step (List.mem_of_getElem? hj) (L.snd _ (List.mem_of_getElem? e)) hA hB
  ·rw [List.take_append_of_le_length (Nat.le_of_lt (List.getElem?_eq_some_iff.mp e).1)] at hs';exact hs'
theorem RL.next {A B:List Txt}{fl:List Flw}{ws:List Txt}{n:Nat}{src:Txt}(L:RL A B fl ws n) (hc:∀k x,(k,src,x)∈fl→x∉A→x∉B→x∈ws) (e:ws[n]?=some src):RL A B fl ws (n+1):=
 ⟨L.base,L.snd,fun s hs k x hf hA hB=>by
  rw [aq e] at hs
  rcases List.mem_append.mp hs with hs | hs
  ·exact L.cl s hs k x hf hA hB
  ·rw [List.mem_singleton.mp hs] at hf;exact hc k x hf hA hB⟩
variable {K:KT}(hK:aF PP K)
include hK
theorem rI {h:List MO}{T A B:List Txt}{rows:List Rw}{i f N:Nat}{fl:List Flw}{hp:List MO}{es:ES}{ws:List Txt}{v3:Option MV}{Q:MV→List MO→Prop}{X:XT}(r:RI h T hp es ws) (hT:T.length<64) (hpg:bn h i A B rows) (hg:∀s∈A++B,Gn s) (hok:∀x∈T,okS x) (hN:0<N)
  (hf:h.length+1<f) (hfl:hp[f]?=some (.list (fl.map iG))) (hfT:∀f∈fl,f.2.2∈T) (L:RL A B fl ws 0)
  (hq:∀h' es,h<+:h'→h'[h.length]?=some (.dict es)→rH h' (Rch A B fl) es→Q (.ref h.length) h') :
  aD K N (i9.body.drop 5) (fin Q) (fun c m=>X c m.heap) ⟨[some (.inst 0 i),some (.ref h.length),some (.ref (h.length+1)),v3,some (.ref f),some (.int (0:Nat)),none,none,none],hp⟩:=by
 refine ⟨65,gQ (fun k m=>∃n hp es ws v3 w6 w7 w8,m=⟨[some (.inst 0 i),some (.ref h.length),some (.ref (h.length+1)),v3,some (.ref f),some (.int (n:Nat)),w6,w7,w8],hp⟩∧n+k=65∧n≤ws.length∧RI h T hp es ws∧hp[f]?=some (.list (fl.map iG))∧RL A B fl ws n)
  (fun m hI=>by obtain ⟨n,hp,es,ws,v3,w6,w7,w8,rfl,h1,h2,r,_⟩:=hI;have:=r.few hT;exact nf (n3 this h2 (Nat.le_of_eq h1.symm) (by simp +arith only))) (fun k m W hI hW=>?_) _ _ ⟨0,hp,es,ws,v3,none,none,none,rfl,rfl,Nat.zero_le _,r,hfl,L⟩⟩
 clear r hfl L
 obtain ⟨n,hp,es,ws,v3,w6,w7,w8,rfl,h1,h2,r,hfl,L⟩:=hI
 refine az r.w ?_
 conv=>whnf
 rcases Nat.lt_or_ge n ws.length with hlt | hge
 ·rw [decide_eq_true (show (n:Int)<((ws.map MV.str).length:Nat) by rw [List.length_map];lia)]
  have e:=ci hlt
  generalize ws[n]=src at e
  refine af r.w ?_
  refine aS (j:=n) (aU (Int.natCast_nonneg _) (by rw [List.length_map];lia)) (by rw [List.getElem?_map,e];rfl) ?_
  refine aM (aH hfl) ?_
  refine kB (fun j v3 w7 w8 hp es ws=>⟨[some (.inst 0 i),some (.ref h.length),some (.ref (h.length+1)),v3,some (.ref f),some (.int ((n:Int)+1)),some (.str src),w7,w8],hp⟩)
   (fun j v3 w7 w8 hp es ws=>A6 (RI h T hp es ws) (hp[f]?=some (.list (fl.map iG))) (RL A B fl ws n) (∀k x,(k,src,x)∈fl.take j→x∉A→x∉B→x∈ws) (ws[n]?=some src) True) _ _ _ _ _ ws rfl ⟨r,hfl,L,fun k x h=>(by rw [List.take_zero] at h;exact aX h),e,trivial⟩ (fun _ _ _ _ _ _ _ hI=>hI.h2) (fun j y v3 w7 w8 hp es ws P hy hI hn _=>?_) (fun v3 w7 w8 hp es ws hI=>?_)
  ·obtain ⟨r,hfl,L,hc,e,_⟩:=hI
   obtain ⟨k',s,x,hj,rfl⟩:=DZ hy
   have hm:=List.mem_of_getElem? hj
   refine uO hK r hT hpg hg (hok x (hfT _ hm)) (hfT _ hm) (List.mem_of_getElem? e) hN hf hfl fun hp' es' ws' r' hfl' h3 h4=>?_
   obtain ⟨L,hc,e⟩:=L.turn hc e hj h3 h4
   exact hn _ _ _ hp' es' ws' ⟨r',hfl',L,hc,e,trivial⟩
  ·obtain ⟨r,hfl,L,hc,e,_⟩:=hI
   have hlt:=(List.getElem?_eq_some_iff.mp e).1
   rw [List.length_map,List.take_length] at hc
   exact hW _ ⟨n+1,hp,es,ws,_,_,_,_,rfl,(Nat.succ_add_eq_add_succ n k).trans h1,hlt,r,hfl,L.next hc e⟩
 ·rw [decide_eq_false (show ¬ (n:Int)<((ws.map MV.str).length:Nat) by rw [List.length_map];lia)]
  have few:=r.few hT
  refine hq hp es r.pre r.d ⟨fun x=>by rw [r.keys];exact L.all hge x,fun e he=>?_⟩
  obtain ⟨i',k',ps,q1,_,q3,q4⟩:=r.rd e he
  exact ⟨i',k',ps,q1,q3,Nat.lt_trans q4 few⟩
theorem sY {i:Nat}{A B:List Txt}{rows:List Rw}{N:Nat}{Q:MV→List MO→Prop}{X:XT}{h:List MO}(hpg:bn h i A B rows) (F:LF A B rows) (hN:10<N)
  (hq:∀h' es,h<+:h'→h'[h.length]?=some (.dict es)→rH h' (Rch A B (cC (nums 1 [] rows))) es→Q (.ref h.length) h'):K N 104 [.inst 0 i] Q X h:=by
 obtain ⟨M,rfl,hM⟩:=room hN
 obtain ⟨a,b,h1,_,_⟩:=id hpg
 have p2:h<+:h++[.dict []]++[.list []]:=aa (aa (ai _))
 have e2:(h++[MO.dict []]).length=h.length+1:=by rw [List.length_append];rfl
 have hp2:=hpg.up p2
 refine hK _ _ _ _ _ _ i9 rfl rfl ?_
 show aD K M (i9.body.drop 2) (fin Q) (fun c m=>X c m.heap) ⟨[some (.inst 0 i),some (.ref h.length),some (.ref (h++[MO.dict []]).length),none,none,none,none,none,none],h++[MO.dict []]++[.list []]⟩
 rw [e2]
 have r0:RI h (aC (av A B rows)) (h++[MO.dict []]++[.list []]) [] []:=⟨p2,ah (ac _ _),by rw [←e2];exact ac _ _,rfl,List.nodup_nil,fun _ h=>aX h,fun _ h=>aX h⟩
 refine aw (de (ag p2 h1) rfl) ?_
 refine xC hK hp2 (Nat.le_trans (nb rfl) hM) ?_
 have r1:=r0.up (aa (o:=.list (B.map .str)) (aa (o:=.list (A.map .str)) (ai _)))
 have e3:(h++[MO.dict []]++[MO.list []]).length+1=(h++[MO.dict []]++[MO.list []]++[MO.list (A.map .str)]).length:=by rw [List.length_append (bs:=[MO.list (A.map .str)])];rfl
 have e4:(h++[MO.dict []]++[MO.list []]++[MO.list (A.map .str)]++[MO.list (B.map .str)])[(h++[MO.dict []]++[MO.list []]).length+1]?=some (.list (B.map .str)):=by rw [e3];exact ac _ _
 have l4:h.length+1<(h++[MO.dict []]++[MO.list []]).length+1:=by rw [List.length_append,e2];exact Nat.lt_succ_of_lt (Nat.lt_succ_self _)
 have gB:∀x∈B,x∈aC (av A B rows):=fun x hx=>aA.mpr (List.mem_append_left _ (List.mem_append_right _ hx))
 have nB:B.Nodup:=(List.nodup_append.mp F.nd).2.1
 have few:=F.few
 refine aM (aH e4) ?_
 refine fz (fun j v3 hp es=>⟨[some (.inst 0 i),some (.ref h.length),some (.ref (h.length+1)),v3,none,none,none,none,none],hp⟩) (fun j v3 hp es=>A3 (RI h (aC (av A B rows)) hp es (B.take j)) (hp[(h++[MO.dict []]++[MO.list []]).length+1]?=some (.list (B.map .str))) True) _ _ [] rfl ⟨r1,e4,trivial⟩ (fun _ _ _ _ hI=>hI.h2) (fun j y v3 hp es P hy hI hn _=>?_) (fun v3 hp es hI=>?_)
 ·obtain ⟨r,e5,_⟩:=hI
  obtain ⟨x,hx,rfl⟩:=Option.map_eq_some_iff.mp (List.getElem?_map ..▸hy)
  have hm:=List.mem_of_getElem? hx
  have hnew:x∉B.take j:=fun q=>by
   have hd:=(List.nodup_append.mp ((List.take_append_drop (j+1) B).symm▸nB)).1
   rw [aq hx] at hd
   exact (List.nodup_append.mp hd).2.2 x q x (List.mem_singleton.mpr rfl) rfl
  have rf:=r.few few
  have rl:=r.len
  have p3:hp<+:hp++[MO.list [.tup [.int 0,.str x]]]:=aa (ai _)
  have r2:=r.up p3
  refine bw r2.d ?_
  refine ⟨by unfold line;lia,?_⟩
  have r3:RI h _ _ _ _:=r2.add hnew (gB x hm) (i:=hp.length) (k:=0) (ps:=[]) (List.getElem?_eq_some_iff.mp r.w).1 (ac _ _) (Nat.zero_le _)
  have hw:((hp++[MO.list [.tup [.int 0,.str x]]]).set h.length (.dict (bA es x (.ref hp.length))))[h.length+1]?=some (.list ((B.take j).map .str)):=ak (Ne.symm (Nat.succ_ne_self _)) r2.w
  refine aw (aK hw) (bf (bc hw) ?_)
  refine ⟨by rw [List.length_map];unfold line;exact Nat.le_trans rf (nb rfl),?_⟩
  rw [List.map_append] at r3
  refine hn _ _ (bA es x (.ref hp.length)) ⟨?_,ak (Nat.ne_of_lt l4) (ak (Nat.ne_of_lt (Nat.lt_trans (Nat.lt_succ_self _) l4)) (ag p3 e5)),trivial⟩
  rw [aq hx];exact r3
 ·obtain ⟨r,e5,_⟩:=hI
  rw [List.length_map,List.take_length] at r
  refine AB hK (hpg.up r.pre) F (hM) fun h5 f p5 l5 e5=>?_
  have p5:_<+:h5:=p5
  have r5:=r.up p5
  exact rI hK r5 few hpg F.gn F.ok (Nat.le_trans (nb rfl) hM) (Nat.lt_of_lt_of_le (List.getElem?_eq_some_iff.mp r.w).1 l5) e5 DY ⟨fun x hx=>hx,fun x hx=>.base hx,fun s hs=>by rw [List.take_zero] at hs;exact aX hs⟩ hq
end Internal
end
section
namespace Internal
theorem mI:∀t:Tm,(rn t).length≤t.deep * t.lv
 | .num _=>Nat.zero_le _
 | .nm _=>Nat.zero_le _
 | .op c a b=>by
  have h1:=mI a
  have h2:=mI b
  have h3:=cw b
  have g1:a.deep * a.lv≤max a.deep b.deep * a.lv:=Nat.mul_le_mul_right _ (Nat.le_max_left ..)
  have g2:b.deep * b.lv≤max a.deep b.deep * b.lv:=Nat.mul_le_mul_right _ (Nat.le_max_right ..)
  show (rn a++rn b++(match c==47 with | true=>an b | false=>[])).length≤(max a.deep b.deep+1) * (a.lv+b.lv)
  rw [List.length_append,List.length_append,Nat.succ_mul,Nat.mul_add]
  cases c==47 with
  | true=>show _+_+(an b).length≤_;lia
  | false=>show _+_+0≤_;lia
theorem x7 {t:Tm}(h:t.good):(rn t).length≤24:=Nat.le_trans (mI t) (Nat.le_trans (Nat.mul_le_mul h.2 h.lv) (nb rfl))
theorem x8 {c:Nat}{w:Txt}(h:w.length≠1):([c]==w)=false:=beq_eq_false_iff_ne.mpr fun e=>h (by rw [←e];rfl)
inductive LkA (hp:List MO) (n:Nat):List Lk→List MV→Prop
 | nil:LkA hp n [] []
 | cons {w ns i ls vs}:n<i→hp[i]?=some (.list (ns.map .str))→LkA hp n ls vs→LkA hp n ((w,ns)::ls) (.tup [.str w,.ref i]::vs)
section
variable {hp hp':List MO}{n:Nat}
theorem LkA.up (u:∀i o,n<i→hp[i]?=some o→hp'[i]?=some o) {ls:List Lk}{vs:List MV}(h:LkA hp n ls vs):LkA hp' n ls vs:=by
 induction h with
 | nil=>exact .nil
 | cons h1 h2 _ ih=>exact .cons h1 (u _ _ h1 h2) ih
theorem LkA.snoc {w:Txt}{ns:List Txt}{i:Nat}(h1:n<i) (h2:hp[i]?=some (.list (ns.map .str))) {ls:List Lk}{vs:List MV}(h:LkA hp n ls vs):LkA hp n (ls++[(w,ns)]) (vs++[.tup [.str w,.ref i]]):=by
 induction h with
 | nil=>exact .cons h1 h2 .nil
 | cons k1 k2 _ ih=>exact .cons k1 k2 ih
theorem LkA.get {ls:List Lk}{vs:List MV}(h:LkA hp n ls vs):∀{j:Nat}{v:MV},vs[j]?=some v→∃w ns i,ls[j]?=some (w,ns)∧v=.tup [.str w,.ref i]∧hp[i]?=some (.list (ns.map .str)):=by
 induction h with
 | nil=>intro j v e;exact aB e
 | @cons w ns i ls vs h1 h2 h3 ih=>
  intro j v e
  cases j with
  | zero=>exact ⟨w,ns,i,rfl,(Option.some.inj e).symm,h2⟩
  | succ j=>exact ih e
theorem LkA.len {ls:List Lk}{vs:List MV}(h:LkA hp n ls vs):vs.length=ls.length:=by
 induction h with
 | nil=>rfl
 | cons _ _ _ ih=>exact congrArg (·+1) ih
end
structure LS (h hp:List MO) (ls:List Lk) (vs:List MV):Prop where
 pre:h<+:hp
 at_:hp[h.length]?=some (.list vs)
 lk:LkA hp h.length ls vs
theorem LS.up {h hp hp':List MO}{ls:List Lk}{vs:List MV}(s:LS h hp ls vs) (p:hp<+:hp'):LS h hp' ls vs:=⟨s.pre.trans p,ag p s.at_,s.lk.up fun _ _ _ e=>ag p e⟩
theorem LS.add {h hp:List MO}{ls:List Lk}{vs:List MV}(s:LS h hp ls vs) {w:Txt}{ns:List Txt}{i:Nat}(h1:h.length<i) (h2:hp[i]?=some (.list (ns.map .str))):LS h (hp.set h.length (.list (vs++[.tup [.str w,.ref i]]))) (ls++[(w,ns)]) (vs++[.tup [.str w,.ref i]]):=
 ⟨aJ s.pre (Nat.le_refl _),get_set s.at_,(s.lk.snoc h1 h2).up fun _ _ hi e=>ak (Nat.ne_of_lt hi) e⟩
variable {K:KT}(hK:aF PP K)
include hK
theorem D0 {p:Txt→Prop}:∀(t:Tm) {N:Nat}{Q:MV→List MO→Prop}{X:XT}{h:List MO},t.deep+1<N→t.ok p→t.deep≤3→t.lv≤8→(∀r h',h<+:h'→h'[r]?=some (.list ((rn t).map .str))→Q (.ref r) h')→K N 2 [t.mv] Q X h
 | .num k,N,Q,X,h,hN,ht,hd,hl,hq=>by
  obtain ⟨M,rfl,hM⟩:=room hN
  refine hK _ _ _ _ _ _ bK rfl rfl ?_
  exact hq _ _ (aa (ai _)) (ac _ _)
 | .nm s,N,Q,X,h,hN,ht,hd,hl,hq=>by
  obtain ⟨M,rfl,hM⟩:=room hN
  refine hK _ _ _ _ _ _ bK rfl rfl ?_
  exact hq _ _ (aa (ai _)) (ac _ _)
 | .op c a b,N,Q,X,h,hN,ht,hd,hl,hq=>by
  have hN:max a.deep b.deep+1+1<N:=hN
  have hl:a.lv+b.lv≤8:=hl
  have hd:max a.deep b.deep+1≤3:=hd
  obtain ⟨M,rfl,hM⟩:=room hN
  have g1:a.deep * a.lv≤3 * 8:=Nat.mul_le_mul (n2 hd (Nat.le_max_left a.deep b.deep) (by simp +arith only)) (n1 hl (by simp +arith only))
  have g2:b.deep * b.lv≤3 * 8:=Nat.mul_le_mul (n2 hd (Nat.le_max_right a.deep b.deep) (by simp +arith only)) (n1 hl (by simp +arith only))
  have l1:=mI a
  have l2:=mI b
  have l3:=cw b
  refine hK _ _ _ _ _ _ bK rfl rfl ?_
  refine D0 a (n2 hN (Nat.le_max_left a.deep b.deep) (by simp +arith only)) ht.2.1 (n2 hd (Nat.le_max_left a.deep b.deep) (by simp +arith only)) (n1 hl (by simp +arith only)) fun r1 h1 p1 e1=>?_
  refine D0 b (n2 hN (Nat.le_max_right a.deep b.deep) (by simp +arith only)) ht.2.2 (n2 hd (Nat.le_max_right a.deep b.deep) (by simp +arith only)) (n1 hl (by simp +arith only)) fun r2 h2 p2 e2=>?_
  have p1:h<+:h1:=p1
  have p2:h1<+:h2:=p2
  refine af (ag p2 e1) (af e2 ?_)
  refine ⟨bQ (by lia),?_⟩
  have p3:h<+:h2++[.list ((rn a).map .str++(rn b).map .str)]:=aa (p1.trans p2)
  have e3:(h2++[MO.list ((rn a).map .str++(rn b).map .str)])[h2.length]?=some (.list ((rn a++rn b).map .str)):=b9 _ _ _
  conv=>whnf
  have hq:∀r h',h<+:h'→h'[r]?=some (.list ((rn a++rn b++(match c==47 with | true=>an b | false=>[])).map .str))→Q (.ref r) h':=hq
  cases q:([c]==[47]) with
  | true=>
   obtain rfl:c=47:=(List.cons.inj (eq_of_beq q)).1
   refine z9 hK b (n2 hM (Nat.le_max_right a.deep b.deep) (by simp +arith only)) ht.2.2 (by lia) fun r4 h4 p4 e4=>?_
   have p4:h2++[.list ((rn a).map .str++(rn b).map .str)]<+:h4:=p4
   refine af (ag p4 e3) (af e4 ?_)
   refine ⟨bQ (by rw [List.length_append];lia),?_⟩
   exact hq _ _ (aa (p3.trans p4)) (b9 _ _ _)
  | false=>
   rw [show (c==47)=false from beq_eq_false_iff_ne.mpr fun e=>by rw [e] at q;exact tf q] at hq
   exact hq _ _ p3 (by rw [List.append_nil];exact e3)
theorem x9 {t:Tm}{N:Nat}{Q:MV→List MO→Prop}{X:XT}{h:List MO}(ht:t.good) (hN:5<N) (hq:∀r h',h<+:h'→h.length≤r→h'[r]?=some (.list ((aC (rn t)).map .str))→Q (.ref r) h'):K N 3 [t.mv] Q X h:=by
 obtain ⟨M,rfl,hM⟩:=room hN
 have l1:=x7 ht
 refine hK _ _ _ _ _ _ fS rfl rfl ?_
 refine D0 hK t (by have:=ht.2;exact n2 this hN (by simp +arith only)) ht.1 ht.2 ht.lv fun r1 h1 p1 e1=>?_
 have p1:h<+:h1:=p1
 refine af e1 ?_
 exact .mk (rn t) rfl (Nat.lt_of_le_of_lt (f7 _) (n1 l1 (by simp +arith only))) (n1 l1 (by simp +arith only)) (hq _ _ (aa p1) p1.length_le (ac _ _))
theorem yb:∀(t:Tm) {N:Nat}{Q:MV→List MO→Prop}{X:XT}{h:List MO},t.deep<N→Q (.bool (dvs t)) h→K N 4 [t.mv] Q X h
 | .num k,N,Q,X,h,hN,hq=>by
  obtain ⟨M,rfl,hM⟩:=room hN
  refine hK _ _ _ _ _ _ fv rfl rfl ?_
  exact hq
 | .nm s,N,Q,X,h,hN,hq=>by
  obtain ⟨M,rfl,hM⟩:=room hN
  refine hK _ _ _ _ _ _ fv rfl rfl ?_
  exact hq
 | .op c a b,N,Q,X,h,hN,hq=>by
  have hN:max a.deep b.deep+1<N:=hN
  have hq:Q (.bool (c==47||(dvs a||dvs b))) h:=hq
  obtain ⟨M,rfl,hM⟩:=room hN
  refine hK _ _ _ _ _ _ fv rfl rfl ?_
  conv=>whnf
  cases q:([c]==[47]) with
  | true=>
   obtain rfl:c=47:=(List.cons.inj (eq_of_beq q)).1
   exact hq
  | false=>
   rw [show (c==47)=false from beq_eq_false_iff_ne.mpr fun e=>by rw [e] at q;exact tf q] at hq
   refine yb a (n2 hN (Nat.le_max_left a.deep b.deep) (by simp +arith only)) ?_
   cases q1:dvs a with
   | true=>rw [q1] at hq;exact hq
   | false=>
    rw [q1] at hq
    exact yb b (n2 hN (Nat.le_max_right a.deep b.deep) (by simp +arith only)) hq
end Internal
end
section
namespace Internal
theorem uP {A B:List Txt}{x:Txt}:(nK A B x==mH)=A.contains x:=by
 unfold nK
 cases A.contains x with
 | true=>rfl
 | false=>cases B.contains x<;>rfl
variable {K:KT}(hK:aF PP K)
include hK
section
variable {T:List Txt}{k:Int}{r:Rw}{ab:List Tm}{i N:Nat}{A B:List Txt}{rows:List Rw}{Q:MV→List MO→Prop}{X:XT}{h:List MO}(o:nJ T (k,r,ab)) (hT:T.length<64) (hN:8≤N) (hq:∀h' vs,LS h h' (lks A r ab) vs→Q (.ref h.length) h')
theorem rJ {ls:List Lk}{vs:List MV}{hp:List MO}{w:Txt}{P:Fl→MS→Prop}(o:nJ T (k,r,ab)) (hT:T.length<64) (hN:8≤N) (s:LS h hp ls vs) (hl:ls.length≤4) (hw:∀hp' vs',LS h hp' (ls++[(w,e9 r ab)]) vs'→P .next ⟨[some (.inst 0 i),some r.mv,some (.tup (ab.map Tm.mv)),some (.ref h.length)],hp'⟩) :
  aD K N [.expr (.mth .append (.var 3) [.tup [.cst (.str w),.call 102 [.var 1,.var 2]]])] P (fun c m=>X c m.heap) ⟨[some (.inst 0 i),some r.mv,some (.tup (ab.map Tm.mv)),some (.ref h.length)],hp⟩:=by
 refine aw (aK s.at_) ?_
 refine x5 hK o hT hN fun h1 j p1 l1 e1=>?_
 have p1:hp<+:h1:=p1
 have s1:=s.up p1
 refine bf (bc s1.at_) ?_
 refine ⟨Nat.lt_of_le_of_lt (by rw [s1.lk.len];exact hl) (Nat.lt_of_lt_of_le (show 4<5 by decide) (aZ (by decide))),?_⟩
 exact hw _ _ (s1.add (Nat.lt_of_lt_of_le (List.getElem?_eq_some_iff.mp s.at_).1 l1) e1)
include o hT hN hq in
theorem FL {ls:List Lk}{vs:List MV}{hp:List MO}(e:lks A r ab=ls++lk4 r ab) (s:LS h hp ls vs) (hl:ls.length≤4):aD K N (d6.body.drop 4) (fin Q) (fun c m=>X c m.heap) ⟨[some (.inst 0 i),some r.mv,some (.tup (ab.map Tm.mv)),some (.ref h.length)],hp⟩:=by
 have no:dvs r.ft=false→Q (.ref h.length) hp:=fun hd=>by
  unfold lk4 at e
  rw [hd,List.append_nil] at e
  exact hq hp vs (e▸s)
 have any:r≠.skip→r.fm=r.ft.mv→wpE K N (.call 4 [.call 26 [.var 1]]) (bF fun b m=>match b with
   | true=>aD K N [.expr (.mth .append (.var 3) [.tup [.cst (.str [110,111,117,103,104,116]),.bin .add (.call 3 [.call 26 [.var 1]]) (.call 101 [.var 2])]]),.ret (.var 3)] (fin Q) (fun c m=>X c m.heap) m
   | false=>aD K N [.ret (.var 3)] (fin Q) (fun c m=>X c m.heap) m) (fun c m=>X c m.heap) ⟨[some (.inst 0 i),some r.mv,some (.tup (ab.map Tm.mv)),some (.ref h.length)],hp⟩:=fun hr hf=>by
  have gf:r.ft.good:=kH o.good
  refine ke hK (eX (ik (n:=0) r)) (Nat.le_trans (nb rfl) hN) ?_
  rw [hf]
  refine yb hK r.ft (by have:=gf.2;exact n2 this hN (by simp +arith only)) ?_
  cases hd:dvs r.ft with
  | false=>exact no hd
  | true=>
   unfold lk4 at e
   rw [hd] at e
   refine aw (aK s.at_) ?_
   refine ke hK (eX (ik (n:=0) r)) (Nat.le_trans (nb rfl) hN) ?_
   rw [hf]
   refine x9 hK gf (Nat.le_trans (nb rfl) hN) fun j1 h1 p1 l1 e1=>?_
   have p1:hp<+:h1:=p1
   refine sW hK o.tg o.len (Nat.le_trans (nb rfl) hN) fun h2 p2 e2=>?_
   have p2:h1<+:h2:=p2
   refine af (ag p2 e1) (af e2 ?_)
   have la:(ats ab).length≤8 * ab.length:=kI o.tg
   have ll:ab.length≤7:=o.len
   have lr:=x7 gf
   have lr2:=f7 (rn r.ft)
   refine ⟨bQ (by lia),?_⟩
   have s1:=s.up (aa (o:=.list ((aC (rn r.ft)).map .str++(ats ab).map .str)) (p1.trans p2))
   refine bf (bc s1.at_) ?_
   refine ⟨Nat.lt_of_le_of_lt (by rw [s1.lk.len];exact hl) (Nat.lt_of_lt_of_le (show 4<5 by decide) (aZ (by decide))),?_⟩
   refine hq _ _ (e▸s1.add ?_ (b9 _ _ _))
   exact Nat.lt_of_lt_of_le (List.getElem?_eq_some_iff.mp s.at_).1 (Nat.le_trans p1.length_le p2.length_le)
 cases r with
 | skip=>exact no rfl
 | set x t=>exact any (fun e=>by cases e) rfl
 | tell t=>exact any (fun e=>by cases e) rfl
 | ite t a b=>exact any (fun e=>by cases e) rfl
 | wh t a=>exact any (fun e=>by cases e) rfl
include o hT hN hq in
theorem AC (hp:bn h i A B rows) (hg:∀s∈A++B,Gn s) (hx:∀x t,r=.set x t→okS x):K (N+1) 111 [.inst 0 i,r.mv,.tup (ab.map Tm.mv)] Q X h:=by
 obtain ⟨a,b,h1,_,_⟩:=id hp
 have p0:h<+:h++[.list []]:=aa (ai _)
 have s0:LS h (h++[.list []]) [] []:=⟨p0,ac _ _,.nil⟩
 refine hK _ _ _ _ _ _ d6 rfl rfl ?_
 have four:∀{ls:List Lk} {vs:List MV} {hp:List MO},lks A r ab=ls++lk4 r ab→LS h hp ls vs→ls.length≤4→aD K N (d6.body.drop 4) (fin Q) (fun c m=>X c m.heap) ⟨[some (.inst 0 i),some r.mv,some (.tup (ab.map Tm.mv)),some (.ref h.length)],hp⟩:=fun e s hl=>FL hK o hT hN hq e s hl
 cases r with
 | skip=>exact four rfl s0 (Nat.zero_le _)
 | ite t x y=>exact four rfl s0 (Nat.zero_le _)
 | tell t=>
  refine rJ hK (w:=dH) o hT hN s0 (Nat.zero_le _) fun hp' vs' s'=>?_
  exact four rfl s' (Nat.le_of_ble_eq_true rfl)
 | wh t x=>
  refine rJ hK (w:=js) o hT hN s0 (Nat.zero_le _) fun hp' vs' s'=>?_
  exact four rfl s' (Nat.le_of_ble_eq_true rfl)
 | set x t=>
  refine aw (de (ag p0 h1) rfl) ?_
  refine x6 hK (hp.up p0) hg (hx x t rfl) (Nat.le_trans (nb rfl) hN) ?_
  conv=>whnf
  rw [show (nK A B x==[111,112,101,110])=A.contains x from uP]
  cases q:A.contains x with
  | false=>exact four (by show (match A.contains x with | true=>_ | false=>_)++_++_++_=_;rw [q];rfl) s0 (Nat.zero_le _)
  | true=>
   refine rJ hK (w:=dj) o hT hN s0 (Nat.zero_le _) fun hp' vs' s'=>?_
   exact four (by show (match A.contains x with | true=>_ | false=>_)++_++_++_=_;rw [q];rfl) s' (Nat.le_of_ble_eq_true rfl)
end
end Internal
end
section
namespace Internal
theorem AD {A:List Txt}{r:Rw}{ab:List Tm}{ns:List Txt}(h:(dj,ns)∈lks A r ab):∃x t,r=.set x t:=by
 have h4:(dj,ns)∉lk4 r ab:=fun q=>by
  unfold lk4 at q
  cases hd:dvs r.ft with
  | true=>rw [hd] at q;exact absurd (congrArg Prod.fst (List.mem_singleton.mp q)) (by show dj≠jm;decide)
  | false=>rw [hd] at q;exact aX q
 cases r with
 | set x t=>exact ⟨x,t,rfl⟩
 | tell t=>
  rcases List.mem_append.mp h with h | h
  ·exact absurd (congrArg Prod.fst (List.mem_singleton.mp (show (dj,ns)∈[(dH,e9 (.tell t) ab)] from h))) (by show dj≠dH;decide)
  ·exact absurd h h4
 | skip=>exact absurd h h4
 | ite t a b=>exact absurd h h4
 | wh t a=>
  rcases List.mem_append.mp h with h | h
  ·exact absurd (congrArg Prod.fst (List.mem_singleton.mp (show (dj,ns)∈[(js,e9 (.wh t a) ab)] from h))) (by show dj≠js;decide)
  ·exact absurd h h4
variable {K:KT}(hK:aF PP K)
include hK
theorem AE {d i:Nat}{es:ES}{ns:List Txt}{S:Txt→Prop}{N:Nat}{Q:MV→List MO→Prop}{X:XT}{h:List MO}(hd:h[d]?=some (.dict es)) (hi:h[i]?=some (.list (ns.map .str))) (R:rH h S es)
  (q0:(∀n∈ns,¬ S n)→Q .none h) (q1:∀n j k ps,n∈ns→S n→h[j]?=some (.list (ps++[.tup [.int k,.str n]]))→ps.length<64→Q (.ref j) h):K (N+1) 112 [.ref d,.ref i] Q X h:=by
 have road:∀{n:Txt} {v:MV},aE es n=some v→S n∧∃j k ps,v=.ref j∧h[j]?=some (.list (ps++[.tup [.int k,.str n]]))∧ps.length<64:=fun {n v} e=>by
  have hm:=p8 e
  obtain ⟨j,k,ps,h1,h2,h3⟩:=R.rd _ hm
  exact ⟨(R.keys n).mp (List.mem_map.mpr ⟨_,hm,rfl⟩),j,k,ps,h1,h2,h3⟩
 refine hK _ _ _ _ _ _ j8 rfl rfl ?_
 refine aM (aH hi) ?_
 refine gP (fun j (b:MV) w=>⟨[some (.ref d),some (.ref i),some b,w],h⟩) (fun j b w=>(b=.none∧∀n∈ns.take j,¬ S n)∨∃n,n∈ns∧aE es n=some b) .none none rfl (.inl ⟨rfl,fun n h=>by rw [List.take_zero] at h;exact aX h⟩) (fun _ _ _ _=>hi) (fun j x b w P hx hI hn _=>?_) (fun b w hI=>?_)
 ·obtain ⟨n,hn1,rfl⟩:=Option.map_eq_some_iff.mp (List.getElem?_map ..▸hx)
  have mem:=List.mem_of_getElem? hn1
  refine eD hd ?_
  conv=>whnf
  cases e:aE es n with
  | none=>
   refine hn _ _ ?_
   rcases hI with ⟨rfl,hI⟩ | hI
   ·refine .inl ⟨rfl,fun m hm=>?_⟩
    rw [aq hn1] at hm
    rcases List.mem_append.mp hm with hm | hm
    ·exact hI m hm
    ·rw [List.mem_singleton.mp hm]
     exact fun hs=>by have:=qd.mpr ((R.keys n).mpr hs);rw [e] at this;exact ff this
   ·exact .inr hI
  | some v=>
   obtain ⟨_,j',k',ps',rfl,e2,l2⟩:=road e
   have take:P .next ⟨[some (.ref d),some (.ref i),some (.ref j'),some (.str n)],h⟩:=hn _ _ (.inr ⟨n,mem,e⟩)
   rcases hI with ⟨rfl,hI⟩ | ⟨n',hn',hI⟩
   ·refine bw hd ?_
    exact bN e take
   ·obtain ⟨_,j'',k'',ps'',rfl,e3,l3⟩:=road hI
    refine bw hd ?_
    refine bN e ?_
    refine az e2 ?_
    refine az e3 ?_
    conv=>whnf
    cases decide (((ps'++[MV.tup [.int k',.str n]]).length:Int)<((ps''++[MV.tup [.int k'',.str n']]).length:Nat)) with
    | true=>
     refine bw hd ?_
     exact bN e take
    | false=>exact hn _ _ (.inr ⟨n',hn',hI⟩)
 ·rcases hI with ⟨rfl,hI⟩ | ⟨n,hn,e⟩
  ·rw [List.length_map,List.take_length] at hI
   exact q0 hI
  ·obtain ⟨hs,j,k,ps,rfl,e2,l2⟩:=road e
   exact q1 n j k ps hn hs e2 l2
end Internal
end
section
namespace Internal
theorem rH.up {hp hp':List MO}{S:Txt→Prop}{es:ES}(r:rH hp S es) (p:hp<+:hp'):rH hp' S es:=⟨r.keys,fun e he=>by
 obtain ⟨i,k,ps,h1,h2,h3⟩:=r.rd e he
 exact ⟨i,k,ps,h1,ag p h2,h3⟩⟩
theorem D1 {A B:List Txt}{rows:List Rw}{k:Int}{r:Rw}{ab:List Tm}(hq:(k,r,ab)∈nums 1 [] rows) (x:Txt) (t:Tm) (e:r=.set x t):x∈aC (av A B rows):=by
 subst e
 exact aA.mpr (List.mem_append_right _ (List.mem_flatMap.mpr ⟨_,hq,.head _⟩))
noncomputable def D2 (A B:List Txt) (rows:List Rw):Prop:=∀q∈nums 1 [] rows,∀l∈lks A q.2.1 q.2.2,∀n∈l.2,¬ Rch A B (cC (nums 1 [] rows)) n
structure D3 (hp:List MO) (A:List Txt) (rows:List Rw) (w:Txt) (j:Nat):Prop where
 ex:∃q ns n k ps x,q∈nums 1 [] rows∧(w,ns)∈lks A q.2.1 q.2.2∧n∈ns∧hp[j]?=some (.list (ps++[.tup [.int k,.str n]]++[.tup [.int q.1,.str x]]))
theorem sZ {σ:Type}(st:σ→MS) (I:Nat→σ→Prop) (Rt:MV→MS→Prop) {g:Option (Nat × List MV)}{step:MV→(Fl→MS→Prop)→MS→Prop}{Q:Fl→MS→Prop}{items:List MV}{m:MS}(w:σ) (e0:m=st w) (h0:I 0 w) (hg:∀i w,I i w→aW g (st w).heap)
  (hstep:∀i x w (P:Fl→MS→Prop),items[i]?=some x→I i w→(∀w,I (i+1) w→P .next (st w))→(∀r m',Rt r m'→P (.ret r) m')→step x P (st w)) (hend:∀w,I items.length w→Q .next (st w)) (hret:∀r m,Rt r m→Q (.ret r) m):dA g step Q items m:=by
 refine ma (fun i m=>∃w,m=st w∧I i w) Rt ⟨w,e0,h0⟩ (fun i m hI=>?_) (fun i x m P hx hI h1 _ h3=>?_) (fun m hI=>?_) hret
 ·obtain ⟨w,rfl,h⟩:=hI;exact hg i w h
 ·obtain ⟨w,rfl,h⟩:=hI;exact hstep i x w P hx h (fun w h=>h1 _ ⟨w,rfl,h⟩) h3
 ·obtain ⟨w,rfl,h⟩:=hI;exact hend w h
variable {K:KT}(hK:aF PP K)
include hK
theorem yc {i d N:Nat}{A B:List Txt}{rows:List Rw}{k:Int}{r:Rw}{ab:List Tm}{es:ES}{w2 w3 w4 w5 w6 w7 w8:Option MV}{P:Fl→MS→Prop}{X:XT}{h hp:List MO}(hpg:bn hp i A B rows) (F:LF A B rows) (hN:11<N) (hqm:(k,r,ab)∈nums 1 [] rows) (hd:hp[d]?=some (.dict es)) (R:rH hp (Rch A B (cC (nums 1 [] rows))) es)
  (hn:∀hp' w5 w6 w7 w8,hp<+:hp'→(∀l∈lks A r ab,∀n∈l.2,¬ Rch A B (cC (nums 1 [] rows)) n)→P .next ⟨[some (.inst 0 i),some (.ref d),some (.int k),some r.mv,some (.tup (ab.map Tm.mv)),w5,w6,w7,w8],hp'⟩)
  (hr:∀hp' w j vars,hp<+:hp'→D3 hp' A rows w j→P (.ret (.tup [.str w,.ref j])) ⟨vars,hp'⟩) :
  asg [2,3,4] true (eZ (k,r,ab)) (fun m=>aD K N [.for_ [5,6] true .val [.call 111 [.var 0,.var 3,.var 4]] [.asg [7] false (.call 112 [.var 1,.var 6]),.ite (.isN false (.var 7)) [.asg [8] false (.cst (.str [])),.ite (.cmp .eq (.var 5) (.cst (.str [115,101,116]))) [.asg [8] false (.idx (.var 3) (.cst (.int 1)))] [],.ret (.tup [.var 5,.bin .add (.var 7) (.list [.tup [.var 2,.var 8]])])] []]] P (fun c m=>X c m.heap) m) ⟨[some (.inst 0 i),some (.ref d),w2,w3,w4,w5,w6,w7,w8],hp⟩:=by
 obtain ⟨M,rfl,hM⟩:=room hN
 refine ⟨rfl,?_⟩
 refine AC hK (h:=hp) (F.nums _ hqm) F.few (Nat.le_trans (nb rfl) hM) (fun h1 vs s=>?_) hpg F.gn fun x t e=>F.ok x (D1 hqm x t e)
 have hd1:=ag s.pre hd
 have R1:=R.up s.pre
 refine aM (aH s.at_) ?_
 refine sZ (fun w:Option MV × Option MV × Option MV × Option MV=>⟨[some (.inst 0 i),some (.ref d),some (.int k),some r.mv,some (.tup (ab.map Tm.mv)),w.1,w.2.1,w.2.2.1,w.2.2.2],h1⟩) (fun j _=>∀l∈(lks A r ab).take j,∀n∈l.2,¬ Rch A B (cC (nums 1 [] rows)) n)
  (fun v m=>P (.ret v) m) (w5,w6,w7,w8) rfl (fun l hl=>by rw [List.take_zero] at hl;exact aX hl) (fun _ _ _=>s.at_) (fun j x w0 P' hx hI hn' hr'=>?_) (fun w0 hI=>?_) (fun v m h=>h)
 ·obtain ⟨w5,w6,w7,w8⟩:=w0
  obtain ⟨w,ns,i',hl,rfl,e1⟩:=s.lk.get hx
  refine ⟨rfl,?_⟩
  refine AE hK hd1 e1 R1 (fun h0=>?_) fun n j' k' ps hn1 hS e2 l2=>?_
  ·refine hn' (_,_,_,_) fun l hl'=>?_
   rw [aq hl] at hl'
   rcases List.mem_append.mp hl' with hl' | hl'
   ·exact hI l hl'
   ·rw [List.mem_singleton.mp hl'];exact h0
  ·have last:∀x:Txt,aD K (M+1) [.ret (.tup [.var 5,.bin .add (.var 7) (.list [.tup [.var 2,.var 8]])])] P' (fun c m=>X c m.heap) ⟨[some (.inst 0 i),some (.ref d),some (.int k),some r.mv,some (.tup (ab.map Tm.mv)),some (.str w),some (.ref i'),some (.ref j'),some (.str x)],h1⟩:=fun x=>by
    refine af (ah e2) (af (ac _ _) ?_)
    refine ⟨aZ (by rw [List.length_append,List.length_singleton,List.length_singleton];exact n1 l2 (by simp +arith only)),?_⟩
    exact hr' _ _ (hr _ _ _ _ (aa (aa s.pre)) ⟨(k,r,ab),ns,n,k',ps,x,hqm,List.mem_of_getElem? hl,hn1,ac _ _⟩)
   conv=>whnf
   cases q:(w==[115,101,116]) with
   | false=>exact last []
   | true=>
    obtain ⟨x,t,rfl⟩:=AD (A:=A) (r:=r) (ab:=ab) (ns:=ns) (by rw [←show w=dj from eq_of_beq q];exact List.mem_of_getElem? hl)
    exact last x
 ·rw [s.lk.len,List.take_length] at hI
  exact hn _ _ _ _ _ s.pre hI
theorem yd {i:Nat}{A B:List Txt}{rows:List Rw}{N:Nat}{Q:MV→List MO→Prop}{X:XT}{h:List MO}(hpg:bn h i A B rows) (F:LF A B rows) (hN:12<N)
  (q0:∀h',h<+:h'→D2 A B rows→Q .none h') (q1:∀h' w j,h<+:h'→D3 h' A rows w j→Q (.tup [.str w,.ref j]) h'):K N 113 [.inst 0 i] Q X h:=by
 obtain ⟨M,rfl,hM⟩:=room hN
 refine hK _ _ _ _ _ _ nu rfl rfl ?_
 refine sY hK hpg F (Nat.le_trans (nb rfl) hM) fun h1 es p1 d1 R1=>?_
 have p1:h<+:h1:=p1
 obtain ⟨a,b,b1,_,_⟩:=hpg.up p1
 refine aw (de b1 rfl) ?_
 refine iC hK (hpg.up p1) (Nat.le_trans (nb rfl) hM) ?_
 refine dM hK rows (k:=1) (ab:=[]) (Nat.le_trans F.sz (nb rfl)) (by show 0+_≤_;exact n1 F.ne (by simp +arith only)) (by have:=F.ne;exact n2 this hN (by simp +arith only)) fun h2 p2 e2=>?_
 have p2:h1<+:h2:=p2
 refine aM (aH e2) ?_
 refine sZ (fun w:Option MV × Option MV × Option MV × Option MV × Option MV × Option MV × Option MV × List MO=>⟨[some (.inst 0 i),some (.ref h.length),w.1,w.2.1,w.2.2.1,w.2.2.2.1,w.2.2.2.2.1,w.2.2.2.2.2.1,w.2.2.2.2.2.2.1],w.2.2.2.2.2.2.2⟩) (fun j w=>h2<+:w.2.2.2.2.2.2.2∧∀q∈(nums 1 [] rows).take j,∀l∈lks A q.2.1 q.2.2,∀n∈l.2,¬ Rch A B (cC (nums 1 [] rows)) n)
  (fun v m=>Q v m.heap) (none,none,none,none,none,none,none,h2) rfl ⟨ai _,fun q hq=>by rw [List.take_zero] at hq;exact aX hq⟩ (fun _ _ hI=>ag hI.1 e2) (fun j x w0 P hx hI hn hr=>?_) (fun w0 hI=>?_) (fun v m h=>h)
 ·obtain ⟨w2,w3,w4,w5,w6,w7,w8,hp⟩:=w0
  obtain ⟨p3,hI⟩:=hI
  have p3:h2<+:hp:=p3
  obtain ⟨⟨k,r,ab⟩,hq1,rfl⟩:=Option.map_eq_some_iff.mp (List.getElem?_map ..▸hx)
  have p4:h1<+:hp:=p2.trans p3
  refine yc hK (h:=h) (hpg.up (p1.trans p4)) F (hM) (List.mem_of_getElem? hq1) (ag p4 d1) (R1.up p4) (fun hp' w5 w6 w7 w8 p5 h0=>?_) fun hp' w j' vars p5 L=>hr _ _ (q1 hp' w j' ((p1.trans p4).trans p5) L)
  refine hn (_,_,_,_,_,_,_,_) ⟨p3.trans p5,fun q hq=>?_⟩
  rw [aq hq1] at hq
  rcases List.mem_append.mp hq with hq | hq
  ·exact hI q hq
  ·rw [List.mem_singleton.mp hq];exact h0
 ·obtain ⟨p3,hI⟩:=hI
  rw [List.length_map,List.take_length] at hI
  exact q0 _ (p1.trans (p2.trans p3)) hI
omit hK in
open Classical in
noncomputable def kd (S:Txt→Prop) (n:Txt):Txt:=if S n then kJ else mH
theorem AF {i:Nat}{A B:List Txt}{rows:List Rw}{N:Nat}{Q:MV→List MO→Prop}{X:XT}{h:List MO}(hpg:bn h i A B rows) (F:LF A B rows) (hN:12<N)
  (hq:∀h' r,h<+:h'→h'[r]?=some (.list ((aC (av A B rows)).map fun n=>.tup [.str n,.str (kd (Rch A B (cC (nums 1 [] rows))) n)]))→Q (.ref r) h'):K N 105 [.inst 0 i] Q X h:=by
 obtain ⟨M,rfl,hM⟩:=room hN
 refine hK _ _ _ _ _ _ pN rfl rfl ?_
 refine sY hK hpg F (Nat.le_trans (nb rfl) hM) fun h1 es p1 d1 R1=>?_
 have p1:h<+:h1:=p1
 have p2:h1<+:h1++[.list []]:=aa (ai _)
 obtain ⟨a,b,b1,_,_⟩:=hpg.up (p1.trans p2)
 have few:=F.few
 refine aw (de b1 rfl) ?_
 refine f9 hK (hpg.up (p1.trans p2)) F.g F.sz (Nat.le_trans F.len (nb rfl)) F.few F.ne (Nat.le_trans (nb rfl) hM) fun h3 g p3 l3 e3=>?_
 have p3:h1++[.list []]<+:h3:=p3
 have p13:h1<+:h3:=p2.trans p3
 refine aM (aH e3) ?_
 have lg:h1.length<g:=Nat.lt_of_lt_of_le (show h1.length<(h1++[MO.list []]).length by rw [List.length_append];exact Nat.lt_succ_self _) l3
 refine gP (fun j w hp=>⟨[some (.inst 0 i),some (.ref h.length),some (.ref h1.length),w],hp⟩) (fun j w hp=>A3 (h1<+:hp) (hp[h1.length]?=some (.list (((aC (av A B rows)).take j).map fun n=>.tup [.str n,.str (kd (Rch A B (cC (nums 1 [] rows))) n)]))) (hp[g]?=some (.list ((aC (av A B rows)).map .str)))) none _ rfl ⟨p13,ag p3 (ac _ _),e3⟩ (fun _ _ _ hI=>hI.h3) (fun j x w hp P hx hI hn _=>?_) (fun w hp hI=>?_)
 ·obtain ⟨q1,q2,q3⟩:=hI
  obtain ⟨n,hn1,rfl⟩:=Option.map_eq_some_iff.mp (List.getElem?_map ..▸hx)
  have hlt:=(List.getElem?_eq_some_iff.mp hn1).1
  have add:∀w:Txt,w=kd (Rch A B (cC (nums 1 [] rows))) n→aD K M [.expr (.mth .append (.var 2) [.tup [.var 3,.cst (.str w)]])] P (fun c m=>X c m.heap) ⟨[some (.inst 0 i),some (.ref h.length),some (.ref h1.length),some (.str n)],hp⟩:=fun w e=>by
   refine aw (aK q2) (bf (bc q2) ?_)
   refine ⟨by rw [List.length_map,List.length_take];unfold line;lia,?_⟩
   refine hn _ _ ⟨aJ q1 (Nat.le_refl _),?_,ak (Nat.ne_of_lt lg) q3⟩
   rw [aq hn1,List.map_append,e];exact get_set q2
  refine eD (ag q1 d1) ?_
  conv=>whnf
  cases q:(aE es n).isSome with
  | true=>exact add kJ (if_pos ((R1.keys n).mp (qd.mp q))).symm
  | false=>exact add mH (if_neg fun hs=>by rw [qd.mpr ((R1.keys n).mpr hs)] at q;exact tf q).symm
 ·obtain ⟨q1,q2,q3⟩:=hI
  rw [List.length_map,List.take_length] at q2
  exact hq _ _ (p1.trans q1) q2
end Internal
end
section
namespace Internal
noncomputable def ans (ab:List Tm):List Txt:=ab.flatMap an
theorem AG (ab:List Tm) (t:Tm):ans (ab++[t])=ans ab++an t:=by
 unfold ans
 rw [List.flatMap_append]
 exact congrArg (_++·) (List.append_nil _)
theorem oM:∀{ab:List Tm},(∀t∈ab,t.good)→(ans ab).length≤8 * ab.length
 | [],_=>Nat.le_refl _
 | t::ab,h=>by
  have h1:=Nat.le_trans (cw t) (h t (.head _)).lv
  have h2:=oM (ab:=ab) fun u hu=>h u (.tail _ hu)
  show (an t++ans ab).length≤8 * (ab.length+1)
  rw [List.length_append];exact n2 h2 h1 (by simp +arith only)
inductive LsA (hp:List MO) (i:Nat):List Num→List MV→Prop
 | nil:LsA hp i [] []
 | cons {k r ab a qs us}:a≠i→hp[a]?=some (.list ((ans ab).map .str))→LsA hp i qs us→LsA hp i ((k,r,ab)::qs) (.tup [r.mv,.ref a]::us)
section
variable {hp hp':List MO}{i:Nat}
theorem LsA.up (u:∀j o,j≠i→hp[j]?=some o→hp'[j]?=some o) {qs:List Num}{us:List MV}(h:LsA hp i qs us):LsA hp' i qs us:=by
 induction h with
 | nil=>exact .nil
 | cons h1 h2 _ ih=>exact .cons h1 (u _ _ h1 h2) ih
theorem LsA.app {qs qs':List Num}{us us':List MV}(h:LsA hp i qs us) (k:LsA hp i qs' us'):LsA hp i (qs++qs') (us++us'):=by
 induction h with
 | nil=>exact k
 | cons h1 h2 _ ih=>exact .cons h1 h2 ih
theorem LsA.len {qs:List Num}{us:List MV}(h:LsA hp i qs us):us.length=qs.length:=by
 induction h with
 | nil=>rfl
 | cons _ _ _ ih=>exact congrArg (·+1) ih
theorem LsA.get {qs:List Num}{us:List MV}(h:LsA hp i qs us):∀{j:Nat}{q:Num},qs[j]?=some q→∃a,us[j]?=some (.tup [q.2.1.mv,.ref a])∧hp[a]?=some (.list ((ans q.2.2).map .str)):=by
 induction h with
 | nil=>intro j q e;exact aB e
 | @cons k r ab a qs us h1 h2 h3 ih=>
  intro j q e
  cases j with
  | zero=>obtain rfl:=Option.some.inj e;exact ⟨a,rfl,h2⟩
  | succ j=>exact ih e
end
variable {K:KT}(hK:aF PP K)
include hK
theorem oN:∀(t:Tm) {N:Nat}{Q:MV→List MO→Prop}{X:XT}{h:List MO},t.deep<N→t.lv≤1000→(∀r h',h<+:h'→h'[r]?=some (.list ((an t).map .str))→Q (.ref r) h')→K N 37 [t.mv] Q X h
 | .num k,N,Q,X,h,hN,hl,hq=>by
  obtain ⟨M,rfl,hM⟩:=room hN
  refine hK _ _ _ _ _ _ bi rfl rfl ?_
  exact hq _ _ (aa (ai _)) (ac _ _)
 | .nm s,N,Q,X,h,hN,hl,hq=>by
  obtain ⟨M,rfl,hM⟩:=room hN
  refine hK _ _ _ _ _ _ bi rfl rfl ?_
  exact hq _ _ (aa (ai _)) (ac _ _)
 | .op c a b,N,Q,X,h,hN,hl,hq=>by
  have hN:max a.deep b.deep+1<N:=hN
  have hl:a.lv+b.lv≤1000:=hl
  obtain ⟨M,rfl,hM⟩:=room hN
  have ea:=cw a
  have eb:=cw b
  refine hK _ _ _ _ _ _ bi rfl rfl ?_
  conv=>whnf
  rw [show ([c]==xw)=false from x8 (by decide)]
  conv=>whnf
  rw [show ([c]==pS)=false from x8 (by decide)]
  refine oN a (n2 hN (Nat.le_max_left a.deep b.deep) (by simp +arith only)) (n1 hl (by simp +arith only)) fun r1 h1 p1 e1=>?_
  refine oN b (n2 hN (Nat.le_max_right a.deep b.deep) (by simp +arith only)) (n1 hl (by simp +arith only)) fun r2 h2 p2 e2=>?_
  refine af (ag p2 e1) (af e2 ?_)
  refine ⟨bQ (n3 eb ea hl (by simp +arith only)),?_⟩
  exact hq _ _ (aa (List.IsPrefix.trans p1 p2)) (b9 _ _ _)
theorem uQ {r:Rw}{N:Nat}{Q:MV→List MO→Prop}{X:XT}{h:List MO}(hN:0<N) (hq:Q (.ref h.length) (h++[.list (r.subs.map fun b=>.tup (mvs b))])):K N 72 [r.mv] Q X h:=by
 obtain ⟨M,rfl,hM⟩:=room hN
 refine hK _ _ _ _ _ _ ie rfl rfl ?_
 cases r with
 | set s t=>exact hq
 | tell t=>exact ⟨⟨rfl,rfl,by decide,Nat.le_of_ble_eq_true rfl⟩,hq⟩
 | skip=>exact ⟨⟨rfl,rfl,by decide,Nat.le_of_ble_eq_true rfl⟩,hq⟩
 | ite t a b=>exact ⟨⟨rfl,rfl,by decide,Nat.le_of_ble_eq_true rfl⟩,hq⟩
 | wh t a=>exact ⟨⟨rfl,rfl,by decide,Nat.le_of_ble_eq_true rfl⟩,hq⟩
theorem s6 {r:Rw}{N:Nat}{Q:MV→List MO→Prop}{X:XT}{h:List MO}(hN:0<N) (hq:Q r.ft.mv h):K N 106 [r.mv] Q X h:=by
 obtain ⟨M,rfl,hM⟩:=room hN
 refine hK _ _ _ _ _ _ fX rfl rfl ?_
 cases r<;>exact hq
end Internal
end
section
namespace Internal
noncomputable def Kp1 (i:Nat) (h h':List MO):Prop:=∀j o,j≠i→h[j]?=some o→h'[j]?=some o
theorem Kp1.refl {i:Nat}(h:List MO):Kp1 i h h:=fun _ _ _ e=>e
theorem Kp1.trans {i:Nat}{a b c:List MO}(x:Kp1 i a b) (y:Kp1 i b c):Kp1 i a c:=fun j o h e=>y j o h (x j o h e)
theorem Kp1.pre {i:Nat}{a b:List MO}(p:a<+:b):Kp1 i a b:=fun _ _ _ e=>ag p e
theorem Kp1.set {i:Nat}{a:List MO}{o:MO}:Kp1 i a (a.set i o):=fun j _ h e=>ak (Ne.symm h) e
theorem ye {r:Rw}{b:List Rw}(h:b∈r.subs):r.tm=r.ft:=by
 cases r with
 | ite t x y=>rfl
 | wh t x=>rfl
 | _=>exact aX h
variable {K:KT}
noncomputable def LI (K:KT) (rs:List Rw):Prop:=∀{N:Nat}{k:Int}{ab:List Tm}{ar i:Nat}{vs:List MV}{Q:MV→List MO→Prop}{X:XT}{h:List MO},db rs→(∀t∈ab,t.good)→ab.length+ap rs≤7→vs.length+aj rs≤10000→ap rs+6<N→h[ar]?=some (.list ((ans ab).map .str))→ar≠i→h[i]?=some (.list vs)→
 (∀h' us,Kp1 i h h'→h'[i]?=some (.list (vs++us))→LsA h' i (nums k ab rs) us→Q (.ref i) h')→K N 107 [.tup (mvs rs),.ref ar,.ref i] Q X h
variable (hK:aF PP K)
include hK
theorem AH (rs:List Rw) (ih:∀r∈rs,∀b∈r.subs,LI K b):LI K rs:=by
 intro N k ab ar i vs Q X h hg hab hl hz hN har hne hi hq
 obtain ⟨M,rfl,hM⟩:=room hN
 have la:=oM hab
 refine hK _ _ _ _ _ _ ig rfl rfl ?_
 refine sx (fun j w3 w4 hp us=>⟨[some (.tup (mvs rs)),some (.ref ar),some (.ref i),w3,w4],hp⟩) (fun j w3 w4 hp us=>A3 (Kp1 i h hp) (hp[i]?=some (.list (vs++us))) (LsA hp i (nums k ab (rs.take j)) us)) none none h [] rfl ⟨.refl _,by rw [List.append_nil];exact hi,.nil⟩ (fun _ _ _ _ _ _=>trivial) (fun j x w3 w4 hp us P hx hI hn _=>?_) (fun w3 w4 hp us hI=>?_)
 ·obtain ⟨k1,e1,a1⟩:=hI
  obtain ⟨r,hr,rfl⟩:=sF hx
  have hm:=List.mem_of_getElem? hr
  have gr:=jH hg r hm
  have sz:aj (rs.take (j+1))≤aj rs:=mq rs _
  rw [aq hr,eY,show aj [r]=r.size from Nat.add_zero _,oy] at sz
  have l1:us.length=aj (rs.take j):=by rw [a1.len,bq]
  refine aw (aK e1) (bf (bc e1) ?_)
  refine ⟨Nat.lt_of_lt_of_le (show _<10000 by rw [List.length_append];exact n3 (Nat.le_of_eq l1) sz hz (by simp +arith only)) (aZ (by decide)),?_⟩
  have e2:(hp.set i (.list (vs++us++[MV.tup [r.mv,.ref ar]])))[i]?=some (.list (vs++us++[MV.tup [r.mv,.ref ar]])):=get_set e1
  have k2:Kp1 i hp (hp.set i (.list (vs++us++[MV.tup [r.mv,.ref ar]]))):=.set
  refine uQ hK (r:=r) (n1 hN (by simp +arith only)) ?_
  refine aM (aH (ac _ _)) ?_
  have p3:hp.set i (.list (vs++us++[MV.tup [r.mv,.ref ar]]))<+:(hp.set i (.list (vs++us++[MV.tup [r.mv,.ref ar]])))++[MO.list (r.subs.map fun b=>.tup (mvs b))]:=aa (ai _)
  have nei:i≠(hp.set i (.list (vs++us++[MV.tup [r.mv,.ref ar]]))).length:=Nat.ne_of_lt (List.getElem?_eq_some_iff.mp e2).1
  have a2:LsA (hp.set i (.list (vs++us++[MV.tup [r.mv,.ref ar]]))) i (nums k ab (rs.take j)++[(k+aj (rs.take j),r,ab)]) (us++[MV.tup [r.mv,.ref ar]]):=(a1.up k2).app (.cons hne (k2 _ _ hne (k1 _ _ hne har)) .nil)
  refine fz (fun j2 w4 hp2 us2=>⟨[some (.tup (mvs rs)),some (.ref ar),some (.ref i),some r.mv,w4],hp2⟩) (fun j2 w4 hp2 us2=>A4 (Kp1 i hp hp2) (hp2[i]?=some (.list (vs++(us++[MV.tup [r.mv,.ref ar]]++us2)))) (LsA hp2 i (nums k ab (rs.take j)++[(k+aj (rs.take j),r,ab)]++cU (k+aj (rs.take j)+1) (ab++[r.tm]) (r.subs.take j2)) (us++[MV.tup [r.mv,.ref ar]]++us2)) (hp2[(hp.set i (.list (vs++us++[MV.tup [r.mv,.ref ar]]))).length]?=some (.list (r.subs.map fun b=>.tup (mvs b)))))
   _ _ [] rfl ⟨k2.trans (.pre p3),by rw [List.append_nil,←List.append_assoc];exact ag p3 e2,by rw [List.append_nil];show LsA _ i (_++[]) _;rw [List.append_nil];exact a2.up fun _ _ _ e=>ag p3 e,ac _ _⟩ (fun _ _ _ _ hI=>hI.h4) (fun j2 y w4 hp2 us2 P2 hy hI hn2 _=>?_) (fun w4 hp2 us2 hI=>?_)
  ·obtain ⟨q1,q2,q3,q4⟩:=hI
   obtain ⟨b,hb,rfl⟩:=Option.map_eq_some_iff.mp (List.getElem?_map ..▸hy)
   have hbm:=List.mem_of_getElem? hb
   have gt:r.ft.good:=kH gr
   have nb1:=eW b hbm
   have nr:=eV (Nat.le_refl (ap rs)) r hm
   have ss:=kg r.subs (j2+1)
   rw [aq hb,dL,show bt [b]=aj b from Nat.add_zero _] at ss
   have l2:us2.length=bt (r.subs.take j2):=by
    have h1:=q3.len
    have h2:∀(bs:List (List Rw)) (k:Int) (ab:List Tm),(cU k ab bs).length=bt bs:=fun bs=>by
     induction bs with
     | nil=>intro k ab;rfl
     | cons b bs ih=>intro k ab;show (nums k ab b++cU (k+aj b) ab bs).length=aj b+bt bs;rw [List.length_append,bq,ih]
    rw [List.length_append,List.length_append,List.length_append,List.length_append,h2,bq,List.length_singleton,List.length_singleton] at h1
    lia
   have har2:=q1 _ _ hne (k1 _ _ hne har)
   refine s6 hK (r:=r) (n1 hN (by simp +arith only)) ?_
   refine oN hK r.ft (by have:=gt.2;exact n2 this hN (by simp +arith only)) (Nat.le_trans gt.lv (nb rfl)) fun r5 h5 p5 e5=>?_
   have p5:hp2<+:h5:=p5
   refine af (ag p5 har2) (af e5 ?_)
   have ln:=Nat.le_trans (cw r.ft) gt.lv
   refine ⟨bQ (by lia),?_⟩
   have e6:(h5++[MO.list ((ans ab).map .str++(an r.ft).map .str)])[h5.length]?=some (.list ((ans (ab++[r.tm])).map .str)):=by rw [ye hbm,AG];exact b9 _ _ _
   have p6:hp2<+:h5++[MO.list ((ans ab).map .str++(an r.ft).map .str)]:=aa p5
   have hlt:i<h5.length:=Nat.lt_of_lt_of_le (List.getElem?_eq_some_iff.mp q2).1 p5.length_le
   refine ih r hm b hbm (k:=k+aj (rs.take j)+1+bt (r.subs.take j2)) (ab:=ab++[r.tm]) (pW gr b hbm) (fun t ht=>(List.mem_append.mp ht).elim (hab t) fun e=>by rw [List.mem_singleton.mp e,ye hbm];exact gt) (by rw [List.length_append,List.length_singleton];exact n3 nr nb1 hl (by simp +arith only)) ?_ (n3 nr nb1 hN (by simp +arith only)) e6 (Nat.ne_of_gt hlt) (ag p6 q2) fun h7 us7 k7 e7 a7=>?_
   ·rw [List.length_append,List.length_append,List.length_append,List.length_singleton];lia
   ·refine hn2 _ h7 (us2++us7) ⟨(q1.trans (.pre p6)).trans k7,?_,?_,k7 _ _ (Ne.symm nei) (ag p6 q4)⟩
    ·rw [e7];simp only [List.append_assoc]
    ·rw [aq hb,jJ,←List.append_assoc,←List.append_assoc]
     refine (q3.up fun j o hj e=>k7 j o hj (ag p6 e)).app ?_
     show LsA h7 i (nums _ _ b++[]) us7
     rw [List.append_nil];exact a7
  ·obtain ⟨q1,q2,q3,q4⟩:=hI
   rw [List.length_map,List.take_length] at q3
   refine hn _ _ hp2 (us++[MV.tup [r.mv,.ref ar]]++us2) ⟨k1.trans q1,q2,?_⟩
   rw [aq hr,mo,show nums (k+aj (rs.take j)) ab [r]=r.num (k+aj (rs.take j)) ab from List.append_nil _,xD]
   rw [List.append_assoc] at q3
   exact q3
 ·obtain ⟨k1,e1,a1⟩:=hI
  rw [cp,List.take_length] at a1
  exact hq _ _ k1 e1 a1
theorem yf (rs:List Rw):LI K rs:=dK (P:=fun rs=>LI K rs) (fun rs ih=>AH hK rs ih) rs
end Internal
end
section
namespace Internal
noncomputable def ups (k:Int):Nat→List Int
 | 0=>[]
 | n+1=>k::ups (k+1) n
theorem s8 (k:Int) (a b:Nat):ups k (a+b)=ups k a++ups (k+a) b:=by
 induction a generalizing k with
 | zero=>rw [Nat.zero_add,Int.natCast_zero,Int.add_zero];rfl
 | succ a ih=>
  rw [Nat.succ_add]
  show k::ups (k+1) (a+b)=k::(ups (k+1) a++_)
  rw [ih,Int.natCast_succ,Int.add_assoc,Int.add_comm 1]
theorem D4 {k q:Int}{n j:Nat}(h:(ups k n)[j]?=some q):q=k+j:=by
 induction n generalizing k j with
 | zero=>exact aB h
 | succ n ih=>
  cases j with
  | zero=>exact (Option.some.inj h).symm.trans (Int.add_zero _).symm
  | succ j=>rw [ih (show (ups (k+1) n)[j]?=some q from h),Int.natCast_succ,Int.add_assoc,Int.add_comm 1]
mutual
theorem AI:∀(r:Rw) (k:Int) (ab:List Tm),(r.num k ab).map (·.1)=ups k r.size
 | .set s t,k,ab=>rfl
 | .tell t,k,ab=>rfl
 | .skip,k,ab=>rfl
 | .ite t a b,k,ab=>by
  show k::(nums (k+1) (ab++[t]) a++nums (k+1+aj a) (ab++[t]) b).map (·.1)=k::ups (k+1) (aj a+aj b)
  rw [List.map_append,gz a,gz b,s8]
 | .wh t a,k,ab=>congrArg (k::·) (gz a (k+1) (ab++[t]))
theorem gz:∀(rs:List Rw) (k:Int) (ab:List Tm),(nums k ab rs).map (·.1)=ups k (aj rs)
 | [],k,ab=>rfl
 | r::rs,k,ab=>by
  show (r.num k ab++nums (k+r.size) ab rs).map (·.1)=ups k (r.size+aj rs)
  rw [List.map_append,AI r,gz rs,s8]
end
theorem yg (rs:List Rw) {k:Int}{ab:List Tm}{j:Nat}{q:Num}(h:(nums k ab rs)[j]?=some q):q.1=k+j:=
 D4 (n:=aj rs) (by rw [←gz rs k ab,List.getElem?_map,h];rfl)
theorem rK {α:Type}(xs:List α) (x:α):fc (-1) (xs++[x]).length=some xs.length:=by
 unfold fc
 rw [decide_eq_false (show ¬ (0:Int)≤-1 by decide),decide_eq_true (show -((xs++[x]).length:Int)≤-1 by rw [List.length_append,List.length_singleton];lia)]
 show some _=_
 rw [List.length_append,List.length_singleton];congr 1;lia
theorem rL {α:Type}(xs:List α) (x y:α):fc (-2) (xs++[x]++[y]).length=some xs.length:=by
 unfold fc
 rw [decide_eq_false (show ¬ (0:Int)≤-2 by decide),decide_eq_true (show -((xs++[x]++[y]).length:Int)≤-2 by rw [List.length_append,List.length_append,List.length_singleton,List.length_singleton];lia)]
 show some _=_
 rw [List.length_append,List.length_append,List.length_singleton,List.length_singleton];congr 1;lia
inductive LkC (r:Rw):Txt→Prop
 | nought:LkC r jm
 | set {x t} (e:r=.set x t):LkC r dj
 | tell {t} (e:r=.tell t):LkC r dH
 | turn {t a} (e:r=.wh t a):LkC r js
theorem AJ {A:List Txt}{r:Rw}{ab:List Tm}{w:Txt}{ns:List Txt}(h:(w,ns)∈lks A r ab):LkC r w∧∀n∈ns,n∈ats ab∨n∈an r.ft:=by
 have h4:(w,ns)∈lk4 r ab→LkC r w∧∀n∈ns,n∈ats ab∨n∈an r.ft:=fun q=>by
  unfold lk4 at q
  cases hd:dvs r.ft with
  | true=>
   rw [hd] at q
   cases List.mem_singleton.mp q
   exact ⟨.nought,fun n hn=>(List.mem_append.mp hn).elim (fun h=>.inr (xZ (aA.mp h))) .inl⟩
  | false=>rw [hd] at q;exact aX q
 cases r with
 | set x t=>
  rcases List.mem_append.mp h with h | h
  ·have h:(w,ns)∈(match A.contains x with | true=>[(dj,e9 (.set x t) ab)] | false=>[])++[]++[]:=h
   rw [List.append_nil,List.append_nil] at h
   cases q:A.contains x with
   | true=>
    rw [q] at h
    cases List.mem_singleton.mp h
    exact ⟨.set rfl,fun n hn=>(gv (fun e=>by cases e)).mp hn⟩
   | false=>rw [q] at h;exact aX h
  ·exact h4 h
 | tell t=>
  rcases List.mem_append.mp h with h | h
  ·cases List.mem_singleton.mp (show (w,ns)∈[(dH,e9 (.tell t) ab)] from h)
   exact ⟨.tell rfl,fun n hn=>(gv (fun e=>by cases e)).mp hn⟩
  ·exact h4 h
 | skip=>exact h4 h
 | ite t a b=>exact h4 h
 | wh t a=>
  rcases List.mem_append.mp h with h | h
  ·cases List.mem_singleton.mp (show (w,ns)∈[(js,e9 (.wh t a) ab)] from h)
   exact ⟨.turn rfl,fun n hn=>(gv (fun e=>by cases e)).mp hn⟩
  ·exact h4 h
theorem s9 {ab:List Tm}{n:Txt}:n∈ans ab↔n∈ats ab:=by
 rw [fE];unfold ans;exact List.mem_flatMap
noncomputable abbrev D5:List MV:=[.tup [.str dj,.str dj],.tup [.str dH,.str dH],.tup [.str js,.str dI]]
noncomputable abbrev oO:List D:=[.tup [.str dj,.str dj],.tup [.str dH,.str dH],.tup [.str js,.str dI]]
theorem mJ {hp:List MO}{a b:Txt}{Q:Bool→Prop}(h:(D.tup [.str a,.str b])∈oO) (hq:Q true):InP hp (.tup [.str a,.str b]) D5 Q:=by
 have two:∀a b:Txt,Rd hp (.tup [.str a,.str b]) (.tup [.str a,.str b]):=fun a b=>.tup (.cons (.str a) (.cons (.str b) .nil))
 have key:∀d∈oO,d.deep≤1000∧d.ok=true∧oO.any (fun e=>e.deq d)=true:=by decide
 obtain ⟨h1,h2,h3⟩:=key _ h
 refine .mk (.tup [.str a,.str b]) oO (two a b) (.cons (two _ _) (.cons (two _ _) (.cons (two _ _) .nil))) h1 h2 rfl ?_
 rw [h3];exact hq
variable {K:KT}(hK:aF PP K)
include hK
theorem yh {A B:List Txt}{rows:List Rw}{w:Txt}{j N:Nat}{Q:MV→List MO→Prop}{X:XT}{h:List MO}(F:LF A B rows) (L:D3 h A rows w j) (hN:20<N) (hq:∀h',Q (.bool true) h'):K N 129 [.tup (mvs rows),.tup [.str w,.ref j]] Q X h:=by
 obtain ⟨M,rfl,hM⟩:=room hN
 obtain ⟨⟨k,r,ab⟩,ns,n,k',ps,x,hqm,hl,hn,e1⟩:=L.ex
 obtain ⟨c,hns⟩:=AJ hl
 obtain ⟨z,hz1,hz2⟩:=List.getElem_of_mem hqm
 have hz:(nums 1 [] rows)[z]?=some (k,r,ab):=by rw [List.getElem?_eq_getElem hz1,hz2]
 have hk:k=1+z:=yg rows hz
 have o:=F.nums _ hqm
 have sz:=F.sz
 have p0:h<+:h++[MO.list []]++[MO.list []]:=aa (aa (ai _))
 refine hK _ _ _ _ _ _ fZ rfl rfl ?_
 refine yf hK rows (k:=1) (ab:=[]) (ar:=h.length) (i:=(h++[MO.list []]).length) (vs:=[]) F.g (fun _ q=>aX q) (by show 0+_≤_;rw [Nat.zero_add];exact F.ne) (by show 0+_≤_;exact n1 sz (by simp +arith only)) (by have:=F.ne;exact n2 this hN (by simp +arith only)) (ah (ac _ _)) (by rw [List.length_append];exact Nat.ne_of_lt (Nat.lt_succ_self _)) (ac _ _) fun h1 us k1 e2 a1=>?_
 have lh:j<h.length:=(List.getElem?_eq_some_iff.mp e1).1
 have nj:j≠(h++[MO.list []]).length:=by rw [List.length_append,List.length_singleton];exact Nat.ne_of_lt (n1 lh (by simp +arith only))
 have e3:=k1 _ _ nj (ag p0 e1)
 obtain ⟨a,e4,e5⟩:=a1.get hz
 refine af e3 ?_
 refine aS (rK _ _) (ac _ _) ?_
 refine af e2 ?_
 have lz:z<us.length:=by rw [a1.len];exact hz1
 have ez:fc (k-1) ([]++us).length=some z:=by rw [aU (by lia) (by rw [List.nil_append];lia)];congr 1;lia
 refine aS (k:=k-1) (j:=z) ez (by rw [List.nil_append];exact e4) ?_
 refine ⟨rfl,?_⟩
 refine af e3 ?_
 refine aS (rL _ _ _) (by rw [List.getElem?_append_left (by rw [List.length_append];exact Nat.lt_succ_self _)];exact ac _ _) ?_
 refine s6 hK (r:=r) (Nat.le_trans (nb rfl) hM) ?_
 have gt:r.ft.good:=kH o.good
 refine oN hK r.ft (by have:=gt.2;exact n2 this hN (by simp +arith only)) (Nat.le_trans gt.lv (nb rfl)) fun r6 h6 p6 e6=>?_
 have p6:h1<+:h6:=p6
 refine af e6 (af (ag p6 e5) ?_)
 have ln:=Nat.le_trans (cw r.ft) gt.lv
 have la:(ans ab).length≤8 * ab.length:=oM o.tg
 have ll:ab.length≤7:=o.len
 refine ⟨bQ (by show _+(ans ab).length≤_;lia),?_⟩
 have inT:∀m∈an r.ft++ans ab,m∈aC (av A B rows):=fun m hm=>(List.mem_append.mp hm).elim (o.fn m) fun h=>o.am m (s9.mp h)
 have hnm:n∈an r.ft++ans ab:=(hns n hn).elim (fun h=>List.mem_append_right _ (s9.mpr h)) fun h=>List.mem_append_left _ h
 refine az (xs:=(an r.ft++ans ab).map .str) (by rw [List.map_append];exact ac _ _) ?_
 refine cK (F.ok n (inT n hnm)) (fun s hs=>F.ok s (inT s hs)) ?_
 rw [List.contains_iff_mem.mpr hnm]
 cases c with
 | nought=>exact hq _
 | set e=>subst e;exact mJ (.head _) (hq _)
 | tell e=>subst e;exact mJ (.tail _ (.head _)) (hq _)
 | turn e=>subst e;exact mJ (.tail _ (.tail _ (.head _))) (hq _)
end Internal
end
section
namespace Internal
noncomputable abbrev PI:=List (Txt × Int)
noncomputable def opn (S:Txt→Prop) (qs:PI):PI:=qs.filter fun p=>kd S p.1==mH
theorem Fj {S:Txt→Prop}{qs:PI}{j:Nat}{p:Txt × Int}(e:qs[j]?=some p) (h:(kd S p.1==mH)=true):opn S (qs.take (j+1))=opn S (qs.take j)++[p]:=by
 unfold opn;rw [aq e,List.filter_append];congr 1;exact List.filter_cons_of_pos h
theorem Fk {S:Txt→Prop}{qs:PI}{j:Nat}{p:Txt × Int}(e:qs[j]?=some p) (h:(kd S p.1==mH)=false):opn S (qs.take (j+1))=opn S (qs.take j):=by
 unfold opn;rw [aq e,List.filter_append]
 exact (congrArg (_++·) (List.filter_cons_of_neg (by rw [h];decide))).trans (List.append_nil _)
variable {K:KT}(hK:aF PP K)
include hK
theorem yi {i r:Nat}{A B:List Txt}{rows:List Rw}{qs:PI}{N:Nat}{Q:MV→List MO→Prop}{X:XT}{h:List MO}(hpg:bn h i A B rows) (F:LF A B rows) (hr:h[r]?=some (.list (qs.map prM))) (hk:qs.map (·.1)=aC (av A B rows)) (hN:13<N)
  (hq:∀h' r',h<+:h'→h'[r']?=some (.list ((opn (Rch A B (cC (nums 1 [] rows))) qs).map prM))→Q (.ref r') h'):K N 127 [.inst 0 i,.ref r] Q X h:=by
 obtain ⟨M,rfl,hM⟩:=room hN
 have few:=F.few
 refine hK _ _ _ _ _ _ j9 rfl rfl ?_
 refine AF hK hpg F hM fun h1 r1 p1 e1=>?_
 have p1:h<+:h1:=p1
 generalize hS:Rch A B (cC (nums 1 [] rows))=S at *
 refine az e1 ?_
 refine .mk rfl ((aC (av A B rows)).map fun n=>(n,.str (kd S n))) (by rw [List.map_map];rfl) (by rw [List.map_map];exact (by show ((aC (av A B rows)).map id).Nodup;rw [List.map_id];exact iA _)) (by rw [List.length_map];exact Nat.le_trans few (nb rfl)) ?_
 have e2:=ah (o':=.dict ((aC (av A B rows)).map fun n=>(n,MV.str (kd S n)))) (ag p1 hr)
 refine aM (aH e2) ?_
 refine kE (fun w=>⟨[some (.inst 0 i),some (.ref r),some (.ref h1.length),w],h1++[MO.dict ((aC (av A B rows)).map fun n=>(n,MV.str (kd S n)))]⟩) (fun j=>(opn S (qs.take j)).map prM) _ rfl rfl (fun _=>e2) (fun j z w P hz n1 n2=>?_) (fun w=>?_)
 ·obtain ⟨⟨n,v⟩,hz1,rfl⟩:=Option.map_eq_some_iff.mp (List.getElem?_map ..▸hz)
  have hm:n∈aC (av A B rows):=hk▸List.mem_map.mpr ⟨_,List.mem_of_getElem? hz1,rfl⟩
  refine bw (ac _ _) ?_
  refine bN (mD (f:=fun n=>.str (kd S n)) hm) ?_
  conv=>whnf
  cases q:(kd S n==[111,112,101,110]) with
  | true=>exact n1 _ _ (by rw [Fj hz1 q,List.map_append];rfl)
  | false=>exact n2 _ (by rw [Fk hz1 q])
 ·rw [List.length_map,List.take_length]
  exact hq _ _ (aa (aa p1)) (ac _ _)
omit hK in
theorem D6 {hp:List MO}{i j:Nat}{qs:PI}{Q:Bool→Prop}(hi:hp[i]?=some (.list (qs.map prM))) (hj:hp[j]?=some (.list (qs.map prM))) (ho:∀p∈qs,okS p.1) (hq:Q true):EqP hp (.ref i) (.ref j) Q:=
 sP (.list (qs.map prD)) (.list hi (oH qs)) (.list hj (oH qs)) (Nat.le_trans (Nat.succ_le_succ (nI qs)) (nb rfl)) (sQ ho) hq
omit hK in
theorem AK {hp:List MO}{i j:Nat}{is:List Int}{Q:Bool→Prop}(hi:hp[i]?=some (.list (is.map .int))) (hj:hp[j]?=some (.list (is.map .int))) (hq:Q true):EqP hp (.ref i) (.ref j) Q:=
 sP (.list (is.map .int)) (.list hi (mE is)) (.list hj (mE is)) (by show D.deeps _+1≤1000;rw [mF];decide) (p9 is) hq
theorem qe {i r1 y1 r2 y2:Nat}{A B:List Txt}{rows:List Rw}{w:Txt}{n:Int}{is:List Int}{q1 q2:PI}{N:Nat}{Q:MV→List MO→Prop}{X:XT}{h:List MO}(hpg:bn h i A B rows) (F:LF A B rows) (h1:h[r1]?=some (.list (q1.map prM))) (h2:h[r2]?=some (.list (q2.map prM))) (h3:h[y1]?=some (.list (is.map .int))) (h4:h[y2]?=some (.list (is.map .int)))
  (k1:q1.map (·.1)=aC (av A B rows)) (k2:q2.map (·.1)=aC (av A B rows)) (hS:opn (Rch A B (cC (nums 1 [] rows))) q1=opn (Rch A B (cC (nums 1 [] rows))) q2) (hN:14<N) (hq:∀h',h<+:h'→Q (.bool true) h'):K N 128 [.inst 0 i,.tup [.str w,.int n,.ref r1,.ref y1],.tup [.str w,.int n,.ref r2,.ref y2]] Q X h:=by
 obtain ⟨M,rfl,hM⟩:=room hN
 refine hK _ _ _ _ _ _ fY rfl rfl ?_
 conv=>whnf
 rw [show (w==w)=true from beq_self_eq_true _]
 conv=>whnf
 rw [show (n==n)=true from beq_self_eq_true _]
 refine AK h3 h4 ?_
 refine yi hK hpg F h1 k1 hM fun h5 r5 p5 e5=>?_
 have p5:h<+:h5:=p5
 refine yi hK (hpg.up p5) F (ag p5 h2) k2 hM fun h6 r6 p6 e6=>?_
 have p6:h5<+:h6:=p6
 refine D6 (ag p6 e5) (hS▸e6) (fun p hp=>F.ok _ (k1▸List.mem_map.mpr ⟨p,(List.mem_filter.mp hp).1,rfl⟩)) ?_
 exact hq _ (p5.trans p6)
end Internal
end
section
namespace Internal
theorem dg {ss:List Txt}(ten:ss.length=10) {k:Int}{f:MV→Prop}(h0:0≤k) (h1:k<10) (hf:∀s∈ss,f (.str s)):cQ (ss.map MV.str) k f:=by
 have hl:k.toNat<ss.length:=by lia
 exact aS (aU h0 (by rw [List.length_map,ten];exact h1)) (by rw [List.getElem?_map,ci hl];rfl) (hf _ (List.getElem_mem hl))
theorem FM {a b c:MV}{x:Int}{f:MV→Prop}(ha:f a) (hb:f b) (hc:f c):cQ [a,b,c] (x % 3) f:=by
 obtain ⟨v,h1,h2⟩:=kb.get (P:=fun _ v=>f v) (n:=0) (.cons ha (.cons hb (.cons hc .nil))) (x % 3).toNat (emN rfl)
 exact aS (aU (em0 rfl) (by show _<(3:Int);exact em2 rfl)) h1 h2
theorem FN {a b:MV}{k:Int}{f:MV→Prop}(h0:0≤k) (h1:k<2) (ha:f a) (hb:f b):cQ [a,b] k f:=by
 obtain ⟨v,h2,h3⟩:=kb.get (P:=fun _ v=>f v) (n:=0) (.cons ha (.cons hb .nil)) k.toNat (show _<2 by lia)
 exact aS (aU h0 h1) h2 h3
structure Own (p:Txt→Prop) (r:Rw):Prop where
 gp:r.gp p
 nest:r.nest≤2
 len:r.lines.length≤7
theorem oP {ss:List Txt}{k:Int}(h0:0≤k) (h1:k<1000000):Tm.ok (·∈ss) (.num k):=⟨h0,h1⟩
theorem kK {ss:List Txt}{s:Txt}(hs:s∈ss):(Tm.op 43 (.nm s) (.num 1)).gp (·∈ss):=⟨⟨.inl rfl,hs,oP (by decide) (by decide)⟩,Nat.succ_le_succ (Nat.zero_le _)⟩
theorem tc {ss:List Txt}{s:Txt}{k:Int}(h0:0≤k) (h1:k<1000000) (hs:s∈ss):(Tm.op 60 (.nm s) (.num k)).gp (·∈ss):=⟨⟨.inr (.inr (.inr (.inl rfl))),hs,oP h0 h1⟩,Nat.succ_le_succ (Nat.zero_le _)⟩
structure Sm (p:Txt→Prop) (q:Rw):Prop where
 gp:q.gp p
 nest:q.nest≤1
 len:q.lines.length≤3
theorem yj {p:Txt→Prop}{q:Rw}{a:List Rw}(h:Sm p q) (ha:a=[q]∨a=[]):gps p a∧ap a≤1∧(lns a).length≤3:=by
 rcases ha with rfl | rfl
 ·exact ⟨⟨h.gp,trivial⟩,mx0 h.nest,by rw [jf];exact h.len⟩
 ·exact ⟨trivial,Nat.zero_le _,Nat.zero_le _⟩
theorem D7 {p:Txt→Prop}{t:Tm}{q:Rw}{a b:List Rw}(ht:t.gp p) (h:Sm p q) (ha:a=[q]∨a=[]) (hb:b=[q]∨b=[]) (ho:a=[]∨b=[]):Own p (.ite t a b):=by
 obtain ⟨a1,a2,a3⟩:=yj h ha
 obtain ⟨b1,b2,b3⟩:=yj h hb
 refine ⟨⟨ht,a1,b1⟩,Nat.succ_le_succ (mx a2 b2),?_⟩
 show ((_:Txt)::(lns a++nz::(lns b++[mQ]))).length≤7
 rw [List.length_cons,List.length_append,List.length_cons,List.length_append,List.length_singleton]
 rcases ho with rfl | rfl
 ·show 0+_+1≤7;exact n1 b3 (by simp +arith only)
 ·show _+(0+_+1)+1≤7;exact n1 a3 (by simp +arith only)
variable {K:KT}(hK:aF PP K)
include hK
section
variable {r:Nat}{ss:List Txt}{way c:Int}{dark low:Txt}{N:Nat}{Q:MV→List MO→Prop}{X:XT}{h:List MO}{t:Tm}{hp:List MO}
noncomputable abbrev Fo:List MSt:=[.ret (.tup [.cst (.str [105,102]),.var 5,.idx (.list [.tup [.var 7],.tup []]) (.bin .mod (.bin .fdiv (.var 3) (.cst (.int 150))) (.cst (.int 2))),.idx (.list [.tup [.var 7],.tup []]) (.bin .sub (.cst (.int 1)) (.bin .mod (.bin .fdiv (.var 3) (.cst (.int 150))) (.cst (.int 2))))])]
omit hK in
theorem td {q:Rw}{v6:MV}(hq:∀h' q,h<+:h'→Own (·∈ss) q→Q q.mv h') (hpre:h<+:hp) (ht:t.gp (·∈ss)) (hs:Sm (·∈ss) q):aD K N Fo (fin Q) (fun c m=>X c m.heap) ⟨[some (.ref r),some (.int way),some (.str dark),some (.int c),some (.str low),some t.mv,some v6,some q.mv],hp⟩:=by
 have h2:0≤c / 150 % 2∧c / 150 % 2<2:=em rfl
 have one:∀(a b:List Rw) (hp':List MO),hp<+:hp'→(a=[q]∨a=[])→(b=[q]∨b=[])→(a=[]∨b=[])→Q (.tup [.str wIf,t.mv,.tup (mvs a),.tup (mvs b)]) hp':=fun a b hp' p' ha hb ho=>hq hp' (.ite t a b) (hpre.trans p') (D7 ht hs ha hb ho)
 have hd:c / 150 % 2=0∨c / 150 % 2=1:=by lia
 refine af (ac _ _) ?_
 rcases hd with hd | hd
 ·refine aS (k:=c / 150 % 2) (j:=0) (by rw [hd];rfl) rfl ?_
  refine af (ac _ _) ?_
  refine aS (k:=1-c / 150 % 2) (j:=1) (by rw [hd];rfl) rfl ?_
  exact one [q] [] _ (aa (aa (ai _))) (.inl rfl) (.inr rfl) (.inr rfl)
 ·refine aS (k:=c / 150 % 2) (j:=1) (by rw [hd];rfl) rfl ?_
  refine af (ac _ _) ?_
  refine aS (k:=1-c / 150 % 2) (j:=0) (by rw [hd];rfl) rfl ?_
  exact one [] [q] _ (aa (aa (ai _))) (.inr rfl) (.inl rfl) (.inl rfl)
omit hK in
theorem Bw {n i:Nat}{e:ME}{Q:Fl→MS→Prop}{X:XM}{m:MS}(h:wpE K n e (fun v m=>Q .next (m.set i v)) X m):aD K n [.asg [i] false e] Q X m:=h
omit hK in
theorem AL {v1 v2:Option MV}{v5 v6 v7:Option MV}{P:PQ}{X:XM}(hr:hp[r]?=some (.list (ss.map .str))) (ten:ss.length=10) (hq:∀s∈ss,P (Rw.set s (.op 47 (.nm low) (.num (c / 75 % 2)))).mv ⟨[some (.ref r),v1,v2,some (.int c),some (.str low),v5,v6,v7],hp⟩) :
  wpE K N (.tup [.cst (.str [115,101,116]),.idx (.var 0) (.bin .add (.cst (.int 5)) (.bin .mod (.bin .fdiv (.var 3) (.cst (.int 15))) (.cst (.int 5)))),.tup [.cst (.str [47]),.tup [.cst (.str [110,97,109,101]),.var 4],.tup [.cst (.str [110,117,109,98,101,114]),.bin .mod (.bin .fdiv (.var 3) (.cst (.int 75))) (.cst (.int 2))]]]) P X ⟨[some (.ref r),v1,v2,some (.int c),some (.str low),v5,v6,v7],hp⟩:=by
 have h2:0≤c / 15 % 5∧c / 15 % 5<5:=em rfl
 refine af hr ?_
 exact dg (k:=5+c / 15 % 5) ten (z1 h2.1 (by simp +arith only)) (z1 h2.2 (by simp +arith only)) hq
theorem rM {q:Rw}(hr:h[r]?=some (.list (ss.map .str))) (ten:ss.length=10) (hlow:low∈ss) (hq:∀h' q,h<+:h'→Own (·∈ss) q→Q q.mv h') (hpre:h<+:hp) (ht:t.gp (·∈ss)) (hs:Sm (·∈ss) q):aD K N (bX.body.drop 8) (fin Q) (fun c m=>X c m.heap) ⟨[some (.ref r),some (.int way),some (.str dark),some (.int c),some (.str low),some t.mv,some (Rw.set low (.op 43 (.nm low) (.num 1))).mv,some q.mv],hp⟩:=by
 have seven:∀(q:Rw),Sm (·∈ss) q→aD K N (bX.body.drop 9) (fin Q) (fun c m=>X c m.heap) ⟨[some (.ref r),some (.int way),some (.str dark),some (.int c),some (.str low),some t.mv,some (Rw.set low (.op 43 (.nm low) (.num 1))).mv,some q.mv],hp⟩:=fun q hs=>by
  conv=>whnf
  cases way==7 with
  | false=>exact td hq hpre ht hs
  | true=>
   refine Bw (AL (ag hpre hr) ten fun s hs=>?_)
   exact td (q:=.set s (.op 47 (.nm low) (.num (c / 75 % 2)))) hq hpre ht ⟨⟨hs,⟨.inr (.inr (.inr (.inr (.inr rfl)))),hlow,em rfl⟩,Nat.succ_le_succ (Nat.zero_le _)⟩,Nat.zero_le _,Nat.succ_le_succ (Nat.zero_le _)⟩
 conv=>whnf
 cases way==6 with
 | false=>exact seven q hs
 | true=>exact seven (.wh (.op 60 (.nm low) (.num 3)) [.set low (.op 43 (.nm low) (.num 1))]) ⟨⟨tc (by decide) (by decide) hlow,⟨hlow,kK hlow⟩,trivial⟩,Nat.le_refl _,Nat.le_refl _⟩
omit hK in
theorem D8 {v1 v2 v4 v6 v7:Option MV}{v5:MV}{P:PQ}{X:XM}(hr:hp[r]?=some (.list (ss.map .str))) (ten:ss.length=10) (hq:∀s∈ss,P (.tup [.str dj,.str s,v5]) ⟨[some (.ref r),v1,v2,some (.int c),v4,some v5,v6,v7],hp⟩) :
  wpE K N (.tup [.cst (.str [115,101,116]),.idx (.var 0) (.bin .mod (.bin .fdiv (.var 3) (.cst (.int 15))) (.cst (.int 5))),.var 5]) P X ⟨[some (.ref r),v1,v2,some (.int c),v4,some v5,v6,v7],hp⟩:=by
 refine af hr ?_
 exact dg (k:=c / 15 % 5) ten (em0 rfl) (em2 rfl) hq
omit hK in
theorem AM {v1 v2 v4 v6 v7:Option MV}{v5:MV}{P:PQ}{X:XM}(hr:hp[r]?=some (.list (ss.map .str))) (ten:ss.length=10) (hq:∀s∈ss,P (.tup [.str dj,.str s,.tup [.str [47],.tup [.str xw,.int 7],v5]]) ⟨[some (.ref r),v1,v2,some (.int c),v4,some v5,v6,v7],hp⟩) :
  wpE K N (.tup [.cst (.str [115,101,116]),.idx (.var 0) (.bin .add (.cst (.int 5)) (.bin .mod (.bin .fdiv (.var 3) (.cst (.int 15))) (.cst (.int 5)))),.tup [.cst (.str [47]),.tup [.cst (.str [110,117,109,98,101,114]),.cst (.int 7)],.var 5]]) P X ⟨[some (.ref r),v1,v2,some (.int c),v4,some v5,v6,v7],hp⟩:=by
 have h2:0≤c / 15 % 5∧c / 15 % 5<5:=em rfl
 refine af hr ?_
 exact dg (k:=5+c / 15 % 5) ten (z1 h2.1 (by simp +arith only)) (z1 h2.2 (by simp +arith only)) hq
omit hK in
theorem AN {v2 v5 v6 v7:Option MV}{P:PQ}{X:XM}(hr:hp[r]?=some (.list (ss.map .str))) (ten:ss.length=10) (hq:∀q hp',hp<+:hp'→((∃s∈ss,q=Rw.set s (.op 43 (.nm low) (.num 1)))∨q=.tell (.nm low))→P q.mv ⟨[some (.ref r),some (.int way),v2,some (.int c),some (.str low),v5,v6,v7],hp'⟩) :
  wpE K N (.idx (.list [.tup [.cst (.str [115,101,116]),.idx (.var 0) (.bin .mod (.bin .fdiv (.var 3) (.cst (.int 15))) (.cst (.int 5))),.tup [.cst (.str [43]),.tup [.cst (.str [110,97,109,101]),.var 4],.tup [.cst (.str [110,117,109,98,101,114]),.cst (.int 1)]]],.tup [.cst (.str [116,101,108,108]),.tup [.cst (.str [110,97,109,101]),.var 4]]]) (.bin .mod (.var 1) (.cst (.int 2)))) P X ⟨[some (.ref r),some (.int way),v2,some (.int c),some (.str low),v5,v6,v7],hp⟩:=by
 refine af hr ?_
 refine dg (k:=c / 15 % 5) ten (em0 rfl) (em2 rfl) fun s hs=>?_
 refine af (ac _ _) ?_
 refine FN (k:=way % 2) (em0 rfl) (em2 rfl) ?_ ?_
 ·exact hq (.set s (.op 43 (.nm low) (.num 1))) _ (aa (ai _)) (.inl ⟨s,hs,rfl⟩)
 ·exact hq (.tell (.nm low)) _ (aa (ai _)) (.inr rfl)
omit hK in
theorem Bx {n:Nat}{e:ME}{Q:Fl→MS→Prop}{X:XM}{m:MS}(h:wpE K n e (fun v m=>Q (.ret v) m) X m):aD K n [.ret e] Q X m:=h
theorem jQ (hr:h[r]?=some (.list (ss.map .str))) (ten:ss.length=10) (hd:dark∈ss) (hlow:low∈ss) (hq:∀h' q,h<+:h'→Own (·∈ss) q→Q q.mv h') (hpre:h<+:hp) (ht:t.ok (·∈ss)) (hdp:t.deep≤1) :
  aD K N (bX.body.drop 2) (fin Q) (fun c m=>X c m.heap) ⟨[some (.ref r),some (.int way),some (.str dark),some (.int c),some (.str low),some t.mv,none,none],hp⟩:=by
 have hr':=ag hpre hr
 have tg:t.gp (·∈ss):=⟨ht,Nat.le_trans hdp (by decide)⟩
 conv=>whnf
 cases way==0 with
 | true=>exact Bx (D8 hr' ten fun s hs=>hq hp (.set s t) hpre ⟨⟨hs,tg⟩,Nat.zero_le _,Nat.succ_le_succ (Nat.zero_le _)⟩)
 | false=>
 conv=>whnf
 cases way==1 with
 | true=>exact hq hp (.tell t) hpre ⟨tg,Nat.zero_le _,Nat.succ_le_succ (Nat.zero_le _)⟩
 | false=>
 conv=>whnf
 cases way==2 with
 | true=>exact hq hp (.wh (.op 60 (.nm dark) (.num 3)) [.set dark (.op 43 (.nm dark) (.num 1))]) hpre ⟨⟨tc (by decide) (by decide) hd,⟨hd,kK hd⟩,trivial⟩,Nat.le_succ 1,Nat.succ_le_succ (Nat.succ_le_succ (Nat.succ_le_succ (Nat.zero_le _)))⟩
 | false=>
 conv=>whnf
 cases way==3 with
 | true=>exact Bx (AM hr' ten fun s hs=>hq hp (.set s (.op 47 (.num 7) t)) hpre ⟨⟨hs,⟨.inr (.inr (.inr (.inr (.inr rfl)))),oP (by decide) (by decide),ht⟩,Nat.succ_le_succ (Nat.le_trans (m0x hdp) (by decide))⟩,Nat.zero_le _,Nat.succ_le_succ (Nat.zero_le _)⟩)
 | false=>
  refine Bu (AN hr' ten fun q hp' p' hs=>?_)
  refine rM hK hr ten hlow hq (hpre.trans p') tg ?_
  rcases hs with ⟨s,hs,rfl⟩ | rfl
  ·exact ⟨⟨hs,kK hlow⟩,Nat.zero_le _,Nat.succ_le_succ (Nat.zero_le _)⟩
  ·exact ⟨⟨hlow,Nat.zero_le _⟩,Nat.zero_le _,Nat.succ_le_succ (Nat.zero_le _)⟩
theorem uR (hr:h[r]?=some (.list (ss.map .str))) (ten:ss.length=10) (hd:dark∈ss) (hN:0<N) (hq:∀h' q,h<+:h'→Own (·∈ss) q→Q q.mv h'):K N 123 [.ref r,.int way,.str dark,.int c] Q X h:=by
 obtain ⟨M,rfl,hM⟩:=room hN
 refine hK _ _ _ _ _ _ bX rfl rfl ?_
 refine af hr ?_
 refine dg (k:=c % 5) ten (em0 rfl) (em2 rfl) fun low hlow=>?_
 refine af (ac _ _) ?_
 have p1:∀o,h<+:h++[o]:=fun o=>aa (ai _)
 refine FM (x:=c / 5) ?_ ?_ ?_
 ·exact jQ hK (t:=.nm dark) hr ten hd hlow hq (p1 _) hd (Nat.zero_le _)
 ·exact jQ hK (t:=.op 43 (.nm low) (.nm dark)) hr ten hd hlow hq (p1 _) ⟨.inl rfl,hlow,hd⟩ (Nat.le_refl _)
 ·exact jQ hK (t:=.op 60 (.nm dark) (.num 2)) hr ten hd hlow hq (p1 _) ⟨.inr (.inr (.inr (.inl rfl))),hd,oP (by decide) (by decide)⟩ (Nat.le_refl _)
end
end Internal
end
section
namespace Internal
theorem kL {p:Txt→Prop}:∀{a b:List Rw},gps p (a++b)→gps p a∧gps p b
 | [],_,h=>⟨trivial,h⟩
 | _::_,_,h=>⟨⟨h.1,(kL h.2).1⟩,(kL h.2).2⟩
theorem gX:∀{a b:List Rw}{k:Nat},ap (a++b)≤k→ap a≤k∧ap b≤k
 | [],_,_,h=>⟨Nat.zero_le _,h⟩
 | r::a,b,k,h=>by
  obtain ⟨h1,h2⟩:=Nat.max_le.mp (show max r.nest (ap (a++b))≤k from h)
  exact ⟨mx h1 (gX h2).1,(gX h2).2⟩
theorem qf:∀(rs:List Rw) (k:Nat),(mvs rs).take k=mvs (rs.take k)
 | _,0=>rfl
 | [],_+1=>rfl
 | r::rs,k+1=>congrArg (List.cons r.mv) (qf rs k)
theorem qg:∀(rs:List Rw) (k:Nat),(mvs rs).drop k=mvs (rs.drop k)
 | _,0=>rfl
 | [],_+1=>rfl
 | r::rs,k+1=>qg rs k
structure Blk (p:Txt→Prop) (L:Nat) (rows:List Rw):Prop where
 gp:gps p rows
 nest:ap rows≤7
 len:(lns rows).length≤L
theorem Blk.put {p:Txt→Prop}{L:Nat}{bs rs:List Rw}(h:Blk p L bs) (k:Blk p 13 rs) (a:Nat):Blk p (L+13) (bs.take a++rs++bs.drop a):=by
 have g:=h.gp
 have n:=h.nest
 have l:=h.len
 rw [←List.take_append_drop a bs] at g n l
 rw [fC,List.length_append] at l
 refine ⟨gV (gV (kL g).1 k.gp) (kL g).2,dw (dw (gX n).1 k.nest) (gX n).2,?_⟩
 have:=k.len
 rw [fC,fC,List.length_append,List.length_append];exact n2 this l (by simp +arith only)
variable {K:KT}(hK:aF PP K)
include hK
section
variable {r b:Nat}{ss:List Txt}{c:Int}{N L:Nat}{bs:List Rw}{Q:MV→List MO→Prop}{X:XT}{h:List MO}
omit hK in
theorem yk {i4:Nat}{rs:List Rw}{q:Rw}{a:Int}{v0 v2 v3:Option MV}{hp:List MO}(hb:hp[b]?=some (.list (mvs bs))) (h4:hp[i4]?=some (.list (mvs rs))) (ha:0≤a) (hz:bs.length+rs.length≤10000) (hpre:h<+:hp) (hB:Blk (·∈ss) L bs) (hR:Blk (·∈ss) 13 (rs++[q]))
  (hq:∀h' i rows,h<+:h'→h'[i]?=some (.list (mvs rows))→Blk (·∈ss) (L+13) rows→Q (.ref i) h') :
  aD K N [.ret (.bin .add (.bin .add (.bin .add (.sl (.var 1) none (some (.var 6))) (.var 4)) (.list [.var 5])) (.sl (.var 1) (some (.var 6)) none))] (fin Q) (fun c m=>X c m.heap) ⟨[v0,some (.ref b),v2,v3,some (.ref i4),some q.mv,some (.int a)],hp⟩:=by
 have l1:(bs.take a.toNat).length≤bs.length:=by rw [List.length_take];exact Nat.min_le_right ..
 have l2:(bs.drop a.toNat).length≤bs.length:=by rw [List.length_drop];exact Nat.sub_le ..
 refine af hb ?_
 refine af (ac _ _) (af (ah h4) ?_)
 rw [cA ha,qf]
 refine ⟨aZ (by rw [cp,cp];exact n2 l1 hz (by simp +arith only)),?_⟩
 refine af (ah (ac _ _)) (af (ac _ _) ?_)
 refine ⟨aZ (by rw [List.length_append,cp,cp,List.length_singleton];exact n2 l1 hz (by simp +arith only)),?_⟩
 refine af (ag (aa (aa (aa (aa (ai _))))) hb) ?_
 refine af (ah (ac _ _)) (af (ac _ _) ?_)
 rw [bH ha,qg]
 refine ⟨aZ (by rw [List.length_append,List.length_append,cp,cp,cp,List.length_singleton];lia),?_⟩
 refine hq _ _ (bs.take a.toNat++(rs++[q])++bs.drop a.toNat) (aa (aa (aa (aa (aa (aa hpre)))))) ?_ (hB.put hR _)
 rw [fB,fB,fB,←List.append_assoc]
 exact ac _ _
omit hK in
theorem Fp {i4:Nat}{rs:List Rw}{q:Rw}{v0 v3:Option MV}{hp:List MO}(hb:hp[b]?=some (.list (mvs bs))) (h4:hp[i4]?=some (.list (mvs rs))) (hz:bs.length+rs.length≤10000) (hpre:h<+:hp) (hB:Blk (·∈ss) L bs) (hR:Blk (·∈ss) 13 (rs++[q]))
  (hq:∀h' i rows,h<+:h'→h'[i]?=some (.list (mvs rows))→Blk (·∈ss) (L+13) rows→Q (.ref i) h') :
  aD K N (bj.body.drop 5) (fin Q) (fun c m=>X c m.heap) ⟨[v0,some (.ref b),some (.int c),v3,some (.ref i4),some q.mv,none],hp⟩:=by
 refine az hb ?_
 have hp1:(0:Int)<((mvs bs).length:Nat)+1:=by lia
 refine aw (decide_eq_true hp1) ?_
 have h0:0≤c / 1500 % (((mvs bs).length:Nat)+1:Int):=Int.emod_nonneg _ (Int.ne_of_gt hp1)
 conv=>whnf
 cases decide (0<c / 500 % 3) with
 | true=>exact yk (a:=0) hb h4 (by decide) hz hpre hB hR hq
 | false=>exact yk hb h4 h0 hz hpre hB hR hq
theorem te {i4:Nat}{rs:List Rw}{dark:Txt}{hp:List MO}(hr:hp[r]?=some (.list (ss.map .str))) (ten:ss.length=10) (hd:dark∈ss) (hb:hp[b]?=some (.list (mvs bs))) (h4:hp[i4]?=some (.list (mvs rs))) (hz:bs.length+rs.length≤10000) (hN:1<N) (hpre:h<+:hp) (hB:Blk (·∈ss) L bs) (hR:Blk (·∈ss) 1 rs)
  (hq:∀h' i rows,h<+:h'→h'[i]?=some (.list (mvs rows))→Blk (·∈ss) (L+13) rows→Q (.ref i) h') :
  aD K N (bj.body.drop 3) (fin Q) (fun c m=>X c m.heap) ⟨[some (.ref r),some (.ref b),some (.int c),some (.str dark),some (.ref i4),none,none],hp⟩:=by
 obtain ⟨M,rfl,hM⟩:=room hN
 refine b8 hK ?_
 refine uR hK hr ten hd (Nat.succ_pos _) fun h1 q p1 o=>?_
 have p1:hp<+:h1:=p1
 have key:∀q:Rw,q.gp (·∈ss)→q.nest≤3→q.lines.length≤12→aD K (M+1) (bj.body.drop 5) (fin Q) (fun c m=>X c m.heap) ⟨[some (.ref r),some (.ref b),some (.int c),some (.str dark),some (.ref i4),some q.mv,none],h1⟩:=fun q h5 h6 h7=>
  Fp (ag p1 hb) (ag p1 h4) hz (hpre.trans p1) hB ⟨gV hR.gp ⟨h5,trivial⟩,dw hR.nest (mx0 (Nat.le_trans h6 (by decide))),by rw [fC,jf,List.length_append];have:=hR.len;exact n2 this h7 (by simp +arith only)⟩ hq
 have plain:=key q o.gp (Nat.le_trans o.nest (by decide)) (Nat.le_trans o.len (by decide))
 have wrap:∀n0∈ss,aD K (M+1) (bj.body.drop 5) (fin Q) (fun c m=>X c m.heap) ⟨[some (.ref r),some (.ref b),some (.int c),some (.str dark),some (.ref i4),some (Rw.ite (.op 61 (.nm n0) (.nm n0)) [q] [.skip]).mv,none],h1⟩:=fun n0 h0=>by
  refine key _ ⟨⟨⟨.inr (.inr (.inr (.inr (.inl rfl)))),h0,h0⟩,Nat.succ_le_succ (Nat.zero_le _)⟩,⟨o.gp,trivial⟩,trivial,trivial⟩ (Nat.succ_le_succ (mx (mx0 o.nest) (Nat.zero_le _))) ?_
  have:=o.len
  show ((_:Txt)::(lns [q]++nz::(lns [.skip]++[mQ]))).length≤12
  rw [List.length_cons,List.length_append,jf]
  show _+3+1≤12;exact n1 this (by simp +arith only)
 have wrapS:aD K (M+1) [.asg [5] false (.tup [.cst (.str [105,102]),.tup [.cst (.str [61]),.tup [.cst (.str [110,97,109,101]),.idx (.var 0) (.cst (.int 0))],.tup [.cst (.str [110,97,109,101]),.idx (.var 0) (.cst (.int 0))]],.tup [.var 5],.tup [.tup [.cst (.str [115,107,105,112])]]])] (fun f m=>match f with
   | .next=>aD K (M+1) (bj.body.drop 5) (fin Q) (fun c m=>X c m.heap) m
   | f=>fin Q f m) (fun c m=>X c m.heap) ⟨[some (.ref r),some (.ref b),some (.int c),some (.str dark),some (.ref i4),some q.mv,none],h1⟩:=by
  have hr1:=ag p1 hr
  have h0:0<ss.length:=n1 (Nat.le_of_eq ten.symm) (by simp +arith only)
  have e0:(ss.map MV.str)[0]?=some (.str ss[0]):=by rw [List.getElem?_map,ci h0];rfl
  have px:fc 0 (ss.map MV.str).length=some 0:=aU (by decide) (by rw [List.length_map];exact kN h0)
  refine Bw ?_
  refine af hr1 (aS px e0 ?_)
  refine af hr1 (aS px e0 ?_)
  exact wrap ss[0] (List.getElem_mem h0)
 conv=>whnf
 cases (c / 500 % 3==1) with
 | true=>exact wrapS
 | false=>
  conv=>whnf
  cases (c / 500 % 6==2) with
  | true=>exact wrapS
  | false=>exact plain
theorem D9 (hr:h[r]?=some (.list (ss.map .str))) (ten:ss.length=10) (hb:h[b]?=some (.list (mvs bs))) (hz:bs.length≤9000) (hN:2<N) (hB:Blk (·∈ss) L bs)
  (hq:∀h' i rows,h<+:h'→h'[i]?=some (.list (mvs rows))→Blk (·∈ss) (L+13) rows→Q (.ref i) h'):K N 124 [.ref r,.ref b,.int c] Q X h:=by
 obtain ⟨M,rfl,hM⟩:=room hN
 have p1:h<+:h++[MO.list []]:=aa (ai _)
 have e1:(h++[MO.list []])[h.length]?=some (.list []):=ac _ _
 have h24:0≤c / 24 % 5∧c / 24 % 5<5:=em rfl
 have h120:0≤c / 120 % 5∧c / 120 % 5<5:=em rfl
 refine hK _ _ _ _ _ _ bj rfl rfl ?_
 refine af hr ?_
 refine dg (k:=5+c / 24 % 5) ten (z1 h24.1 (by simp +arith only)) (z1 h24.2 (by simp +arith only)) fun dark hd=>?_
 conv=>whnf
 cases (c % 3==1) with
 | false=>exact te hK (rs:=[]) (ag p1 hr) ten hd (ag p1 hb) e1 (by show _+0≤_;exact Nat.le_trans hz (nb rfl)) hM p1 hB ⟨trivial,Nat.zero_le _,Nat.zero_le _⟩ hq
 | true=>
  refine aw (aK e1) ?_
  refine af (ag p1 hr) ?_
  refine dg (k:=5+c / 120 % 5) ten (z1 h120.1 (by simp +arith only)) (z1 h120.2 (by simp +arith only)) fun s hs=>?_
  refine bf (bc e1) ?_
  refine ⟨Nat.lt_of_lt_of_le (Nat.zero_lt_succ 0) (aZ (by decide)),?_⟩
  have p2:h<+:(h++[MO.list []]).set h.length (.list (mvs [.set s (.op 43 (.nm dark) (.num 1))])):=aJ p1 (Nat.le_refl _)
  refine af (ag p2 hr) ?_
  refine dg (k:=5+c / 120 % 5) ten (z1 h120.1 (by simp +arith only)) (z1 h120.2 (by simp +arith only)) fun s2 hs2=>?_
  exact te hK (rs:=[.set s (.op 43 (.nm dark) (.num 1))]) (ag p2 hr) ten hs2 (ag p2 hb) (get_set e1) (by show _+1≤_;exact n1 hz (by simp +arith only)) hM p2 hB ⟨⟨⟨hs,kK hd⟩,trivial⟩,Nat.zero_le _,Nat.le_refl _⟩ hq
end
theorem AO {is:List Int}{r:Nat}{ss:List Txt}{N:Nat}{Q:MV→List MO→Prop}{X:XT}{h:List MO}(hr:h[r]?=some (.list (ss.map .str))) (ten:ss.length=10) (gn:∀s∈ss,Gn s) (hN:11<N)
  (hq:∀h' i rows,h<+:h'→h'[i]?=some (.list (mvs rows))→Blk (·∈ss) 137 rows→Q (.ref i) h'):K N 125 [.scr is,.int 14,.int 38,.ref r] Q X h:=by
 obtain ⟨M,rfl,hM⟩:=room hN
 obtain ⟨M,rfl,hM⟩:=room hM
 refine hK _ _ _ _ _ _ jb rfl rfl ?_
 refine eu hK (by decide) ?_
 have ei:aL (is.map MV.int) (some 14) (some 38)=(aL is (some 14) (some 38)).map MV.int∧(aL is (some 14) (some 38)).length≤24:=by
  unfold aL
  dsimp only
  rw [List.length_map,je (by decide),je (by decide)]
  refine ⟨by rw [List.map_drop,List.map_take],?_⟩
  rw [List.length_drop,List.length_take]
  have e1:(14:Int).toNat=14:=rfl
  have e2:(38:Int).toNat=38:=rfl
  rw [e1,e2];lia
 obtain ⟨ei,el⟩:=ei
 conv=>whnf
 rw [ei]
 refine An hK (cells:=aL is (some 14) (some 38)) (ac _ _) (ah hr) ten gn (Nat.le_trans el (nb rfl)) (Nat.le_trans (nb rfl) hM) fun h2 i rows p2 e2 g2 n2 l2=>?_
 have p2:h<+:h2:=(aa (ai _)).trans p2
 have B:Blk (·∈ss) 124 rows:=⟨g2,n2,by lia⟩
 have B':Blk (·∈ss) 137 rows:=⟨g2,n2,Nat.le_trans B.len (by decide)⟩
 have lr:=kD rows
 have more:∀{Q':Fl→MS→Prop},(∀h' i,h<+:h'→(∃rows,h'[i]?=some (.list (mvs rows))∧Blk (·∈ss) 137 rows)→∀vars,Q' (.ret (.ref i)) ⟨vars,h'⟩)→aD K (M+1) [.asg [6] false (.bin .add (.bin .add (.bin .fdiv (.var 4) (.cst (.int 4))) (.bin .mul (.cst (.int 1009)) (.bin .mod (.call 5 [.var 0,.cst (.int 0)]) (.bin .pow (.cst (.int 10)) (.cst (.int 6)))))) (.bin .mul (.cst (.int 31)) (.bin .mod (.call 5 [.var 0,.cst (.int 1)]) (.bin .pow (.cst (.int 10)) (.cst (.int 6)))))),.ret (.call 124 [.var 3,.var 5,.call 6 [.call 6 [.var 6]]])] Q' (fun c m=>X c m.heap) ⟨[some (.scr is),some (.int 14),some (.int 38),some (.ref r),some (.int (cell is 2)),some (.ref i),none],h2⟩:=fun {Q'} hq'=>by
  refine eu hK (by decide) ?_
  refine ⟨.inl (by unfold dT;decide),?_⟩
  refine eu hK (by decide) ?_
  refine ⟨.inl (by unfold dT;decide),?_⟩
  refine b8 hK ?_
  refine b8 hK ?_
  refine D9 hK (ag p2 hr) ten e2 (by have:=B.len;lia) (Nat.le_trans (nb rfl) hM) B fun h3 i3 rows3 p3 e3 B3=>?_
  exact hq' h3 i3 (List.IsPrefix.trans p2 p3) ⟨rows3,e3,B3⟩ _
 have last:∀h' i,h<+:h'→(∃rows,h'[i]?=some (.list (mvs rows))∧Blk (·∈ss) 137 rows)→Q (.ref i) h':=fun h' i p ⟨rows,e,b⟩=>hq h' i rows p e b
 conv=>whnf
 cases (cell is 2 % 4==1) with
 | true=>exact more fun h' i p e _=>last h' i p e
 | false=>
  conv=>whnf
  cases (cell is 2 % 4==2) with
  | true=>exact more fun h' i p e _=>last h' i p e
  | false=>exact last h2 i p2 ⟨rows,e2,B'⟩
end Internal
end
section
namespace Internal
noncomputable def AP:Option MV→Int
 | some (.int v)=>v
 | _=>0
noncomputable def jR (T:List Txt) (es:ES):PI:=T.map fun n=>(n,AP (aE es n))
theorem kM (T:List Txt) (es:ES):(jR T es).map (·.1)=T:=by
 unfold jR;rw [List.map_map];exact List.map_id _
theorem qh {es:ES}:∀{T:List Txt},(∀s∈T,∃v,aE es s=some (.int v)∧In6 v)→d8 T es=(jR T es).map prM
 | [],_=>rfl
 | s::T,h=>by
  obtain ⟨v,e,_⟩:=h s (.head _)
  show MV.tup [.str s,(aE es s).getD (.int 0)]::d8 T es=prM (s,AP (aE es s))::(jR T es).map prM
  rw [e,qh fun x hx=>h x (.tail _ hx)];rfl
theorem yl {S:Txt→Prop}{es es':ES}(h:Lw S es es'):∀(T:List Txt),opn S (jR T es)=opn S (jR T es')
 | []=>rfl
 | s::T=>by
  have ih:=yl h T
  show ((s,AP (aE es s))::jR T es).filter _=((s,AP (aE es' s))::jR T es').filter _
  by_cases hs:S s
  ·have k:kd S s=kJ:=if_pos hs
   rw [List.filter_cons_of_neg (by rw [k];decide),List.filter_cons_of_neg (by rw [k];decide)]
   exact ih
  ·rw [h s hs,List.filter_cons,List.filter_cons]
   show (if _ then _::opn S (jR T es) else opn S (jR T es))=(if _ then _::opn S (jR T es') else opn S (jR T es'))
   rw [ih]
theorem iH {es:ES}:∀{T:List Txt}{n:Txt},n∉T→aE (bI es T) n=none
 | [],_,_=>rfl
 | s::T,n,h=>by
  show (match s==n with | true=>some _ | false=>aE (bI es T) n)=none
  rw [show (s==n)=false from beq_eq_false_iff_ne.mpr fun e=>h (e▸.head _)]
  exact iH fun q=>h (.tail _ q)
theorem Bz {es:ES}{n:Txt}(h:n∉es.map (·.1)):aE es n=none:=by
 cases e:aE es n with
 | none=>rfl
 | some v=>exact absurd (List.mem_map.mpr ⟨_,p8 e,rfl⟩) h
theorem ym {A B:List Txt}{fl:List Flw}{T:List Txt}{e1 e2:ES}(V1:dQ e1 (A++B)) (V2:dQ e2 (A++B)) (hA:∀x∈A,aE e2 x=aE e1 x):Lw (Rch A B fl) (bI e1 T) (bI e2 T):=fun n hn=>by
 by_cases hT:n∈T
 ·have key:aE e1 n=aE e2 n:=by
   by_cases h1:n∈A
   ·exact (hA n h1).symm
   ·have h2:n∉B:=fun q=>hn (.base q)
    have h3:n∉A++B:=fun q=>(List.mem_append.mp q).elim h1 h2
    rw [Bz (V1.keys▸h3),Bz (V2.keys▸h3)]
  unfold bI
  rw [mD (f:=fun n=>(aE e1 n).getD (.int 0)) hT,mD (f:=fun n=>(aE e2 n).getD (.int 0)) hT,key]
 ·rw [iH hT,iH hT]
variable {K:KT}(hK:aF PP K)
include hK
theorem oQ {i d t:Nat}{A B:List Txt}{rows:List Rw}{es:ES}{s':St}{o:Option bR}{N:Nat}{Q:MV→List MO→Prop}{X:XT}{h:List MO}(hp:bn h i A B rows) (F:LF A B rows) (hd:h[d]?=some (.dict es)) (V:dQ es (A++B)) (ht:t≤450) (he:Ev 1 rows ⟨bI es (aC (av A B rows)),t,[]⟩ s' o) (hN:60<N)
  (hq:∀h' r y,h<+:h'→h'[r]?=some (.list ((jR (aC (av A B rows)) s'.es).map prM))→h'[y]?=some (.list (s'.said.map .int))→Q (.tup [.str (Aw o),.int (Ax o),.ref r,.ref y]) h'):K N 87 [.inst 0 i,.ref d,.int t] Q X h:=by
 have hG:bk (bI es (aC (av A B rows))) (·∈aC (av A B rows)):=V.good
 have hok:du (·∈aC (av A B rows)) rows:=fD rows 1 [] F.g fun x hx=>aA.mpr (List.mem_append_right _ hx)
 have g:=((cO (·∈aC (av A B rows)) 400).2 he hok F.sz hG).good
 refine Fh hK hp (Nat.le_trans F.len (nb rfl)) hd V ht F.g F.sz rfl F.few F.ne he hN fun h' r y p _ _ _ e1 e2=>hq h' r y p ?_ e2
 rw [←qh g];exact e1
theorem yn {is:List Int}{i d1 d2:Nat}{A B:List Txt}{rows:List Rw}{e1 e2:ES}{v1 v2 v3 v4 v6 v9:Option MV}{h:List MO}(hp:bn h i A B rows) (F:LF A B rows) (h1:h[d1]?=some (.dict e1)) (h2:h[d2]?=some (.dict e2)) (V1:dQ e1 (A++B)) (V2:dQ e2 (A++B)) (hA:∀x∈A,aE e2 x=aE e1 x) (hD:D2 A B rows) :
  aD K 600 (b0.body.drop 11) (fin fun v _=>v=.bool true) (fun _ _=>False) ⟨[some (.scr is),v1,v2,v3,v4,some (.inst 0 i),v6,some (.ref d1),some (.ref d2),v9,none,none],h⟩:=by
 refine eu hK (by decide) ?_
 have h26:0≤cell is 13 % 26∧cell is 13 % 26<26:=em rfl
 show aD K 600 (b0.body.drop 12) (fin fun v _=>v=.bool true) (fun _ _=>False) ⟨[some (.scr is),v1,v2,v3,v4,some (.inst 0 i),v6,some (.ref d1),some (.ref d2),v9,some (.int (cell is 13 % 26)),none],h⟩
 generalize cell is 13 % 26=tt at h26
 obtain ⟨t,rfl⟩:=Int.eq_ofNat_of_zero_le h26.1
 obtain ⟨s',o,ev1,_⟩:=rE rows 1 ⟨bI e1 (aC (av A B rows)),t,[]⟩
 have hok:du (·∈aC (av A B rows)) rows:=fD rows 1 [] F.g fun x hx=>aA.mpr (List.mem_append_right _ hx)
 obtain ⟨z',ev2,al⟩:=x3 (s:=⟨bI e1 (aC (av A B rows)),t,[]⟩) (z:=⟨bI e2 (aC (av A B rows)),t,[]⟩) hD hok V1.good V2.good ⟨rfl,rfl,ym V1 V2 hA⟩ ev1
 have ht:t≤450:=by lia
 refine oQ hK hp F h1 V1 ht ev1 (by decide) fun h3 r3 y3 p3 a3 b3=>?_
 have p3:h<+:h3:=p3
 refine oQ hK (hp.up p3) F (ag p3 h2) V2 ht ev2 (by decide) fun h4 r4 y4 p4 a4 b4=>?_
 have p4:h3<+:h4:=p4
 have p34:=p3.trans p4
 rw [al.said] at b4
 refine qe hK (hp.up p34) F (ag p4 a3) a4 (ag p4 b3) b4 (kM _ _) (kM _ _) (yl al.es _) (by decide) fun h5 p5=>?_
 have p5:h4<+:h5:=p5
 have p35:=p34.trans p5
 refine oQ hK (hp.up p35) F (ag p35 h1) V1 ht ev1 (by decide) fun h6 r6 y6 p6 a6 b6=>?_
 have p6:h5<+:h6:=p6
 have p36:=(p4.trans p5).trans p6
 exact qe hK (hp.up (p35.trans p6)) F a6 (ag p36 a3) b6 (ag p36 b3) (kM _ _) (kM _ _) rfl (by decide) fun _ _=>rfl
end Internal
end
section
namespace Internal
theorem qi:∀{es:ES}{x:Txt}{v:MV}{e:Txt × MV},e∈bA es x v→e.2=v∨e∈es
 | [],x,v,e,h=>.inl (by rw [List.mem_singleton.mp (show e∈[(x,v)] from h)])
 | (a,w)::es,x,v,e,h=>by
  have h:e∈(match a==x with | true=>(a,v)::es | false=>(a,w)::bA es x v:ES):=h
  cases q:a==x with
  | true=>
   rw [q] at h
   rcases List.mem_cons.mp h with rfl | h
   ·exact .inl rfl
   ·exact .inr (.tail _ h)
  | false=>
   rw [q] at h
   rcases List.mem_cons.mp h with rfl | h
   ·exact .inr (.head _)
   ·exact (qi h).elim .inl fun h=>.inr (.tail _ h)
theorem dQ.at_ {es:ES}{ns:List Txt}(V:dQ es ns) {x:Txt}(hx:x∈ns):∃k,aE es x=some (.int k)∧In6 k:=by
 obtain ⟨v,h1,h2⟩:=mC (es:=es) (k:=x) (by rw [V.keys];exact hx)
 obtain ⟨k,h3,h4⟩:=V.vals _ h2
 obtain rfl:v=.int k:=h3
 exact ⟨k,h1,h4⟩
theorem dQ.put {es:ES}{ns:List Txt}(V:dQ es ns) {x:Txt}(hx:x∈ns) {v:Int}(hv:In6 v):dQ (bA es x (.int v)) ns:=by
 obtain ⟨k,e,_⟩:=V.at_ hx
 refine ⟨(ey e).trans V.keys,fun q hq=>?_⟩
 rcases qi hq with h | h
 ·exact ⟨v,h,hv⟩
 ·exact V.vals q h
theorem dQ.len {es:ES}{ns:List Txt}(V:dQ es ns):es.length=ns.length:=by rw [←V.keys,List.length_map]
structure Pre (A B:List Txt) (rows:List Rw) (h:List MO) (i rp ra rb d1:Nat) (e1:ES):Prop where
 pg:bn h i A B rows
 p:h[rp]?=some (.list [.ref ra,.ref rb])
 a:h[ra]?=some (.list (A.map .str))
 b:h[rb]?=some (.list (B.map .str))
 d:h[d1]?=some (.dict e1)
 v:dQ e1 (A++B)
variable {K:KT}(hK:aF PP K)
include hK
section
variable {is:List Int}{i rp ra rb d1 d2:Nat}{A B:List Txt}{rows:List Rw}{e1:ES}{v1 v2 v4 v6 v9:Option MV}{h:List MO}(P0:Pre A B rows h i rp ra rb d1 e1) (F:LF A B rows) (hd:h.length≤d2) (hD:D2 A B rows)
include P0 F hd hD
theorem Ea {hp:List MO}{e2:ES}(hpre:h<+:hp) (h2:hp[d2]?=some (.dict e2)) (V2:dQ e2 (A++B)) :
  aD K 600 (b0.body.drop 10) (fin fun v _=>v=.bool true) (fun _ _=>False) ⟨[some (.scr is),v1,v2,some (.ref rp),v4,some (.inst 0 i),v6,some (.ref d1),some (.ref d2),v9,none,none],hp⟩:=by
 have len:=F.len
 refine af (ag hpre P0.p) ?_
 refine aM (aH (ag hpre P0.a)) ?_
 refine fz (fun j w hp e2=>⟨[some (.scr is),v1,v2,some (.ref rp),v4,some (.inst 0 i),v6,some (.ref d1),some (.ref d2),w,none,none],hp⟩) (fun j w hp e2=>A4 (h<+:hp) (hp[d2]?=some (.dict e2)) (dQ e2 (A++B)) (∀x∈A.take j,aE e2 x=aE e1 x)) _ _ e2 rfl ⟨hpre,h2,V2,fun x hx=>by rw [List.take_zero] at hx;exact aX hx⟩ (fun _ _ _ _ hI=>ag hI.h1 P0.a) (fun j y w hp e2 P hy hI hn _=>?_) (fun w hp e2 hI=>?_)
 ·obtain ⟨q1,q2,q3,q4⟩:=hI
  obtain ⟨x,hx,rfl⟩:=Option.map_eq_some_iff.mp (List.getElem?_map ..▸hy)
  have hm:x∈A++B:=List.mem_append_left _ (List.mem_of_getElem? hx)
  obtain ⟨k,e,hk⟩:=P0.v.at_ hm
  refine bw (ag q1 P0.d) (bN e ?_)
  refine bw q2 ?_
  refine ⟨by rw [q3.len,List.length_append];unfold line;lia,?_⟩
  refine hn _ _ (bA e2 x (.int k)) ⟨aJ q1 hd,get_set q2,q3.put hm hk,fun y hy=>?_⟩
  rw [jM]
  by_cases hyx:y=x
  ·rw [if_pos hyx,hyx,e]
  ·rw [if_neg hyx]
   rw [aq hx] at hy
   exact (List.mem_append.mp hy).elim (q4 y) fun h=>absurd (List.mem_singleton.mp h) hyx
 ·obtain ⟨q1,q2,q3,q4⟩:=hI
  rw [List.length_map,List.take_length] at q4
  exact yn hK (P0.pg.up q1) F (ag q1 P0.d) q2 P0.v q3 q4 hD
theorem Eb {hp:List MO}{e2:ES}(hpre:h<+:hp) (h2:hp[d2]?=some (.dict e2)) (V2:dQ e2 (A++B)) :
  aD K 600 (b0.body.drop 9) (fin fun v _=>v=.bool true) (fun _ _=>False) ⟨[some (.scr is),v1,v2,some (.ref rp),v4,some (.inst 0 i),v6,some (.ref d1),some (.ref d2),v9,none,none],hp⟩:=by
 have len:=F.len
 refine af (ag hpre P0.p) ?_
 refine aM (aH (ag hpre P0.b)) ?_
 refine fz (fun j w hp e2=>⟨[some (.scr is),v1,v2,some (.ref rp),v4,some (.inst 0 i),v6,some (.ref d1),some (.ref d2),w,none,none],hp⟩) (fun j w hp e2=>A3 (h<+:hp) (hp[d2]?=some (.dict e2)) (dQ e2 (A++B))) _ _ e2 rfl ⟨hpre,h2,V2⟩ (fun _ _ _ _ hI=>ag hI.h1 P0.b) (fun j y w hp e2 P hy hI hn _=>?_) (fun w hp e2 hI=>?_)
 ·obtain ⟨q1,q2,q3⟩:=hI
  obtain ⟨x,hx,rfl⟩:=Option.map_eq_some_iff.mp (List.getElem?_map ..▸hy)
  have hm:x∈A++B:=List.mem_append_right _ (List.mem_of_getElem? hx)
  obtain ⟨k,e,_⟩:=P0.v.at_ hm
  obtain ⟨k2,e',_⟩:=q3.at_ hm
  refine eu hK (by decide) ?_
  conv=>whnf
  cases decide (0<cell is 1 % 4) with
  | false=>exact hn _ _ _ ⟨q1,q2,q3⟩
  | true=>
   refine bw q2 (bN e' ?_)
   refine bw (ah (ag q1 P0.d)) (bN e ?_)
   refine af (ac _ _) ?_
   refine aS jd kC ?_
   have hsel:∃v,sel (k==0) (MV.int 0) (.int (1+k2 % 3))=.int v∧In6 v:=by
    have h3:0≤k2 % 3∧k2 % 3<3:=em rfl
    cases k==0 with
    | true=>exact ⟨_,rfl,z1 h3.1 (by simp +arith only),z1 h3.2 (by simp +arith only)⟩
    | false=>exact ⟨_,rfl,by decide,by decide⟩
   obtain ⟨v,ev,hv⟩:=hsel
   rw [ev]
   refine bw (ah q2) ?_
   refine ⟨by rw [q3.len,List.length_append];unfold line;lia,?_⟩
   exact hn _ _ (bA e2 x (.int v)) ⟨aJ (aa q1) hd,get_set (ah q2),q3.put hm hv⟩
 ·obtain ⟨q1,q2,q3⟩:=hI
  exact Ea hK P0 F hd hD q1 q2 q3
end
theorem AQ {is:List Int}{h:List MO}{rp ra rb:Nat}{A B:List Txt}{rows:List Rw}{v1 v2:Option MV}(F:LF A B rows) (hp:h[rp]?=some (.list [.ref ra,.ref rb])) (hA:h[ra]?=some (.list (A.map .str))) (hB:h[rb]?=some (.list (B.map .str))) (hz:(lns rows).length≤1000) :
  aD K 600 (b0.body.drop 4) (fin fun v _=>v=.bool true) (fun _ _=>False) ⟨[some (.scr is),v1,v2,some (.ref rp),some (.tup (mvs rows)),none,none,none,none,none,none,none],h⟩:=by
 have len:=F.len
 refine af hp ?_
 refine af hp ?_
 refine DD hK (h0:=h) (l:=true) (l':=true) (l'':=false) (A:=A) (B:=B) (rows:=rows) ⟨_,Nat.zero_le _,rfl,hA⟩ ⟨_,Nat.zero_le _,rfl,hB⟩ ⟨_,rfl,jg rows⟩ (fun s hs=>F.gn s (List.mem_append_left _ hs)) (fun s hs=>F.gn s (List.mem_append_right _ hs)) F.nd (Nat.le_trans len (nb rfl)) F.g F.ne (Nat.le_trans hz (nb rfl)) (by decide) fun h1 p1 pr=>?_
 have p1:h<+:h1:=p1
 refine yd hK (i:=h.length) pr F (by decide) (fun h2 p2 hD=>?_) fun h2 w j p2 L=>?_
 ·have q2:h1<+:h2:=p2
  have p2:h<+:h2:=p1.trans p2
  refine af (ag p2 hp) ?_
  refine af (ag p2 hp) ?_
  refine af (ag p2 hA) (af (ag p2 hB) ?_)
  refine ⟨bQ (Nat.le_trans len (nb rfl)),?_⟩
  refine sR hK (h:=h2++[MO.list (A.map .str++B.map .str)]) (a:=3) (N:=600) (ns:=A++B) (by decide) (b9 _ _ _) F.nd (by rw [List.length_append];exact Nat.le_trans len (nb rfl)) (by decide) fun h3 e1 p3 d3 V1=>?_
  have p3:h2<+:h3:=(aa (ai _)).trans p3
  have s3:=p2.trans p3
  refine af (ag s3 hp) ?_
  refine af (ag s3 hp) ?_
  refine af (ag s3 hA) (af (ag s3 hB) ?_)
  refine ⟨bQ (Nat.le_trans len (nb rfl)),?_⟩
  have P0:Pre A B rows (h3++[MO.list (A.map .str++B.map .str)]) h.length rp ra rb (h2++[MO.list (A.map .str++B.map .str)]).length e1:=⟨pr.up (aa (q2.trans p3)),ah (ag s3 hp),ah (ag s3 hA),ah (ag s3 hB),ah d3,V1⟩
  refine sR hK (h:=h3++[MO.list (A.map .str++B.map .str)]) (a:=9) (N:=600) (ns:=A++B) (by decide) (b9 _ _ _) F.nd (by rw [List.length_append];exact Nat.le_trans len (nb rfl)) (by decide) fun h4 e2 p4 d4 V2=>?_
  exact Eb hK P0 F (Nat.le_refl _) hD p4 d4 V2
 ·exact yh hK F L (by decide) fun _=>rfl
theorem Ec (is:List Int):aD K 600 b0.body (fin fun v _=>v=.bool true) (fun _ _=>False) (cE b0 [.scr is] []):=by
 refine eu hK (by decide) ?_
 refine eu hK (by decide) ?_
 refine z7 hK fun h1 r ss hpre hlen hr ten hs hnd hkw=>?_
 have gn:∀s∈ss,Gn s:=fun s h=>⟨hs s h,hkw s h⟩
 refine eu hK (by decide) ?_
 refine b8 hK ?_
 refine DT hK (h:=h1) (N:=600) hr (fun s h=>(hs s h).ok) (by decide) fun h2 i a b U V p2 e1 e2 e3 sU sV hno=>?_
 have p2:h1<+:h2:=p2
 refine eu hK (by decide) ?_
 refine b8 hK ?_
 have lU:=sU.length_le
 have lV:=sV.length_le
 rw [xV] at lU lV
 refine Az hK (h:=h2) (N:=600) (ag p2 hr) ten e1 e2 e3 lU lV (by decide) fun h3 rp ra rb A B A' B' p3 f1 f2 f3 pA pB sA sB=>?_
 have p3:h2<+:h3:=p3
 refine AO hK (h:=h3) (N:=600) (ag (p2.trans p3) hr) ten gn (by decide) fun h4 i4 rows p4 e4 Bk=>?_
 have p4:h3<+:h4:=p4
 refine af e4 ?_
 have hz:=e8 rows
 have bl:=Bk.len
 exact AQ hK (uN ten gn hnd sU sV hno pA pB sA sB Bk.gp Bk.nest (n2 bl hz (by simp +arith only))) (ag p4 f1) (ag p4 f2) (ag p4 f3) (Nat.le_trans bl (nb rfl))
end Internal
end
set_option tactic.hygienic true
set_option Elab.async false
set_option maxRecDepth 100000
set_option maxHeartbeats 8000000
open PySem PySem.W PyProof.Rows Internal
noncomputable def Internal.T11:gZ:=⟨Internal.tab,Internal.mtab,[(0,"Program",["opens","secrets","rows"]),(1,"Running",["numbers","turns","said"])],[],fun _=>false,Internal.gl⟩
theorem PySem.Challenge.cw_uf010009_11_holds : PySem.Challenge.rw_uf010009_11.Holds := by
 w_on
 refine holds_law (by decide +kernel) fun said=>?_
 refine holds_open (q:=Q11) (loose:=["MODULUS","THINGS"]) (Xt:=X11) (XP:=fun mg h=>XL Q11 Eh mg h∧fu [] mg h) (Yf:=mS "THINGS") (Ya:=oS uT) (YP:=jF "THINGS" uT Challenge.pw_uf010009_11) (N:=10000) BL (fun w s e=>E5 (by unfold line;decide) (by decide +kernel) e) (fun w h h' y k=>y.keeps k)
  (fun s e=>⟨xl_of s (Bool.and_eq_true_iff.mp e).1,rfl⟩) (fun mg h h' y k=>⟨XL.keeps mg h h' y.1 k,y.2.keeps k⟩) (by rfl) (by rfl) (by rfl) (fun s e=>recFacts_of (Bool.and_eq_true_iff.mp e).2) (by rfl) said (by decide +kernel) ⟨rfl,rfl,rfl,rfl,rfl,by decide +kernel⟩ ?hw ?hc
 case hw=>w_witness2
 intro w s₀ s₁ mg mb G Y fa o pm cd doc dV kV ho hd hcd hD hmg hg args vals as hpre hlay hrd hwl hlo
 have V:=(Ground.X G).1
 have XF:=(Ground.X G).2
 have T:=G.T
 have B:=G.B
 have TE:=G.TE
 clear hd hcd hD
 wrow_args hpre hlay hrd hwl hlo
 rename Well _ _ _ _=>hW
 rename IntsAre _ _=>hI
 rename Heap.IsList _ _ _=>hL
 rename (¬ _<_)=>hc
 have hct:pK (plainsOf Q11 (looseW Q11 ["MODULUS","THINGS"])) T11=true:=by decide +kernel
 obtain ⟨cm,hcm⟩:=E7 (t:=T11) TE hct
 refine xm (t:=T11) (prog:=PySem.Challenge.pw_uf010009_11) T TE XF hcm (f:=130) (x:="law") (d:=b0) ?zzimp ?zzchk ?zzmt hct ?zzblt ?zzhgl rfl hg rfl hmg rfl (Ds hW hL hI ?zzhz) (fun K hK=>Ec hK _) ?zzhQ
 case zzimp=>decide +kernel
 case zzchk=>decide +kernel
 case zzmt=>decide +kernel
 case zzblt=>decide +kernel
 case zzhz=>unfold line;lia
 case zzhgl=>
  intro g x v e
  replace e:Internal.gl g=some (x,v):=e
  unfold Internal.gl at e
  split at e
  ·cases e
   obtain ⟨u,h1,h2⟩:=V.2.val _ (List.mem_cons_self ..)
   refine ⟨u,h1,fun ρ h' _=>?_⟩
   cases h2
   exact .int _ _
  ·cases e;exact xq B (by decide +kernel) (by unfold line;decide)
  ·cases e;exact oj T (by decide +kernel)
  ·cases e;exact xq B (by decide +kernel) (by unfold line;decide)
  ·cases e;exact xp T (by decide +kernel) (by unfold line;decide)
  ·cases e;exact xp T (by decide +kernel) (by unfold line;decide)
  ·cases e;exact oj T (by decide +kernel)
  ·cases e;exact oj T (by decide +kernel)
  ·cases e;exact oj T (by decide +kernel)
  ·cases e;exact zZ T Y
  ·cases e
 case zzhQ=>
  intro s' h1 h2 h3
  refine GoodW.toG ⟨.inl ⟨_,.bool true,[],rfl,?_,?_,?_,?_⟩,h1,h2,h3⟩
  ·exact fun _=>rfl
  ·exact .bool _
  ·exact ug _ _ _
  ·exact fun _=>⟨List.nodup_nil,fun _ h=>by cases h⟩
