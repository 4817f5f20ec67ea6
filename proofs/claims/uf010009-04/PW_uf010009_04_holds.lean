import PyProof.Rows.All
import PyProof.Rules
import PyProof.Raises
import PyProof.Rules2
import PyProof.AssignAttr
import PyProof.FactsAll.list_3
import PyProof.FactsAll.dict_3
import PyProof.TupleIter
import PyProof.AutoSeq1
import PyProof.Rules3
import PyProof.SliceSyntax
import PyProof.ForAny
import PyProof.CallRoads
import PyProof.CallType
import PyProof.CallStr
import PyProof.Cells
import PyProof.StrLoop
import PyProof.StrWalks
import PyProof.CompFree
import PyProof.Conv_int
import PyProof.Conv_int_bool
import PyProof.MeetsSeq
import PyProof.DictKinds
import PyProof.MeetsDict
import PyProof.MeetsDictList
import PyProof.DictRoads
import PyProof.DictTruth
import PyProof.DictStraight
import PyProof.DictCopy
import PyProof.DictIter
import PyProof.EnumStmt
import PyProof.EqAt
import PyProof.P3Eq
import PyProof.NeData
import PyProof.ExcArgs
import PyProof.ExcClsAt2
import PyProof.ExcAttrAll.ValueError
import PyProof.ExcClass3
import PyProof.RaisesMany
import PyProof.StrLawsIn
import PyProof.SliceStr2
import PyProof.StrOps
import PyProof.StrOps2
import PyProof.StrBlock
import PyProof.StrLawsChain
import PyProof.WalksMore
import PyProof.RangeFor
import PyProof.InstStore
import PyProof.InstLoad
import PyProof.InstStoreFacts
import PyProof.IsInstance
import PyProof.IsiHeapPairs
import PyProof.IsiNone
import PyProof.IsiPairs
import PyProof.IsiSeqPairs
import PyProof.IsiTupleAll
import PyProof.ListCopy
import PyProof.ListIndexNeg
import PyProof.RulesAs
import PyProof.NsDelKeeps
import PyProof.ObjNew
import PyProof.Rows.TupAssign
import PyProof.Rows.TupSub
import PyProof.Rows.TupIn
import PyProof.WalksPairs
import PyProof.StrCalls2
import PyProof.Rows.StrJoin2
import PyProof.Rows.StrSplitAre
import PyProof.Rows.Many
import PyProof.Rows.Exc
import PyProof.Rows.StrBin
import PyProof.Rows.AttrNode
import PyProof.Rows.RuleU_int
import PyProof.Rows.RuleB_mul
import PyProof.Rows.RuleB_sub
import PyProof.Rows.RuleB_pow
import PyProof.Rows.FactsT1
import PyProof.WalksEnum
import PyProof.Rows.RuleB_floordiv
import PyProof.Rows.RuleB_mod
import PyProof.StrCalls3
import PyProof.Rows.Method
import PyProof.Rows.StrTemp
import PyProof.Rows.ListMul
import PyProof.Rows.RuleB_small
import PyProof.Rows.RuleC_int
import PyProof.TupleOps
import PyProof.SliceMore
import PyProof.StrLawsTight
import PyProof.RulesDelMore
import PyProof.Rows.SeqMore
import PyProof.Rows.TupAdd
import PyProof.TupleOfSeq
import PyProof.Rows.ReprOcc
import PyProof.Rows.PlainObj
import PyProof.Rows.SortStr
import Wide.Well
import Wide.Loose
import Open.Row
import Open.Line
import Open.Boot
import Open.Tree
import KE.IntTextText
import KE.KItem
import KE.KDictOf
import PySem.Challenge.RW_uf010009_04
set_option Elab.async false
set_option genSizeOf false
set_option genInjectivity false
set_option bootstrap.genMatcherCode false
set_option autoImplicit false
set_option linter.unusedVariables false
set_option tactic.hygienic false
set_option backward.match.sparseCases false
section
namespace Internal
noncomputable def useD:Bool:=false
noncomputable def useRep:Bool:=true
noncomputable def useTS:Bool:=false
noncomputable def useLS:Bool:=true
noncomputable def useLD:Bool:=false
noncomputable def usePD:Bool:=false
noncomputable def useAll:Bool:=false
noncomputable def useMM:Bool:=false
noncomputable def useSum:Bool:=false
noncomputable def useRev:Bool:=false
noncomputable def useSrt:Bool:=false
noncomputable def usePop:Bool:=true
noncomputable def useSplit:Bool:=true
noncomputable def useR2:Bool:=false
noncomputable def useX:Bool:=true
end Internal
end
section
namespace Internal
open PySem
noncomputable abbrev str (s:List Nat):Str:=⟨s.toArray⟩
noncomputable def entryV (e:DictEntry):Option (Int × Str × Int):=match e.key with
 | .str k _=>match e.val with
  | .int i _=>some (e.hash,k,i)
  | _=>none
 | _=>none
noncomputable def entriesV:List DictEntry→Option (List (Int × Str × Int))
 | []=>some []
 | e::es=>match entryV e with
  | some x=>match entriesV es with
   | some xs=>some (x::xs)
   | none=>none
  | none=>none
noncomputable def thObs (x:Str) (s:Shared):Option (List (Int × Str × Int)):=match s.heap.nsMap mainGlobals x with
 | some (.ref a)=>match s.heap.get? a with
  | some o=>match o.data with
   | .dict es _=>match (a != sysModules&&o.cls==.type "dict"&&o.dict.isNone&&o.slots.size==0&&s.heap.isNs mainGlobals) with
    | true=>entriesV es.toList
    | false=>none
   | _=>none
  | none=>none
 | _=>none
noncomputable def thVal (es:List (List Nat × Int)) (w:World):Option (List (Int × Str × Int)):=some (es.map fun p=>(hashStr w (str p.1),str p.1,p.2))
end Internal
end
section
namespace Internal
open PySem
noncomputable def vErr:List Value:=[.type "ValueError",.type "Exception",.type "BaseException",.type "object"]
noncomputable def xQuiet:List Str:=["__init__","__getattribute__","__getattr__","__class__"]
noncomputable def xqOk (h:Heap) (n:Str):Bool:=match h.clsAt mainGlobals n with
 | some (_,_,cd)=>xQuiet.all fun x=>(h.nsMap cd.ns x).isNone
 | none=>false
noncomputable def x1Ok (h:Heap) (chain:List Str) (n:Str):Bool:=h.ownExcOk n chain vErr "ValueError.__new__"&&xqOk h n
noncomputable def xOk (b:Str) (r:List Str) (h:Heap):Bool:=x1Ok h [] b&&r.all (x1Ok h [b])&&decide (((b::r).map (h.nsMap mainGlobals)).Nodup)
end Internal
end
section
set_option maxRecDepth 100000
namespace Internal
open PySem PySem.W
noncomputable def topRunT (tb:String→Option Builtin) (p:Program) (w:World) (n₀:Nat) (ann:Option Value):Nat→SharedT→Thread→Option SharedT
 | 0,_,_=>none
 | n+1,s,t=>match through t with
  | true=>some s
  | false=>match stepOk n₀ ann t with
   | false=>none
   | true=>match stepT (denote tb) p w s t with
    | some (s',t')=>topRunT tb p w n₀ ann n s' t'
    | none=>none
theorem topRun_of {tb:String→Option Builtin}{p:Program}{w:World}{n₀:Nat}{ann:Option Value}{n:Nat}{s s':SharedT}{t:Thread}(h:topRunT tb p w n₀ ann n s t=some s'):topRun tb p w n₀ ann n s.abs t=some s'.abs:=by
 induction n generalizing s t with
 | zero=>cases h
 | succ n ih=>
  unfold topRunT at h
  unfold topRun
  cases he:through t with
  | true=>rw [he] at h;cases h;rfl
  | false=>
   rw [he] at h
   cases hk:stepOk n₀ ann t with
   | false=>rw [hk] at h;cases h
   | true=>
    rw [hk] at h
    cases hs:stepT (denote tb) p w s t with
    | none=>rw [hs] at h;cases h
    | some r=>obtain ⟨s₂,t₂⟩:=r;rw [hs] at h;rw [stepT_spec hs];exact ih h
noncomputable def treeGo:List Obj→Nat→BT→BT
 | [],_,t=>t
 | o::l,n,t=>treeGo l (n+1) (t.ins n o)
noncomputable def bootT (P:Params):BT:=treeGo (boot_heap P).objs.toList 0 .nil
noncomputable def sT (P:Params) (os:OsState):SharedT:=⟨bootT P,(boot_heap P).objs.size,(boot_heap P).life,Array.mk [],boot_drawn,boot_toks,os⟩
theorem sT_abs (P:Params) (os:OsState):(sT P os).abs=⟨boot_heap P,Array.mk [],boot_drawn,boot_toks,os⟩:=by kernel_rfl
theorem boot_ns (P:Params):(boot_heap P).isNs mainGlobals=true:=by kernel_rfl
noncomputable def topT (p:Program) (N:Nat) (w:World) (os:OsState):Option SharedT:=
 (topRunT treeTable p w (boot_heap w.params).objs.size ((boot_heap w.params).nsMap mainGlobals "__annotations__") N (sT w.params os) (topStub p)).bind fun s₁=>
  match staticsOk (importedModules p.main.body) (boot_heap w.params) s₁.abs.heap&&namesBound p s₁.abs.heap&&gensDone s₁.abs&&laidKept (boot_heap w.params) s₁.abs.heap with
   | true=>some s₁
   | false=>none
theorem topT_is {p:Program}{N:Nat}{w:World}{os:OsState}{s₁:SharedT}(h:topT p N w os=some s₁):topFrom treeTable p w N ⟨boot_heap w.params,Array.mk [],boot_drawn,boot_toks,os⟩=some s₁.abs:=by
 obtain ⟨s,h1,h2⟩:=Option.bind_eq_some_iff.mp h
 have h1:=topRun_of h1
 rw [sT_abs] at h1
 unfold topFrom
 show (match (boot_heap w.params).isNs mainGlobals&&true with
  | true=>(topRun treeTable p w (boot_heap w.params).objs.size ((boot_heap w.params).nsMap mainGlobals "__annotations__") N ⟨boot_heap w.params,Array.mk [],boot_drawn,boot_toks,os⟩ (topStub p)).bind _
  | false=>none)=_
 rw [boot_ns,h1]
 show (match staticsOk (importedModules p.main.body) (boot_heap w.params) s.abs.heap&&namesBound p s.abs.heap&&gensDone s.abs&&laidKept (boot_heap w.params) s.abs.heap with
   | true=>some s.abs
   | false=>none)=_
 cases hb:(staticsOk (importedModules p.main.body) (boot_heap w.params) s.abs.heap&&namesBound p s.abs.heap&&gensDone s.abs&&laidKept (boot_heap w.params) s.abs.heap) with
 | true=>rw [hb] at h2;cases h2;rfl
 | false=>rw [hb] at h2;cases h2
theorem left_tree {p q:Program}{loose:List Str}{Xt:Shared→Bool}{N:Nat}{α:Type}{Yf:Shared→α}{Ya:World→α}(e:opening p=plainProg p.main.scope.names) (hN:Nat.ble 600 N=true) (f:∀s,fenceModules? p s=some s)
  (h:∀(w:World) (os:OsState),(topT p N w os).map (fun s=>(openSeen q loose (importedModules p.main.body) Xt true s.abs,Yf s.abs))=some (openGood q loose,Ya w)):LeftO p q loose Xt Yf Ya N:=fun w=>by
 obtain ⟨s₀,h0,hv⟩:=Option.map_eq_some_iff.mp (boot_open e hN f w)
 obtain ⟨hp,gens,drawn,toks,os⟩:=s₀
 obtain ⟨e1,hv⟩:=Prod.mk.inj hv
 obtain ⟨e2,hv⟩:=Prod.mk.inj hv
 obtain ⟨e3,e4⟩:=Prod.mk.inj hv
 dsimp only at e1 e2 e3 e4
 subst e1 e2 e3 e4
 obtain ⟨s₁,h1,h2⟩:=Option.map_eq_some_iff.mp (h w os)
 unfold openEnds
 rw [h0]
 show (topFrom treeTable p w N _).map _=_
 rw [topT_is h1]
 show some (openSeen q loose (importedModules p.main.body) Xt true s₁.abs,Yf s₁.abs)=some _
 rw [h2]
end Internal
end
section
set_option maxHeartbeats 0
set_option maxRecDepth 100000
set_option Elab.async false
namespace Internal
open PySem PySem.W
noncomputable def Q4:Program:=PySem.W.view Challenge.pw_uf010009_04 [1,2,3,4,5,6,7,8,10,11,12,13,14,15,16,17,18,19,21,22,23,25,26,27,28,29,30,31,32,33,34,35,37,38,39,40,41,42,43,44,45,46,47,48,49,50,51,52,53,54,55,56]
noncomputable def lv4:List (Str × WData):=[("MODULUS",WData.int 1000000)]
noncomputable def xr4:List Str:=["NoName","Twice","NoRow","TooDeep","NoValues","NoTurns","NoLine"]
noncomputable def X4:Shared→Bool:=fun s=>(xlAt Q4 lv4 s&&xOk "HushError" xr4 s.heap)&&recOk (RowW.records Challenge.rw_uf010009_04.row.toRowW) s
noncomputable abbrev seen4 (s:SharedT):=(openSeen Q4 ["MODULUS"] (importedModules Challenge.pw_uf010009_04.main.body) X4 true s.abs,())
theorem look0:∀(w:World) (os:OsState),(topT Challenge.pw_uf010009_04 6000 (w.withFollow "special-get-raises" false) os).map seen4=some (openGood Q4 ["MODULUS"],()):=by
 intro w os;kernel_rfl
theorem look1:∀(w:World) (os:OsState),(topT Challenge.pw_uf010009_04 6000 (w.withFollow "special-get-raises" true) os).map seen4=some (openGood Q4 ["MODULUS"],()):=by
 intro w os;kernel_rfl
theorem open4:opening Challenge.pw_uf010009_04=plainProg Challenge.pw_uf010009_04.main.scope.names:=by kernel_rfl
theorem fence4 (s:Shared):fenceModules? Challenge.pw_uf010009_04 s=some s:=by kernel_rfl
theorem left4:LeftO Challenge.pw_uf010009_04 Q4 ["MODULUS"] X4 (fun _=>()) (fun _=>()) 6000:=
 left_tree open4 rfl fence4 (byRow2 "special-get-raises" (P:=fun w=>∀os:OsState,(topT Challenge.pw_uf010009_04 6000 w os).map seen4=some (openGood Q4 ["MODULUS"],())) look0 look1)
end Internal
end
section
namespace Internal
theorem same {α:Type _}{x:Option α}{a b:α}(h:x=some a) (k:x=some b):a=b:=Option.some.inj (h.symm.trans k)
theorem nosome {α:Type _}{x:Option α}{a:α}{P:Prop}(h:x=none) (k:x=some a):P:=by cases h.symm.trans k
theorem nos1 {α:Type _}{a:α}{P:Prop}(h:none=some a):P:=by cases h
theorem nos2 {α:Type _}{a:α}{P:Prop}(h:some a=none):P:=by cases h
theorem ff {P:Prop}(h:false=true):P:=Bool.noConfusion h
theorem tf {P:Prop}(h:true=false):P:=Bool.noConfusion h
theorem nomem {α:Type _}{a:α}{P:Prop}(h:a∈([]:List α)):P:=(List.not_mem_nil h).elim
theorem n1 {a b c d:Nat}(h:a≤b) (e:c+b≤d+a):c≤d:=Nat.le_of_add_le_add_right (Nat.le_trans e (Nat.add_le_add_left h d))
theorem n2 {a b a' b' c d:Nat}(h:a≤b) (h':a'≤b') (e:c+(b+b')≤d+(a+a')):c≤d:=n1 (Nat.add_le_add h h') e
theorem n3 {a b a' b' a2 b2 c d:Nat}(h:a≤b) (h':a'≤b') (h2:a2≤b2) (e:c+(b+(b'+b2))≤d+(a+(a'+a2))):c≤d:=n2 h (Nat.add_le_add h' h2) e
theorem z1 {a b c d:Int}(h:a≤b) (e:c+b≤d+a):c≤d:=Int.le_of_add_le_add_right (Int.le_trans e (Int.add_le_add_left h d))
theorem z2 {a b a' b' c d:Int}(h:a≤b) (h':a'≤b') (e:c+(b+b')≤d+(a+a')):c≤d:=z1 (Int.add_le_add h h') e
theorem z3 {a b a' b' a2 b2 c d:Int}(h:a≤b) (h':a'≤b') (h2:a2≤b2) (e:c+(b+(b'+b2))≤d+(a+(a'+a2))):c≤d:=z2 h (Int.add_le_add h' h2) e
theorem mx {a b c:Nat}(h:a≤c) (k:b≤c):max a b≤c:=Nat.max_le.mpr ⟨h,k⟩
theorem mx0 {a c:Nat}(h:a≤c):max a 0≤c:=mx h (Nat.zero_le _)
theorem m0x {a c:Nat}(h:a≤c):max 0 a≤c:=mx (Nat.zero_le _) h
theorem lk {a b c:Nat}(h:a≤b) (k:Nat.ble b c=true):a≤c:=Nat.le_trans h (Nat.le_of_ble_eq_true k)
theorem m3l {a b c N:Nat}(h:3 * max a b+c<N):3 * a+c<N:=Nat.lt_of_le_of_lt (Nat.add_le_add_right (Nat.mul_le_mul_left 3 (Nat.le_max_left a b)) c) h
theorem m3r {a b c N:Nat}(h:3 * max a b+c<N):3 * b+c<N:=Nat.lt_of_le_of_lt (Nat.add_le_add_right (Nat.mul_le_mul_left 3 (Nat.le_max_right a b)) c) h
theorem dn {d k:Int}{n:Nat}(h:d+n≤k):¬ k<d:=Int.not_lt.mpr (Int.le_trans (Int.le_add_of_nonneg_right (Int.natCast_nonneg _)) h)
theorem dl {d k:Int}{a b:Nat}(h:d+((max a b+1:Nat):Int)≤k):d+1+a≤k∧d+1+b≤k:=by lia
theorem snd_pos {n k i:Nat}(h:n-i=k+1):n-(i+1)=k:=by rw [Nat.sub_succ,h];rfl
theorem nb {a b:Nat}(h:Nat.ble a b=true):a≤b:=Nat.le_of_ble_eq_true h
theorem nf {P:Prop}(h:1≤0):P:=absurd h (Nat.not_succ_le_self 0)
theorem zf {P:Prop}(h:(1:Int)≤0):P:=absurd h (by decide)
theorem em0 {x k:Int}(h:decide (0<k)=true):0≤x % k:=Int.emod_nonneg _ (Int.ne_of_gt (of_decide_eq_true h))
theorem em2 {x k K:Int}(h:(decide (0<k)&&decide (k≤K))=true):x % k<K:=by
 obtain ⟨h1,h2⟩:=Bool.and_eq_true_iff.mp h
 exact Int.lt_of_lt_of_le (Int.emod_lt_of_pos _ (of_decide_eq_true h1)) (of_decide_eq_true h2)
theorem em {x k K:Int}(h:(decide (0<k)&&decide (k≤K))=true):0≤x % k∧x % k<K:=⟨em0 (Bool.and_eq_true_iff.mp h).1,em2 h⟩
theorem emN {x k:Int}{n:Nat}(h:(decide (0<k)&&decide (k≤(n:Int)))=true):(x % k).toNat<n:=(Int.toNat_lt (em0 (Bool.and_eq_true_iff.mp h).1)).mpr (em2 h)
theorem sb {n k:Nat}(h:k≤n):n=n-k+k:=(Nat.sub_add_cancel h).symm
theorem cpos {n:Nat}(h:0<n):(0:Int)<n:=Int.natCast_pos.mpr h
theorem cne {n:Nat}(h:0<n):(n:Int)≠0:=Int.ne_of_gt (cpos h)
theorem tn {k:Int}{n:Nat}(h0:0≤k) (h:k<n):k.toNat<n:=(Int.toNat_lt h0).mpr h
set_option genCtorIdx false in
inductive MV where
 | none | bool (b:Bool) | int (i:Int) | str (s:List Nat) | tup (xs:List MV) | ref (i:Nat) | inst (c i:Nat) | scr (is:List Int) | gt (ss:List (List Nat)) | cdict (es:List (List Nat × Int))
gen_injective_theorems% MV
set_option genCtorIdx false in
inductive MO where
 | list (xs:List MV) | dict (es:List (List Nat × MV)) | attrs (es:List (List Nat × MV)) | exc (c:Nat)
gen_injective_theorems% MO
set_option genCtorIdx false in
structure MS where
 vars:List (Option MV)
 heap:List MO
set_option genCtorIdx false in
inductive Fl where
 | next | brk | cont | ret (v:MV)
gen_injective_theorems% Fl
noncomputable abbrev XT:=Nat→List MO→Prop
noncomputable abbrev XM:=Nat→MS→Prop
noncomputable abbrev KT:=Nat→Nat→List MV→(MV→List MO→Prop)→XT→List MO→Prop
set_option genCtorIdx false in
inductive Op where
 | add | sub | mul | fdiv | mod | pow (u:Unit:=())
gen_injective_theorems% Op
set_option genCtorIdx false in
inductive Cmp where
 | eq | ne | lt | le | gt | ge | inn | nin (u:Unit:=())
gen_injective_theorems% Cmp
set_option genCtorIdx false in
inductive Bi where
 | len | int | str | list | tuple | dict | sortedSet | sorted | sum | min | max | all | listRev (u:Unit:=())
gen_injective_theorems% Bi
set_option genCtorIdx false in
inductive Me where
 | append | extend | insert | pop | popAt | dpop | clear | dclear | count | index | find | split | join | get (u:Unit:=())
gen_injective_theorems% Me
set_option genCtorIdx false in
inductive TS where
 | int | bool | str | list | tuple | dict | cls (c:Nat) | valueError
gen_injective_theorems% TS
set_option genCtorIdx false in
inductive IK where
 | val | range1 | range2 | enum (u:Unit:=())
gen_injective_theorems% IK
set_option genCtorIdx false in
inductive ME where
 | cst (v:MV)
 | var (i:Nat)
 | glob (g:Nat) (v:MV)
 | bin (op:Op) (a b:ME)
 | neg (a:ME)
 | not (a:ME)
 | and (es:List ME)
 | or (es:List ME)
 | cmp (op:Cmp) (a b:ME)
 | cmp2 (op op':Cmp) (a b c:ME)
 | isN (pos:Bool) (a:ME)
 | call (f:Nat) (args:List ME)
 | blt (b:Bi) (args:List ME)
 | mth (k:Me) (o:ME) (args:List ME)
 | umth (c f:Nat) (x:List Nat) (o:ME) (args:List ME)
 | new (c f:Nat) (args:List ME)
 | attr (c:Nat) (o:ME) (x:List Nat)
 | idx (o i:ME)
 | sl (o:ME) (lo hi:Option ME)
 | list (es:List ME)
 | tup (es:List ME)
 | dict0
 | comp (elt:ME) (t:List Nat) (many:Bool) (k:IK) (src:List ME) (ifs:List ME)
 | isi (a:ME) (ts:List TS)
gen_injective_theorems% ME
set_option genCtorIdx false in
inductive MSt where
 | asg (t:List Nat) (many:Bool) (e:ME)
 | setAttr (c:Nat) (o:ME) (x:List Nat) (e:ME)
 | setIdx (o i e:ME)
 | expr (e:ME)
 | ite (c:ME) (a b:List MSt)
 | for_ (t:List Nat) (many:Bool) (k:IK) (src:List ME) (body:List MSt)
 | while_ (c:ME) (body:List MSt)
 | ret (e:ME)
 | cont
 | raise (c:Nat)
 | try_ (body:List MSt) (c:Nat) (v:Nat) (h:List MSt)
gen_injective_theorems% MSt
noncomputable def MS.set (m:MS) (i:Nat) (v:MV):MS:=⟨m.vars.set i (some v),m.heap⟩
noncomputable def MS.get (m:MS) (i:Nat):Option MV:=match m.vars[i]? with
 | some (some v)=>some v
 | _=>none
noncomputable def MS.unset (m:MS) (i:Nat):MS:=⟨m.vars.set i none,m.heap⟩
noncomputable def MS.push (m:MS) (o:MO):MS:=⟨m.vars,m.heap++[o]⟩
noncomputable def MS.put (m:MS) (i:Nat) (o:MO):MS:=⟨m.vars,m.heap.set i o⟩
noncomputable def small (x:Int):Prop:=x.natAbs<2 ^ 63
noncomputable def line:Nat:=2 ^ 24
noncomputable abbrev PQ:=MV→MS→Prop
set_option genCtorIdx false in
inductive D where
 | none | bool (b:Bool) | int (i:Int) | str (s:List Nat) | list (xs:List D) | tup (xs:List D)
gen_injective_theorems% D
mutual
noncomputable def D.deq:D→D→Bool
 | .none,.none=>true
 | .bool a,.bool b=>a==b
 | .bool a,.int j=>(if a then 1 else 0)==j
 | .int i,.bool b=>i==(if b then 1 else 0)
 | .int i,.int j=>i==j
 | .str x,.str y=>x==y
 | .list xs,.list ys=>D.deqs xs ys
 | .tup xs,.tup ys=>D.deqs xs ys
 | _,_=>false
noncomputable def D.deqs:List D→List D→Bool
 | [],[]=>true
 | x::xs,y::ys=>D.deq x y&&D.deqs xs ys
 | _,_=>false
end
mutual
noncomputable def D.deep:D→Nat
 | .list xs | .tup xs=>D.deeps xs+1
 | _=>0
noncomputable def D.deeps:List D→Nat
 | []=>0
 | x::xs=>max (D.deep x) (D.deeps xs)
end
mutual
noncomputable def D.ok:D→Bool
 | .list xs | .tup xs=>D.oks xs
 | .str s=>s.all (fun c=>decide (c<55296))
 | _=>true
noncomputable def D.oks:List D→Bool
 | []=>true
 | x::xs=>D.ok x&&D.oks xs
end
mutual
inductive Rd (hp:List MO):MV→D→Prop
 | none:Rd hp .none .none
 | bool (b):Rd hp (.bool b) (.bool b)
 | int (i):Rd hp (.int i) (.int i)
 | str (s):Rd hp (.str s) (.str s)
 | tup {xs ds}:Rds hp xs ds→Rd hp (.tup xs) (.tup ds)
 | list {i xs ds}:hp[i]?=some (.list xs)→Rds hp xs ds→Rd hp (.ref i) (.list ds)
inductive Rds (hp:List MO):List MV→List D→Prop
 | nil:Rds hp [] []
 | cons {x xs d ds}:Rd hp x d→Rds hp xs ds→Rds hp (x::xs) (d::ds)
end
noncomputable def aeq:MV→MV→Option Bool
 | .none,.none=>some true
 | .bool a,.bool b=>some (a==b)
 | .int i,.int j=>some (i==j)
 | .str x,.str y=>some (x==y)
 | .none,.int _ | .none,.str _ | .none,.bool _ | .int _,.none | .int _,.str _ | .str _,.none | .str _,.int _ | .bool _,.none | .str _,.bool _ | .bool _,.str _=>some false
 | _,_=>none
inductive EqP (hp:List MO) (x y:MV) (Q:Bool→Prop):Prop
 | mk (d e:D) (hd:Rd hp x d) (he:Rd hp y e) (hk:d.deep≤1000) (h1:d.ok=true) (h2:e.ok=true) (hq:Q (d.deq e))
 | dicts (hu:useD=true) (i j:Nat) (es:List (List Nat × MV)) (hx:x=.ref i) (hy:y=.ref j) (hi:hp[i]?=some (.dict es)) (hj:hp[j]?=some (.dict es)) (hl:∀e∈es,∃k,e.2=.int k) (hn:(es.map (·.1)).Nodup) (hq:Q true)
 | nil (i j:Nat) (xs:List MV) (hx:x=.ref i) (hy:y=.ref j) (hi:hp[i]?=some (.list xs)) (hj:hp[j]?=some (.list [])) (hq:Q xs.isEmpty)
inductive InP (hp:List MO) (x:MV) (ys:List MV) (Q:Bool→Prop):Prop
 | mk (d:D) (es:List D) (hd:Rd hp x d) (he:Rds hp ys es) (hk:d.deep≤1000) (h1:d.ok=true) (h2:D.oks es=true) (hq:Q (es.any (fun e=>e.deq d)))
noncomputable def dget:List (List Nat × MV)→List Nat→Option MV
 | [],_=>none
 | (k,v)::r,x=>match k==x with
  | true=>some v
  | false=>dget r x
noncomputable def dset:List (List Nat × MV)→List Nat→MV→List (List Nat × MV)
 | [],x,v=>[(x,v)]
 | (k,w)::r,x,v=>match k==x with
  | true=>(k,v)::r
  | false=>(k,w)::dset r x v
noncomputable def ddel:List (List Nat × MV)→List Nat→List (List Nat × MV)
 | [],_=>[]
 | (k,w)::r,x=>match k==x with
  | true=>r
  | false=>(k,w)::ddel r x
noncomputable def onS (x:MV) (f:List Nat→Prop):Prop:=match x with
 | .str s=>f s
 | _=>False
theorem onS_inv {x:MV}{f:List Nat→Prop}(h:onS x f):∃s,x=.str s∧f s:=by
 cases x with
 | str s=>exact ⟨s,rfl,h⟩
 | _=>exact h.elim
noncomputable def onL (o:Option (Nat × List MV)) (f:Nat→List MV→Prop):Prop:=match o with
 | some (a,b)=>f a b
 | none=>False
noncomputable def on1 (vs:List MV) (f:MV→Prop):Prop:=match vs with
 | [v]=>f v
 | _=>False
noncomputable def onO {α:Type}(o:Option α) (f:α→Prop):Prop:=match o with
 | some a=>f a
 | none=>False
theorem onL_inv {o:Option (Nat × List MV)}{f:Nat→List MV→Prop}(h:onL o f):∃r xs,o=some (r,xs)∧f r xs:=by
 cases o with
 | none=>exact h.elim
 | some q=>cases q;exact ⟨_,_,rfl,h⟩
theorem on1_inv {vs:List MV}{f:MV→Prop}(h:on1 vs f):∃v,vs=[v]∧f v:=by
 cases vs with
 | nil=>exact h.elim
 | cons v r=>
  cases r with
  | nil=>exact ⟨v,rfl,h⟩
  | cons=>exact h.elim
theorem onO_inv {α:Type}{o:Option α}{f:α→Prop}(h:onO o f):∃a,o=some a∧f a:=by
 cases o with
 | none=>exact h.elim
 | some a=>exact ⟨a,rfl,h⟩
noncomputable def onI (x:MV) (f:Int→Prop):Prop:=match x with
 | .int s=>f s
 | _=>False
noncomputable def on2 (vs:List MV) (f:MV→MV→Prop):Prop:=match vs with
 | [v,w]=>f v w
 | _=>False
noncomputable def onD (o:Option (Nat × List (List Nat × MV))) (f:Nat→List (List Nat × MV)→Prop):Prop:=match o with
 | some (a,b)=>f a b
 | none=>False
theorem onD_inv {o:Option (Nat × List (List Nat × MV))}{f:Nat→List (List Nat × MV)→Prop}(h:onD o f):∃r xs,o=some (r,xs)∧f r xs:=by
 cases o with
 | none=>exact h.elim
 | some q=>cases q;exact ⟨_,_,rfl,h⟩
theorem onI_inv {x:MV}{f:Int→Prop}(h:onI x f):∃s,x=.int s∧f s:=by
 cases x with
 | int s=>exact ⟨s,rfl,h⟩
 | _=>exact h.elim
theorem on2_inv {vs:List MV}{f:MV→MV→Prop}(h:on2 vs f):∃v w,vs=[v,w]∧f v w:=by
 rcases vs with _ | ⟨v,_ | ⟨w,_ | ⟨u,r⟩⟩⟩
 ·exact h.elim
 ·exact h.elim
 ·exact ⟨v,w,rfl,h⟩
 ·exact h.elim
noncomputable def onN (y:List Nat) (f:Nat→Prop):Prop:=match y with
 | [a]=>f a
 | _=>False
theorem onN_inv {y:List Nat}{f:Nat→Prop}(h:onN y f):∃a,y=[a]∧f a:=by
 cases y with
 | nil=>exact h.elim
 | cons a r=>
  cases r with
  | nil=>exact ⟨a,rfl,h⟩
  | cons=>exact h.elim
noncomputable def onT (b:Bool) (P:Prop):Prop:=match b with
 | true=>P
 | false=>False
theorem onT_inv {b:Bool}{P:Prop}(h:onT b P):b=true∧P:=by
 cases b with
 | true=>exact ⟨rfl,h⟩
 | false=>exact h.elim
noncomputable def onR (x:MV) (f:Nat→Prop):Prop:=match x with
 | .ref r=>f r
 | _=>False
theorem onR_inv {x:MV}{f:Nat→Prop}(h:onR x f):∃r,x=.ref r∧f r:=by
 cases x with
 | ref r=>exact ⟨r,rfl,h⟩
 | _=>exact h.elim
noncomputable def onLs (o:Option MO) (f:List MV→Prop):Prop:=match o with
 | some (.list xs)=>f xs
 | _=>False
theorem onLs_inv {o:Option MO}{f:List MV→Prop}(h:onLs o f):∃xs,o=some (.list xs)∧f xs:=by
 cases o with
 | none=>exact h.elim
 | some o=>
  cases o with
  | list xs=>exact ⟨xs,rfl,h⟩
  | _=>exact h.elim
noncomputable def onDs (o:Option MO) (f:List (List Nat × MV)→Prop):Prop:=match o with
 | some (.dict xs)=>f xs
 | _=>False
theorem onDs_inv {o:Option MO}{f:List (List Nat × MV)→Prop}(h:onDs o f):∃xs,o=some (.dict xs)∧f xs:=by
 cases o with
 | none=>exact h.elim
 | some o=>
  cases o with
  | dict xs=>exact ⟨xs,rfl,h⟩
  | _=>exact h.elim
noncomputable def onLD (o:Option MO) (f:List MV→Prop) (g:List (List Nat × MV)→Prop):Prop:=match o with
 | some (.list xs)=>f xs
 | some (.dict xs)=>g xs
 | _=>False
theorem onLD_inv {o:Option MO}{f:List MV→Prop}{g:List (List Nat × MV)→Prop}(h:onLD o f g):(∃xs,o=some (.list xs)∧f xs)∨∃xs,o=some (.dict xs)∧g xs:=by
 cases o with
 | none=>exact h.elim
 | some o=>
  cases o with
  | list xs=>exact .inl ⟨xs,rfl,h⟩
  | dict xs=>exact .inr ⟨xs,rfl,h⟩
  | _=>exact h.elim
theorem onLD_list {o:Option MO}{f:List MV→Prop}{g:List (List Nat × MV)→Prop}{xs:List MV}(e:o=some (.list xs)) (h:f xs):onLD o f g:=by rw [e];exact h
theorem onLD_dict {o:Option MO}{f:List MV→Prop}{g:List (List Nat × MV)→Prop}{xs:List (List Nat × MV)}(e:o=some (.dict xs)) (h:g xs):onLD o f g:=by rw [e];exact h
noncomputable def on12 (vs:List MV) (f:MV→Prop) (g:MV→MV→Prop):Prop:=match vs with
 | [x]=>f x
 | [x,y]=>g x y
 | _=>False
theorem on12_inv {vs:List MV}{f:MV→Prop}{g:MV→MV→Prop}(h:on12 vs f g):(∃x,vs=[x]∧f x)∨∃x y,vs=[x,y]∧g x y:=by
 rcases vs with _ | ⟨v,_ | ⟨w,_ | ⟨u,r⟩⟩⟩
 ·exact h.elim
 ·exact .inl ⟨v,rfl,h⟩
 ·exact .inr ⟨v,w,rfl,h⟩
 ·exact h.elim
noncomputable def wpInO (o:Option MO) (x:MV) (Q:Bool→Prop) (hp:List MO):Prop:=onLD o (fun ys=>InP hp x ys Q) fun es=>onS x fun s=>Q (dget es s).isSome
noncomputable def cds (es:List (List Nat × Int)):List (List Nat × MV):=es.map fun p=>(p.1,.int p.2)
noncomputable def wpIn (x c:MV) (Q:Bool→Prop) (hp:List MO):Prop:=
 match c with
 | .tup ys=>InP hp x ys Q
 | .gt ss=>InP hp x (ss.map .str) Q
 | .ref i=>wpInO hp[i]? x Q hp
 | .cdict es=>onS x fun s=>Q (dget (cds es) s).isSome
 | .str s=>onS x fun y=>onN y fun a=>Q (s.contains a)
 | _=>False
noncomputable def eqB (o:Option Bool) (hp:List MO) (x y:MV) (Q:Bool→Prop):Prop:=match o with
 | some b=>Q b
 | none=>EqP hp x y Q
theorem eqB_inv {o:Option Bool}{hp:List MO}{x y:MV}{Q:Bool→Prop}(h:eqB o hp x y Q):(∃b,o=some b∧Q b)∨EqP hp x y Q:=by
 cases o with
 | some b=>exact .inl ⟨b,rfl,h⟩
 | none=>exact .inr h
noncomputable def wpCmp (op:Cmp) (x y:MV) (Q:Bool→MS→Prop) (m:MS):Prop:=
 match op with
 | .eq=>eqB (aeq x y) m.heap x y (fun b=>Q b m)
 | .ne=>eqB (aeq x y) m.heap x y (fun b=>Q (!b) m)
 | .lt=>onI x fun i=>onI y fun j=>Q (decide (i<j)) m
 | .le=>onI x fun i=>onI y fun j=>Q (decide (i≤j)) m
 | .gt=>onI x fun i=>onI y fun j=>Q (decide (j<i)) m
 | .ge=>onI x fun i=>onI y fun j=>Q (decide (j≤i)) m
 | .inn=>wpIn x y (fun b=>Q b m) m.heap
 | .nin=>wpIn x y (fun b=>Q (!b) m) m.heap
noncomputable def wpAdd (a b:MV) (Q:PQ) (m:MS):Prop:=match a with
 | .int x=>match b with
  | .int y=>Q (.int (x+y)) m
  | _=>False
 | .str x=>match b with
  | .str y=>x.length+y.length≤line∧Q (.str (x++y)) m
  | _=>False
 | .tup x=>match b with
  | .tup y=>x.length+y.length≤line∧Q (.tup (x++y)) m
  | _=>False
 | .ref i=>match b with
  | .ref j=>onLs m.heap[i]? fun x=>onLs m.heap[j]? fun y=>x.length+y.length≤line∧Q (.ref m.heap.length) (m.push (.list (x++y)))
  | _=>False
 | _=>False
noncomputable def wpInt2 (op:Op) (x y:Int) (Q:PQ) (m:MS):Prop:=match op with
 | .add=>Q (.int (x+y)) m
 | .sub=>Q (.int (x-y)) m
 | .mul=>(small x∨small y)∧Q (.int (x * y)) m
 | .fdiv=>onT (decide (0<y∧y<2 ^ 30)) (Q (.int (x / y)) m)
 | .mod=>onT (decide (0<y)) (Q (.int (x % y)) m)
 | .pow=>onT (decide (x=10∧(y=6∨y=9))) (Q (.int (x ^ y.toNat)) m)
noncomputable def wpNum (op:Op) (a b:MV) (Q:PQ) (m:MS):Prop:=onI a fun x=>onI b fun y=>wpInt2 op x y Q m
noncomputable def wpRep (a:MV) (k:Int) (Q:PQ) (m:MS):Prop:=match a with
 | .str s=>useRep=true∧((0≤k∧k≤1000)∧s.length≤1000)∧Q (.str (List.replicate k.toNat s).flatten) m
 | .ref i=>onLs m.heap[i]? fun xs=>on1 xs fun v=>useRep=true∧(0≤k∧k≤1000000)∧Q (.ref m.heap.length) (m.push (.list (List.replicate k.toNat v)))
 | _=>False
noncomputable def wpMul (a b:MV) (Q:PQ) (m:MS):Prop:=match b with
 | .int y=>match a with
  | .int x=>wpInt2 .mul x y Q m
  | a=>wpRep a y Q m
 | _=>False
noncomputable def wpBin (op:Op) (a b:MV) (Q:PQ) (m:MS):Prop:=match op with
 | .add=>wpAdd a b Q m
 | .sub=>wpNum .sub a b Q m
 | .mul=>wpMul a b Q m
 | .fdiv=>wpNum .fdiv a b Q m
 | .mod=>wpNum .mod a b Q m
 | .pow=>wpNum .pow a b Q m
noncomputable def pidx (k:Int) (n:Nat):Option Nat:=
 match decide (0≤k),decide (k<(n:Int)),decide (-(n:Int)≤k) with
 | true,true,_=>some k.toNat
 | false,_,true=>some (k+n).toNat
 | _,_,_=>none
noncomputable def pend (k:Int) (n:Nat):Nat:=
 match decide (0≤k) with
 | true=>min k.toNat n
 | false=>(k+n).toNat
noncomputable def pslice {α:Type}(xs:List α) (lo hi:Option Int):List α:=
 let a:=match lo with
  | none=>0
  | some k=>pend k xs.length
 let b:=match hi with
  | none=>xs.length
  | some k=>pend k xs.length
 (xs.take b).drop a
noncomputable def wpNth {α:Type}(xs:List α) (k:Int) (f:α→Prop):Prop:=onO (pidx k xs.length) fun j=>onO xs[j]? f
theorem wpNth_at {α:Type}{xs:List α}{k:Int}{f:α→Prop}{j:Nat}{v:α}(h1:pidx k xs.length=some j) (h2:xs[j]?=some v) (h:f v):wpNth xs k f:=by
 unfold wpNth;rw [h1]
 show onO xs[j]? f
 rw [h2];exact h
noncomputable def wpIdx (x i:MV) (Q:PQ) (m:MS):Prop:=
 match i with
 | .int k=>match x with
  | .tup xs=>wpNth xs k fun v=>Q v m
  | .str s=>wpNth s k fun c=>Q (.str [c]) m
  | .ref r=>onLs m.heap[r]? fun xs=>wpNth xs k fun v=>Q v m
  | .scr xs=>wpNth xs k fun v=>Q (.int v) m
  | _=>False
 | .str s=>match x with
  | .ref r=>onDs m.heap[r]? fun es=>onO (dget es s) fun v=>Q v m
  | .cdict es=>onO (dget (cds es) s) fun v=>Q v m
  | _=>False
 | _=>False
noncomputable def optInt:Option MV→Option (Option Int)
 | none=>some none
 | some (.int k)=>some (some k)
 | some _=>none
noncomputable def wpSlx (x:MV) (lo hi:Option Int) (Q:PQ) (m:MS):Prop:=match x with
 | .str s=>Q (.str (pslice s lo hi)) m
 | .tup xs=>onO lo fun k=>(useTS=true∧hi=none∧1≤k∧k≤xs.length)∧Q (.tup (xs.drop k.toNat)) m
 | .scr xs=>Q (.ref m.heap.length) (m.push (.list (pslice (xs.map .int) lo hi)))
 | .ref r=>onLs m.heap[r]? fun xs=>Q (.ref m.heap.length) (m.push (.list (pslice xs lo hi)))
 | _=>False
noncomputable def wpSl (x:MV) (lo hi:Option MV) (Q:PQ) (m:MS):Prop:=onO (optInt lo) fun lo=>onO (optInt hi) fun hi=>wpSlx x lo hi Q m
noncomputable def slt:List Nat→List Nat→Bool
 | [],[]=>false
 | [],_::_=>true
 | _::_,[]=>false
 | a::x,b::y=>match decide (a<b),a==b with
  | true,_=>true
  | false,true=>slt x y
  | false,false=>false
noncomputable def sins (s:List Nat):List (List Nat)→List (List Nat)
 | []=>[s]
 | t::r=>match slt s t,s==t with
  | true,_=>s::t::r
  | false,true=>t::r
  | false,false=>t::sins s r
noncomputable def sset:List (List Nat)→List (List Nat)
 | []=>[]
 | s::r=>sins s (sset r)
noncomputable def b2i:Bool→Int
 | true=>1
 | false=>0
inductive SortP (xs:List MV) (Q:List (List Nat)→Prop):Prop
 | mk (ss:List (List Nat)) (he:xs=ss.map .str) (hl:(sset ss).length<64) (hz:ss.length<4000) (hq:Q (sset ss))
inductive SumP (xs:List MV) (Q:Int→Prop):Prop
 | mk (is:List Int) (he:xs=is.map .int) (hb:∀i∈is,0≤i∧i≤1000000) (hl:is.length≤1000000) (hq:Q is.sum)
noncomputable def dec (k:Int):List Nat:=(toString k).toList.map Char.toNat
noncomputable def wpLen (x:MV) (Q:PQ) (m:MS):Prop:=match x with
 | .tup xs=>Q (.int xs.length) m
 | .str xs=>Q (.int xs.length) m
 | .scr xs=>Q (.int xs.length) m
 | .ref r=>onLD m.heap[r]? (fun xs=>Q (.int xs.length) m) fun xs=>Q (.int xs.length) m
 | _=>False
noncomputable def wpListOf (x:MV) (Q:PQ) (m:MS):Prop:=match x with
 | .ref r=>onLD m.heap[r]? (fun xs=>Q (.ref m.heap.length) (m.push (.list xs))) fun es=>useLD=true∧Q (.ref m.heap.length) (m.push (.list (es.map fun p=>.str p.1)))
 | .tup xs=>Q (.ref m.heap.length) (m.push (.list xs))
 | _=>False
inductive PairsP (xs:List MV) (Q:List (List Nat × MV)→Prop):Prop
 | mk (hu:usePD=true) (es:List (List Nat × MV)) (he:xs=es.map fun p=>.tup [.str p.1,p.2]) (hn:(es.map (·.1)).Nodup) (hl:es.length<1000000) (hq:Q es)
inductive BoolsP (xs:List MV) (Q:List Bool→Prop):Prop
 | mk (bs:List Bool) (he:xs=bs.map .bool) (hl:bs.length<1000000) (hq:Q bs)
noncomputable def wpBlt1 (b:Bi) (x:MV) (Q:PQ) (m:MS):Prop:=match b with
 | .len=>wpLen x Q m
 | .int=>match x with
  | .bool b=>Q (.int (b2i b)) m
  | .str s=>∃k:Int,s=dec k∧(0≤k∧k<1000000)∧Q (.int k) m
  | _=>False
 | .str=>match x with
  | .str s=>Q (.str s) m
  | .int k=>(0≤k∧k<1000000)∧Q (.str (dec k)) m
  | _=>False
 | .list=>wpListOf x Q m
 | .tuple=>onR x fun r=>onLs m.heap[r]? fun xs=>Q (.tup xs) m
 | .dict=>onR x fun r=>onLD m.heap[r]? (fun xs=>PairsP xs fun es=>Q (.ref m.heap.length) (m.push (.dict es))) fun es=>Q (.ref m.heap.length) (m.push (.dict es))
 | .sum=>onR x fun r=>onLs m.heap[r]? fun xs=>SumP xs fun k=>Q (.int k) m
 | .all=>onR x fun r=>onLs m.heap[r]? fun xs=>BoolsP xs fun bs=>Q (.bool (bs.all id)) m
 | .listRev=>onR x fun r=>onLs m.heap[r]? fun xs=>Q (.ref m.heap.length) (m.push (.list xs.reverse))
 | .sorted=>onR x fun r=>onDs m.heap[r]? fun es=>(es.map (·.1)).Nodup∧es.length<64∧Q (.ref m.heap.length) (m.push (.list ((sset (es.map (·.1))).map .str)))
 | .sortedSet=>onR x fun r=>onLs m.heap[r]? fun xs=>SortP xs (fun ss=>Q (.ref m.heap.length) (m.push (.list (ss.map .str))))
 | _=>False
noncomputable def wpBlt2 (b:Bi) (x y:Int) (Q:PQ) (m:MS):Prop:=match b with
 | .min=>Q (.int (min x y)) m
 | .max=>Q (.int (max x y)) m
 | _=>False
noncomputable def wpBltP (b:Bi) (x y:MV) (Q:PQ) (m:MS):Prop:=onI x fun i=>onI y fun j=>wpBlt2 b i j Q m
noncomputable def wpBlt (b:Bi) (vs:List MV) (Q:PQ) (m:MS):Prop:=on12 vs (fun x=>wpBlt1 b x Q m) fun x y=>wpBltP b x y Q m
noncomputable def lstO (r:Nat) (o:Option MO):Option (Nat × List MV):=match o with
 | some (.list xs)=>some (r,xs)
 | _=>none
noncomputable def lst (o:MV) (hp:List MO):Option (Nat × List MV):=match o with
 | .ref r=>lstO r hp[r]?
 | _=>none
theorem lst_inv {x:MV}{hp:List MO}{r:Nat}{xs:List MV}(h:lst x hp=some (r,xs)):x=.ref r∧hp[r]?=some (.list xs):=by
 cases x with
 | ref i=>
  replace h:lstO i hp[i]?=some (r,xs):=h
  cases e:hp[i]? with
  | none=>rw [e] at h;exact nos1 h
  | some o=>
   rw [e] at h
   cases o with
   | list ys=>cases h;exact ⟨rfl,e⟩
   | _=>exact nos1 h
 | _=>exact nos1 h
noncomputable def glue (c:Nat):List (List Nat)→List Nat
 | []=>[]
 | [w]=>w
 | w::r=>w++c::glue c r
noncomputable def dctO (r:Nat) (o:Option MO):Option (Nat × List (List Nat × MV)):=match o with
 | some (.dict xs)=>some (r,xs)
 | _=>none
noncomputable def dct (o:MV) (hp:List MO):Option (Nat × List (List Nat × MV)):=match o with
 | .ref r=>dctO r hp[r]?
 | _=>none
theorem dct_inv {x:MV}{hp:List MO}{r:Nat}{xs:List (List Nat × MV)}(h:dct x hp=some (r,xs)):x=.ref r∧hp[r]?=some (.dict xs):=by
 cases x with
 | ref i=>
  replace h:dctO i hp[i]?=some (r,xs):=h
  cases e:hp[i]? with
  | none=>rw [e] at h;exact nos1 h
  | some o=>
   rw [e] at h
   cases o with
   | dict ys=>cases h;exact ⟨rfl,e⟩
   | _=>exact nos1 h
 | _=>exact nos1 h
noncomputable def isTrueB:MV→Prop
 | .bool true=>True
 | _=>False
noncomputable def wpMth (k:Me) (o:MV) (vs:List MV) (Q:PQ) (m:MS):Prop:=match k with
 | .append=>onL (lst o m.heap) fun r xs=>on1 vs fun v=>xs.length<line∧Q .none (m.put r (.list (xs++[v])))
 | .extend=>onL (lst o m.heap) fun r xs=>on1 vs fun v=>onL (lst v m.heap) fun _ ys=>xs.length+ys.length≤line∧Q .none (m.put r (.list (xs++ys)))
 | .pop=>usePop=true∧onL (lst o m.heap) fun r xs=>vs=[]∧onO xs[xs.length-1]? fun v=>Q v (m.put r (.list xs.dropLast))
 | .popAt=>onL (lst o m.heap) fun r xs=>on1 vs fun v=>onI v fun k=>(0≤k∧k<xs.length)∧onO xs[k.toNat]? fun v=>Q v (m.put r (.list (xs.eraseIdx k.toNat)))
 | .insert=>onL (lst o m.heap) fun r xs=>on2 vs fun v w=>onI v fun k=>((0≤k∧k≤xs.length)∧xs.length<line)∧Q .none (m.put r (.list (xs.take k.toNat++w::xs.drop k.toNat)))
 | .clear=>onL (lst o m.heap) fun r _=>vs=[]∧Q .none (m.put r (.list []))
 | .count=>onL (lst o m.heap) fun _ xs=>on1 vs fun v=>isTrueB v∧BoolsP xs fun bs=>Q (.int (bs.count true)) m
 | .index=>onL (lst o m.heap) fun _ xs=>on1 vs fun v=>isTrueB v∧BoolsP xs fun bs=>true∈bs∧Q (.int (bs.idxOf true)) m
 | .dpop=>onD (dct o m.heap) fun r es=>on1 vs fun v=>onS v fun s=>onO (dget es s) fun w=>Q w (m.put r (.dict (ddel es s)))
 | .dclear=>onD (dct o m.heap) fun r _=>vs=[]∧Q .none (m.put r (.dict []))
 | .get=>onD (dct o m.heap) fun _ es=>on2 vs fun v d=>onS v fun s=>Q ((dget es s).getD d) m
 | .join=>useSplit=true∧onS o fun s=>on1 vs fun v=>onL (lst v m.heap) fun _ xs=>∃c ws,(s=[c]∧xs=ws.map .str)∧(glue c ws).length≤1000000∧Q (.str (glue c ws)) m
 | .find=>on1 vs fun v=>onS v fun _=>∀k:Int,-1≤k→Q (.int k) m
 | .split=>useSplit=true∧onS o fun s=>on1 vs fun v=>onS v fun y=>∃c,y=[c]∧s.length<1000000∧∀ws:List (List Nat),ws≠[]→(∀w∈ws,c∉w)→glue c ws=s→Q (.ref m.heap.length) (m.push (.list (ws.map .str)))
set_option genCtorIdx false in
inductive MK where
 | list | dict | str (u:Unit:=())
gen_injective_theorems% MK
noncomputable def meK:Me→MK
 | .dpop=>.dict
 | .dclear=>.dict
 | .get=>.dict
 | .join=>.str
 | .find=>.str
 | .split=>.str
 | _=>.list
noncomputable def isStrV:MV→Bool
 | .str _=>true
 | _=>false
theorem isStrV_inv {x:MV}(h:isStrV x=true):∃y,x=.str y:=by
 cases x with
 | str y=>exact ⟨y,rfl⟩
 | _=>exact ff h
noncomputable def mthOk (k:Me) (x:MV) (hp:List MO):Bool:=match meK k with
 | .list=>(lst x hp).isSome
 | .dict=>(dct x hp).isSome
 | .str=>isStrV x
set_option genCtorIdx false in
inductive Kd where
 | none | bool | int | str | tuple | list | dict | exc (c:Nat)
gen_injective_theorems% Kd
noncomputable def nob:TS→Option Bool
 | .cls _=>Option.none
 | .valueError=>Option.none
 | _=>some false
noncomputable def kdTy (k:Kd) (t:TS):Option Bool:=match k with
 | .none=>nob t
 | .bool=>match t with
  | .bool=>some true
  | .int=>some true
  | t=>nob t
 | .int=>match t with
  | .int=>some true
  | t=>nob t
 | .str=>match t with
  | .str=>some true
  | t=>nob t
 | .tuple=>match t with
  | .tuple=>some true
  | t=>nob t
 | .list=>match t with
  | .list=>some true
  | t=>nob t
 | .dict=>match t with
  | .dict=>some true
  | t=>nob t
 | .exc c=>match t with
  | .cls d=>some (c==d||d==0)
  | .valueError=>some true
  | _=>Option.none
noncomputable def kdO:Option MO→Option Kd
 | some (.list _)=>some .list
 | some (.dict _)=>some .dict
 | some (.exc c)=>some (.exc c)
 | _=>none
noncomputable def kdOf (hp:List MO):MV→Option Kd
 | .none=>some .none
 | .bool _=>some .bool
 | .int _=>some .int
 | .str _=>some .str
 | .tup _=>some .tuple
 | .ref r=>kdO hp[r]?
 | _=>none
noncomputable def kdT (o:Option Kd) (t:TS):Option Bool:=match o with
 | some k=>kdTy k t
 | none=>none
theorem kdT_inv {o:Option Kd}{t:TS}{b:Bool}(h:kdT o t=some b):∃k,o=some k∧kdTy k t=some b:=by
 cases o with
 | none=>exact nos1 h
 | some k=>exact ⟨k,rfl,h⟩
noncomputable def tyO (o:Option MO) (t:TS):Option Bool:=kdT (kdO o) t
noncomputable def tyOf (hp:List MO) (x:MV) (t:TS):Option Bool:=kdT (kdOf hp x) t
noncomputable abbrev Its:=Option (List MV × Option (Nat × List MV))
noncomputable def itVal (hp:List MO) (x:MV):Its:=match x with
 | .ref r=>match hp[r]? with
  | some (.list xs)=>some (xs,some (r,xs))
  | _=>none
 | .tup xs=>some (xs,none)
 | .str s=>match s.all (fun c=>decide (c<128)) with
  | true=>some (s.map (fun c=>.str [c]),none)
  | false=>none
 | _=>none
noncomputable def itR1 (x:MV):Its:=match x with
 | .int n=>match decide (-16777216≤n∧n≤16777216) with
  | true=>some ((List.range n.toNat).map (fun (i:Nat)=>.int i),none)
  | false=>none
 | _=>none
noncomputable def itR2 (x y:MV):Its:=match x with
 | .int a=>match y with
  | .int b=>match decide ((0≤a∧a≤16777216)∧0≤b∧b≤16777216) with
   | true=>some ((List.range (b-a).toNat).map (fun (i:Nat)=>.int (a+i)),none)
   | false=>none
  | _=>none
 | _=>none
noncomputable def itEnum (hp:List MO) (x:MV):Its:=match x with
 | .ref r=>match hp[r]? with
  | some (.list xs)=>some (xs.zipIdx.map (fun p=>.tup [.int p.2,p.1]),some (r,xs))
  | _=>none
 | _=>none
noncomputable def itB2 (x y:MV):Its:=match useR2 with
 | true=>itR2 x y
 | false=>none
noncomputable def iterOf (k:IK) (vs:List MV) (hp:List MO):Its:=
 match vs with
 | [x]=>match k with
  | .val=>itVal hp x
  | .range1=>itR1 x
  | .enum=>itEnum hp x
  | .range2=>none
 | [x,y]=>match k with
  | .range2=>itB2 x y
  | _=>none
 | _=>none
noncomputable def onIt (o:Its) (f:List MV→Option (Nat × List MV)→Prop):Prop:=match o with
 | some (a,b)=>f a b
 | none=>False
theorem onIt_inv {o:Its}{f:List MV→Option (Nat × List MV)→Prop}(h:onIt o f):∃items g,o=some (items,g)∧f items g:=by
 cases o with
 | none=>exact h.elim
 | some q=>cases q;exact ⟨_,_,rfl,h⟩
theorem onIt_at {o:Its}{f:List MV→Option (Nat × List MV)→Prop}{items:List MV}{g:Option (Nat × List MV)}(e:o=some (items,g)) (h:f items g):onIt o f:=by rw [e];exact h
theorem onT_at {b:Bool}{P:Prop}(e:b=true) (h:P):onT b P:=by rw [e];exact h
theorem onL_at {o:Option (Nat × List MV)}{f:Nat→List MV→Prop}{r:Nat}{xs:List MV}(e:o=some (r,xs)) (h:f r xs):onL o f:=by rw [e];exact h
theorem onD_at {o:Option (Nat × List (List Nat × MV))}{f:Nat→List (List Nat × MV)→Prop}{r:Nat}{xs:List (List Nat × MV)}(e:o=some (r,xs)) (h:f r xs):onD o f:=by rw [e];exact h
theorem onLs_at {o:Option MO}{f:List MV→Prop}{xs:List MV}(e:o=some (.list xs)) (h:f xs):onLs o f:=by rw [e];exact h
theorem onDs_at {o:Option MO}{f:List (List Nat × MV)→Prop}{xs:List (List Nat × MV)}(e:o=some (.dict xs)) (h:f xs):onDs o f:=by rw [e];exact h
theorem onO_at {α:Type}{o:Option α}{f:α→Prop}{a:α}(e:o=some a) (h:f a):onO o f:=by rw [e];exact h
noncomputable def guardOk (g:Option (Nat × List MV)) (hp:List MO):Prop:=match g with
 | none=>True
 | some (r,xs)=>hp[r]?=some (.list xs)
noncomputable def setAll (t:List Nat) (xs:List MV) (m:MS):MS:=match t,xs with
 | i::t,x::xs=>setAll t xs (m.set i x)
 | _,_=>m
noncomputable def asg (t:List Nat) (many:Bool) (v:MV) (Q:MS→Prop) (m:MS):Prop:=
 match many,t,v with
 | false,[i],v=>Q (m.set i v)
 | true,t,.tup xs=>t.length=xs.length∧Q (setAll t xs m)
 | _,_,_=>False
noncomputable def forLr (g:Option (Nat × List MV)) (step:MV→(Fl→MS→Prop)→MS→Prop) (Q:Fl→MS→Prop):List MV→MS→Prop
 | [],m=>guardOk g m.heap∧Q .next m
 | v::vs,m=>guardOk g m.heap∧step v (fun f m=>match f with
  | .next=>forLr g step Q vs m
  | .cont=>forLr g step Q vs m
  | .brk=>Q .next m
  | .ret r=>Q (.ret r) m) m
@[irreducible] noncomputable def forL (g:Option (Nat × List MV)) (step:MV→(Fl→MS→Prop)→MS→Prop) (Q:Fl→MS→Prop):List MV→MS→Prop:=forLr g step Q
noncomputable def compLr (g:Option (Nat × List MV)) (step:MV→(Option MV→MS→Prop)→MS→Prop) (Q:List MV→MS→Prop):List MV→List MV→MS→Prop
 | [],acc,m=>guardOk g m.heap∧Q acc m
 | v::vs,acc,m=>guardOk g m.heap∧step v (fun r m=>match r with
  | some x=>compLr g step Q vs (acc++[x]) m
  | none=>compLr g step Q vs acc m) m
@[irreducible] noncomputable def compL (g:Option (Nat × List MV)) (step:MV→(Option MV→MS→Prop)→MS→Prop) (Q:List MV→MS→Prop):List MV→List MV→MS→Prop:=compLr g step Q
noncomputable def whileNr (c:(Bool→MS→Prop)→MS→Prop) (b:(Fl→MS→Prop)→MS→Prop) (Q:Fl→MS→Prop):Nat→MS→Prop
 | 0,_=>False
 | k+1,m=>c (fun t m=>match t with
  | true=>b (fun f m=>match f with
   | .next=>whileNr c b Q k m
   | .cont=>whileNr c b Q k m
   | .brk=>Q .next m
   | .ret r=>Q (.ret r) m) m
  | false=>Q .next m) m
@[irreducible] noncomputable def whileN (c:(Bool→MS→Prop)→MS→Prop) (b:(Fl→MS→Prop)→MS→Prop) (Q:Fl→MS→Prop):Nat→MS→Prop:=whileNr c b Q
theorem forL_nil {g:Option (Nat × List MV)}{step:MV→(Fl→MS→Prop)→MS→Prop}{Q:Fl→MS→Prop}{m:MS}:forL g step Q [] m=(guardOk g m.heap∧Q .next m):=by unfold forL;rfl
theorem forL_cons {g:Option (Nat × List MV)}{step:MV→(Fl→MS→Prop)→MS→Prop}{Q:Fl→MS→Prop}{v:MV}{vs:List MV}{m:MS}:forL g step Q (v::vs) m=(guardOk g m.heap∧step v (fun f m=>match f with
  | .next=>forL g step Q vs m
  | .cont=>forL g step Q vs m
  | .brk=>Q .next m
  | .ret r=>Q (.ret r) m) m):=by unfold forL;rfl
theorem compL_nil {g:Option (Nat × List MV)}{step:MV→(Option MV→MS→Prop)→MS→Prop}{Q:List MV→MS→Prop}{acc:List MV}{m:MS}:compL g step Q [] acc m=(guardOk g m.heap∧Q acc m):=by unfold compL;rfl
theorem compL_cons {g:Option (Nat × List MV)}{step:MV→(Option MV→MS→Prop)→MS→Prop}{Q:List MV→MS→Prop}{v:MV}{vs acc:List MV}{m:MS}:compL g step Q (v::vs) acc m=(guardOk g m.heap∧step v (fun r m=>match r with
  | some x=>compL g step Q vs (acc++[x]) m
  | none=>compL g step Q vs acc m) m):=by unfold compL;rfl
theorem whileN_zero {c:(Bool→MS→Prop)→MS→Prop}{b:(Fl→MS→Prop)→MS→Prop}{Q:Fl→MS→Prop}{m:MS}:whileN c b Q 0 m=False:=by unfold whileN;rfl
theorem whileN_succ {c:(Bool→MS→Prop)→MS→Prop}{b:(Fl→MS→Prop)→MS→Prop}{Q:Fl→MS→Prop}{k:Nat}{m:MS}:whileN c b Q (k+1) m=c (fun t m=>match t with
  | true=>b (fun f m=>match f with
   | .next=>whileN c b Q k m
   | .cont=>whileN c b Q k m
   | .brk=>Q .next m
   | .ret r=>Q (.ret r) m) m
  | false=>Q .next m) m:=by unfold whileN;rfl
noncomputable def noX:XM:=fun _ _=>False
noncomputable def onAs (o:Option MO) (f:List (List Nat × MV)→Prop):Prop:=match o with
 | some (.attrs es)=>f es
 | _=>False
theorem onAs_inv {o:Option MO}{f:List (List Nat × MV)→Prop}(h:onAs o f):∃es,o=some (.attrs es)∧f es:=by
 cases o with
 | none=>exact h.elim
 | some o=>
  cases o with
  | attrs es=>exact ⟨es,rfl,h⟩
  | _=>exact h.elim
noncomputable def onIn (c:Nat) (v:MV) (f:Nat→Prop):Prop:=match v with
 | .inst d i=>onT (d==c) (f i)
 | _=>False
theorem onIn_inv {c:Nat}{v:MV}{f:Nat→Prop}(h:onIn c v f):∃i,v=.inst c i∧f i:=by
 cases v with
 | inst d i=>
  replace h:onT (d==c) (f i):=h
  cases e:d==c with
  | true=>rw [e] at h;exact ⟨i,by rw [eq_of_beq e],h⟩
  | false=>rw [e] at h;exact h.elim
 | _=>exact h.elim
theorem onAs_at {o:Option MO}{f:List (List Nat × MV)→Prop}{es:List (List Nat × MV)}(e:o=some (.attrs es)) (h:f es):onAs o f:=by rw [e];exact h
noncomputable def wpAttr (c:Nat) (x:List Nat) (v:MV) (Q:PQ) (m:MS):Prop:=onIn c v fun i=>onAs m.heap[i]? fun es=>onO (dget es x) fun v=>Q v m
noncomputable def wpSetAttr (c:Nat) (x:List Nat) (y v:MV) (Q:MS→Prop) (m:MS):Prop:=onIn c y fun i=>onAs m.heap[i]? fun es=>es.length<1000∧Q (m.put i (.attrs (dset es x v)))
noncomputable def wpSetIdx (x y v:MV) (Q:MS→Prop) (m:MS):Prop:=match y with
 | .str s=>onR x fun r=>onDs m.heap[r]? fun es=>es.length<line∧Q (m.put r (.dict (dset es s v)))
 | .int k=>onR x fun r=>onLs m.heap[r]? fun xs=>onO (pidx k xs.length) fun j=>(useLS=true∧0≤k)∧Q (m.put r (.list (xs.set j v)))
 | _=>False
noncomputable def umOk (c:Nat) (x:List Nat) (v:MV) (hp:List MO):Bool:=match v with
 | .inst d i=>match hp[i]? with
  | some (.attrs es)=>c==d&&(dget es x).isNone
  | _=>false
 | _=>false
noncomputable def onNone (v:MV) (P:Prop):Prop:=match v with
 | .none=>P
 | _=>False
noncomputable def isNn (p:Bool) (x:MV):Bool:=match x with
 | .none=>p
 | _=>!p
noncomputable def ofBool (Q:Bool→MS→Prop):PQ:=fun v m=>match v with
 | .bool b=>Q b m
 | _=>False
noncomputable def wpTs (ts:List TS) (hp:List MO) (x:MV) (f:Bool→Prop):Prop:=match ts with
 | [t]=>onO (tyOf hp x t) f
 | [t,u]=>onO (tyOf hp x t) fun b=>onO (tyOf hp x u) fun c=>f (b||c)
 | _=>False
mutual
noncomputable def wpE (K:KT) (n:Nat):ME→PQ→XM→MS→Prop
 | .cst v,Q,_,m=>Q v m
 | .glob _ v,Q,_,m=>Q v m
 | .var i,Q,_,m=>match m.get i with
  | some v=>Q v m
  | none=>False
 | .bin op a b,Q,X,m=>wpE K n a (fun x m=>wpE K n b (fun y m=>wpBin op x y Q m) X m) X m
 | .neg a,Q,X,m=>wpE K n a (fun x m=>onI x fun i=>Q (.int (-i)) m) X m
 | .not a,Q,X,m=>wpE K n a (ofBool fun b m=>Q (.bool (!b)) m) X m
 | .and es,Q,X,m=>wpAnd K n es Q X m
 | .or es,Q,X,m=>wpOr K n es Q X m
 | .cmp op a b,Q,X,m=>wpE K n a (fun x m=>wpE K n b (fun y m=>wpCmp op x y (fun b m=>Q (.bool b) m) m) X m) X m
 | .cmp2 op op' a b c,Q,X,m=>wpE K n a (fun x m=>wpE K n b (fun y m=>wpCmp op x y (fun t m=>match t with
  | true=>wpE K n c (fun z m=>wpCmp op' y z (fun b m=>Q (.bool b) m) m) X m
  | false=>Q (.bool false) m) m) X m) X m
 | .isN p a,Q,X,m=>wpE K n a (fun x m=>Q (.bool (isNn p x)) m) X m
 | .call f args,Q,X,m=>wpEs K n args (fun vs m=>K n f vs (fun v h=>Q v ⟨m.vars,h⟩) (fun c h=>X c ⟨m.vars,h⟩) m.heap) X m
 | .blt b args,Q,X,m=>wpEs K n args (fun vs m=>wpBlt b vs Q m) X m
 | .mth k o args,Q,X,m=>wpE K n o (fun x m=>onT (mthOk k x m.heap) (wpEs K n args (fun vs m=>wpMth k x vs Q m) X m)) X m
 | .umth c f x o args,Q,X,m=>wpE K n o (fun v m=>onT (umOk c x v m.heap) (wpEs K n args (fun vs m=>K n f (v::vs) (fun v h=>Q v ⟨m.vars,h⟩) (fun c h=>X c ⟨m.vars,h⟩) m.heap) X m)) X m
 | .new c f args,Q,X,m=>wpEs K n args (fun vs m=>match n with
  | 0=>False
  | k+1=>K k f (.inst c m.heap.length::vs) (fun v h=>onNone v (Q (.inst c m.heap.length) ⟨m.vars,h⟩)) (fun c h=>X c ⟨m.vars,h⟩) (m.heap++[.attrs []])) X m
 | .attr c o x,Q,X,m=>wpE K n o (fun v m=>wpAttr c x v Q m) X m
 | .idx o i,Q,X,m=>wpE K n o (fun x m=>wpE K n i (fun y m=>wpIdx x y Q m) X m) X m
 | .sl o lo hi,Q,X,m=>wpE K n o (fun x m=>wpO K n lo (fun l m=>wpO K n hi (fun h m=>wpSl x l h Q m) X m) X m) X m
 | .list es,Q,X,m=>wpEs K n es (fun vs m=>Q (.ref m.heap.length) (m.push (.list vs))) X m
 | .tup es,Q,X,m=>wpEs K n es (fun vs m=>Q (.tup vs) m) X m
 | .dict0,Q,_,m=>Q (.ref m.heap.length) (m.push (.dict []))
 | .comp elt t many k src ifs,Q,X,m=>wpEs K n src (fun vs m=>onIt (iterOf k vs m.heap) fun items g=>compL g (fun v P m=>asg t many v (fun m=>wpIfs K n ifs (fun b m=>match b with
    | true=>wpE K n elt (fun x m=>P (some x) m) noX m
    | false=>P none m) noX m) m) (fun acc m'=>Q (.ref m'.heap.length) ⟨m.vars,m'.heap++[.list acc]⟩) items [] m) X m
 | .isi a ts,Q,X,m=>wpE K n a (fun x m=>wpTs ts m.heap x fun b=>Q (.bool b) m) X m
noncomputable def wpEs (K:KT) (n:Nat):List ME→(List MV→MS→Prop)→XM→MS→Prop
 | [],Q,_,m=>Q [] m
 | e::r,Q,X,m=>wpE K n e (fun v m=>wpEs K n r (fun vs m=>Q (v::vs) m) X m) X m
noncomputable def wpO (K:KT) (n:Nat):Option ME→(Option MV→MS→Prop)→XM→MS→Prop
 | none,Q,_,m=>Q none m
 | some e,Q,X,m=>wpE K n e (fun v m=>Q (some v) m) X m
noncomputable def wpAnd (K:KT) (n:Nat):List ME→PQ→XM→MS→Prop
 | [],_,_,_=>False
 | [e],Q,X,m=>wpE K n e Q X m
 | e::r,Q,X,m=>wpE K n e (ofBool fun b m=>match b with
  | true=>wpAnd K n r Q X m
  | false=>Q (.bool false) m) X m
noncomputable def wpOr (K:KT) (n:Nat):List ME→PQ→XM→MS→Prop
 | [],_,_,_=>False
 | [e],Q,X,m=>wpE K n e Q X m
 | e::r,Q,X,m=>wpE K n e (ofBool fun b m=>match b with
  | true=>Q (.bool true) m
  | false=>wpOr K n r Q X m) X m
noncomputable def wpIfs (K:KT) (n:Nat):List ME→(Bool→MS→Prop)→XM→MS→Prop
 | [],Q,_,m=>Q true m
 | e::r,Q,X,m=>wpE K n e (ofBool fun b m=>match b with
  | true=>wpIfs K n r Q X m
  | false=>Q false m) X m
end
mutual
noncomputable def wpS (K:KT) (n:Nat):MSt→(Fl→MS→Prop)→XM→MS→Prop
 | .asg t many e,Q,X,m=>wpE K n e (fun v m=>asg t many v (fun m=>Q .next m) m) X m
 | .setAttr c o x e,Q,X,m=>wpE K n e (fun v m=>wpE K n o (fun y m=>wpSetAttr c x y v (Q .next) m) X m) X m
 | .setIdx o i e,Q,X,m=>wpE K n e (fun v m=>wpE K n o (fun x m=>wpE K n i (fun y m=>wpSetIdx x y v (Q .next) m) X m) X m) X m
 | .expr e,Q,X,m=>wpE K n e (fun _ m=>Q .next m) X m
 | .ite c a b,Q,X,m=>wpE K n c (ofBool fun t m=>match t with
  | true=>wpSs K n a Q X m
  | false=>wpSs K n b Q X m) X m
 | .for_ t many k src body,Q,X,m=>wpEs K n src (fun vs m=>onIt (iterOf k vs m.heap) fun items g=>forL g (fun v P m=>asg t many v (fun m=>wpSs K n body P X m) m) Q items m) X m
 | .while_ c body,Q,X,m=>∃k,whileN (fun P m=>wpE K n c (ofBool P) X m) (fun P m=>wpSs K n body P X m) Q k m
 | .ret e,Q,X,m=>wpE K n e (fun v m=>Q (.ret v) m) X m
 | .cont,Q,_,m=>Q .cont m
 | .raise c,_,X,m=>useX=true∧X c m
 | .try_ body _ v h,Q,X,m=>useX=true∧wpSs K n body Q (fun c m=>wpSs K n h (fun f m=>Q f (m.unset v)) noX ((m.push (.exc c)).set v (.ref m.heap.length))) m
noncomputable def wpSs (K:KT) (n:Nat):List MSt→(Fl→MS→Prop)→XM→MS→Prop
 | [],Q,_,m=>Q .next m
 | s::r,Q,X,m=>wpS K n s (fun f m=>match f with
  | .next=>wpSs K n r Q X m
  | f=>Q f m) X m
end
noncomputable def fin (Q:MV→List MO→Prop):Fl→MS→Prop:=fun f m=>match f with
 | .ret v=>Q v m.heap
 | .next=>Q .none m.heap
 | _=>False
set_option genCtorIdx false in
structure Fn where
 args:Nat
 slots:Nat
 body:List MSt
noncomputable def start (d:Fn) (vs:List MV) (h:List MO):MS:=⟨vs.map some++List.replicate (d.slots-d.args) none,h⟩
noncomputable def Closed (P:Nat→Option Fn) (K:KT):Prop:=
 ∀n f vs Q X h d,P f=some d→vs.length=d.args→wpSs K n d.body (fin Q) (fun c m=>X c m.heap) (start d vs h)→K (n+1) f vs Q X h
end Internal
end
section
namespace Internal
noncomputable def useSS:Bool:=false
end Internal
end
section
namespace Internal
open PySem PyProof.Rows
noncomputable abbrev tupO (items:List Value) (n:Nat):Obj:={ cls:=.type "tuple",dict:=none,data:=.seq items.toArray n,slots:=#[] }
noncomputable abbrev listO (items:List Value) (n:Nat):Obj:={ cls:=.type "list",dict:=none,data:=.seq items.toArray n,slots:=#[] }
noncomputable abbrev dictO (es:List DictEntry) (n:Nat):Obj:={ cls:=.type "dict",dict:=none,data:=.dict es.toArray n,slots:=#[] }
noncomputable abbrev instO (C:Addr) (d:Addr):Obj:={ cls:=.ref C,dict:=some d,data:=.plain,slots:=#[] }
set_option genCtorIdx false in
structure Glo where
 prog:Program
 w:World
 base:Heap
 fa:Nat→Option Addr
 ca:Nat→Option Addr
 xa:Nat→Option Addr
 cm:Nat→Str→Option Value
 hf:Nat→Bool
noncomputable def isTupT:Value→Bool
 | .type T=>T=="tuple"
 | _=>false
noncomputable def isRefV:Value→Bool
 | .ref _=>true
 | _=>false
noncomputable def solidD (c:Value):Data→Bool
 | .seq _ _=>isTupT c
 | .plain=>isRefV c
 | _=>false
noncomputable def Solid (o:Obj):Prop:=solidD o.cls o.data=true
noncomputable def Solids (h h':Heap):Prop:=∀a o,h.get? a=some o→Solid o→h'.get? a=some o
inductive CK:List (List Nat × Int)→List (Str × Value)→Prop
 | nil:CK [] []
 | cons {k i t es ds}:k.length≤line→CK es ds→CK ((k,i)::es) ((str k,.int i t)::ds)
noncomputable def IsD (o:Obj):Prop:=∃es n,o.data=.dict es n
mutual
inductive Rep (C:Glo) (ρ:List Addr) (h:Heap):MV→Value→Prop
 | none:Rep C ρ h .none .none
 | bool (b):Rep C ρ h (.bool b) (.bool b)
 | int (i t):Rep C ρ h (.int i) (.int i t)
 | str (s t):s.length≤line→Rep C ρ h (.str s) (.str (str s) t)
 | tup {a n xs items}:h.get? a=some (tupO items n)→RepL C ρ h xs items→xs.length≤line→Rep C ρ h (.tup xs) (.ref a)
 | ref {i a}:ρ[i]?=some a→Rep C ρ h (.ref i) (.ref a)
 | scr {is a items n}:C.base.get? a=some (listO items n)→IntsAre items is→is.length≤line→Rep C ρ h (.scr is) (.ref a)
 | gt {ss a o items n}:C.base.get? a=some o→o.cls=.type "tuple"→o.data=.seq items.toArray n→RepL C ρ h (ss.map .str) items→Rep C ρ h (.gt ss) (.ref a)
 | inst {c i a k d}:C.ca c=some k→ρ[i]?=some d→h.get? a=some (instO k d)→Rep C ρ h (.inst c i) (.ref a)
 | cdict {es a kvs}:(a==sysModules)=false→C.base.DictOf (strKind C.prog C.w) a kvs→CK es kvs→Rep C ρ h (.cdict es) (.ref a)
inductive RepL (C:Glo) (ρ:List Addr) (h:Heap):List MV→List Value→Prop
 | nil:RepL C ρ h [] []
 | cons {x v xs vs}:Rep C ρ h x v→RepL C ρ h xs vs→RepL C ρ h (x::xs) (v::vs)
end
inductive RTup (C:Glo) (ρ:List Addr) (h:Heap) (xs:List MV) (v:Value):Prop
 | mk (a:Addr) (n:Nat) (items:List Value) (e:v=.ref a) (g:h.get? a=some (tupO items n)) (l:RepL C ρ h xs items) (z:xs.length≤line)
inductive RScr (C:Glo) (is:List Int) (v:Value):Prop
 | mk (a:Addr) (items:List Value) (n:Nat) (e:v=.ref a) (g:C.base.get? a=some (listO items n)) (l:IntsAre items is) (z:is.length≤line)
inductive RGt (C:Glo) (ρ:List Addr) (h:Heap) (ss:List (List Nat)) (v:Value):Prop
 | mk (a:Addr) (o:Obj) (items:List Value) (n:Nat) (e:v=.ref a) (g:C.base.get? a=some o) (g1:o.cls=.type "tuple") (g2:o.data=.seq items.toArray n) (l:RepL C ρ h (ss.map .str) items)
inductive RInst (C:Glo) (ρ:List Addr) (h:Heap) (c i:Nat) (v:Value):Prop
 | mk (a k d:Addr) (e:v=.ref a) (h1:C.ca c=some k) (h2:ρ[i]?=some d) (h3:h.get? a=some (instO k d))
inductive RCd (C:Glo) (es:List (List Nat × Int)) (v:Value):Prop
 | mk (a:Addr) (kvs:List (Str × Value)) (e:v=.ref a) (hs:(a==sysModules)=false) (dk:C.base.DictOf (strKind C.prog C.w) a kvs) (ck:CK es kvs)
inductive RStr (s:List Nat) (v:Value):Prop
 | mk (t:Tok) (e:v=.str (str s) t) (z:s.length≤line)
inductive RRef (ρ:List Addr) (i:Nat) (v:Value):Prop
 | mk (a:Addr) (e:v=.ref a) (g:ρ[i]?=some a)
inductive RCons (C:Glo) (ρ:List Addr) (h:Heap) (x:MV) (r:List MV) (vs:List Value):Prop
 | mk (v:Value) (ws:List Value) (e:vs=v::ws) (a:Rep C ρ h x v) (b:RepL C ρ h r ws)
noncomputable def RepI (C:Glo) (ρ:List Addr) (h:Heap) (x:MV) (v:Value):Prop:=match x with
 | .none=>v=.none
 | .bool b=>v=.bool b
 | .int i=>∃t,v=.int i t
 | .str s=>RStr s v
 | .tup xs=>RTup C ρ h xs v
 | .ref i=>RRef ρ i v
 | .scr is=>RScr C is v
 | .gt ss=>RGt C ρ h ss v
 | .inst c i=>RInst C ρ h c i v
 | .cdict es=>RCd C es v
noncomputable def RepLI (C:Glo) (ρ:List Addr) (h:Heap) (xs:List MV) (vs:List Value):Prop:=match xs with
 | []=>vs=[]
 | x::r=>RCons C ρ h x r vs
theorem Rep.inv {C:Glo}{ρ:List Addr}{h:Heap}{x:MV}{v:Value}(r:Rep C ρ h x v):RepI C ρ h x v:=
 Rep.casesOn (motive_1:=fun x v _=>RepI C ρ h x v) r rfl (fun _=>rfl) (fun _ t=>⟨t,rfl⟩) (fun _ t z=>⟨t,rfl,z⟩) (fun g l z=>⟨_,_,_,rfl,g,l,z⟩) (fun e=>⟨_,rfl,e⟩) (fun g l z=>⟨_,_,_,rfl,g,l,z⟩) (fun g g1 g2 l=>⟨_,_,_,_,rfl,g,g1,g2,l⟩) (fun h1 h2 h3=>⟨_,_,_,rfl,h1,h2,h3⟩) (fun s d c=>⟨_,_,rfl,s,d,c⟩)
theorem RepL.inv {C:Glo}{ρ:List Addr}{h:Heap}{xs:List MV}{vs:List Value}(r:RepL C ρ h xs vs):RepLI C ρ h xs vs:=
 RepL.casesOn (motive_2:=fun xs vs _=>RepLI C ρ h xs vs) r rfl (fun a b=>⟨_,_,rfl,a,b⟩)
theorem RepL.one {C:Glo}{ρ:List Addr}{h:Heap}{x:MV}{vs:List Value}(r:RepL C ρ h [x] vs):∃v,vs=[v]∧Rep C ρ h x v:=by
 obtain ⟨v,ws,rfl,a,b⟩:=r.inv
 obtain rfl:=b.inv
 exact ⟨v,rfl,a⟩
theorem RepL.two {C:Glo}{ρ:List Addr}{h:Heap}{x y:MV}{vs:List Value}(r:RepL C ρ h [x,y] vs):∃v w,vs=[v,w]∧Rep C ρ h x v∧Rep C ρ h y w:=by
 obtain ⟨v,ws,rfl,a,b⟩:=r.inv
 obtain ⟨w,rfl,c⟩:=b.one
 exact ⟨v,w,rfl,a,c⟩
theorem solid_tup {items:List Value}{n:Nat}:Solid (tupO items n):=rfl
theorem solid_inst {C d:Addr}:Solid (instO C d):=rfl
theorem pre_get {ρ ρ':List Addr}(hp:ρ<+:ρ') {i:Nat}{a:Addr}(h:ρ[i]?=some a):ρ'[i]?=some a:=by
 obtain ⟨t,rfl⟩:=hp
 rw [List.getElem?_append_left (List.getElem?_eq_some_iff.mp h).1];exact h
section
variable {C:Glo}{ρ ρ':List Addr}{h h':Heap}
theorem Rep.up (hs:Solids h h') (hp:ρ<+:ρ') {x:MV}{v:Value}(r:Rep C ρ h x v):Rep C ρ' h' x v:=
 Rep.rec (motive_1:=fun x v _=>Rep C ρ' h' x v) (motive_2:=fun x v _=>RepL C ρ' h' x v) .none (fun b=>.bool b) (fun i t=>.int i t) (fun s t z=>.str s t z) (fun e _ z l=>.tup (hs _ _ e solid_tup) l z) (fun e=>.ref (pre_get hp e)) (fun e l z=>.scr e l z) (fun e1 e2 e3 _ l=>.gt e1 e2 e3 l) (fun e1 e2 e3=>.inst e1 (pre_get hp e2) (hs _ _ e3 solid_inst)) (fun q e l=>.cdict q e l) .nil (fun _ _ a b=>.cons a b) r
theorem RepL.up (hs:Solids h h') (hp:ρ<+:ρ') {x:List MV}{v:List Value}(r:RepL C ρ h x v):RepL C ρ' h' x v:=
 RepL.rec (motive_1:=fun x v _=>Rep C ρ' h' x v) (motive_2:=fun x v _=>RepL C ρ' h' x v) .none (fun b=>.bool b) (fun i t=>.int i t) (fun s t z=>.str s t z) (fun e _ z l=>.tup (hs _ _ e solid_tup) l z) (fun e=>.ref (pre_get hp e)) (fun e l z=>.scr e l z) (fun e1 e2 e3 _ l=>.gt e1 e2 e3 l) (fun e1 e2 e3=>.inst e1 (pre_get hp e2) (hs _ _ e3 solid_inst)) (fun q e l=>.cdict q e l) .nil (fun _ _ a b=>.cons a b) r
theorem ints_rep {is:List Int}{items:List Value}(r:IntsAre items is):RepL C ρ h (is.map .int) items:=by
 induction r with
 | nil=>exact .nil
 | cons n t r ih=>exact .cons (.int n t) ih
theorem RepL.length {xs:List MV}{vs:List Value}(r:RepL C ρ h xs vs):vs.length=xs.length:=by
 induction xs generalizing vs with
 | nil=>rw [r.inv];rfl
 | cons x xs ih=>
  obtain ⟨v,ws,rfl,a,b⟩:=r.inv
  exact congrArg (·+1) (ih b)
theorem RepL.get {xs:List MV}{vs:List Value}(r:RepL C ρ h xs vs) {i:Nat}{x:MV}(e:xs[i]?=some x):∃v,vs[i]?=some v∧Rep C ρ h x v:=by
 induction xs generalizing vs i with
 | nil=>exact nos1 e
 | cons y xs ih=>
  obtain ⟨v,ws,rfl,a,b⟩:=r.inv
  cases i with
  | zero=>obtain rfl:=Option.some.inj e;exact ⟨v,rfl,a⟩
  | succ i=>exact ih b e
theorem RepL.append {xs:List MV}{vs:List Value}{ys:List MV}{ws:List Value}(r:RepL C ρ h xs vs) (l:RepL C ρ h ys ws):RepL C ρ h (xs++ys) (vs++ws):=by
 induction xs generalizing vs with
 | nil=>rw [r.inv];exact l
 | cons x xs ih=>
  obtain ⟨v,us,rfl,a,b⟩:=r.inv
  exact .cons a (ih b)
theorem RepL.take {xs:List MV}{vs:List Value}(k:Nat) (r:RepL C ρ h xs vs):RepL C ρ h (xs.take k) (vs.take k):=by
 induction xs generalizing vs k with
 | nil=>rw [r.inv,List.take_nil,List.take_nil];exact .nil
 | cons x xs ih=>
  obtain ⟨v,us,rfl,a,b⟩:=r.inv
  cases k with
  | zero=>exact .nil
  | succ k=>exact .cons a (ih k b)
theorem RepL.drop {xs:List MV}{vs:List Value}(k:Nat) (r:RepL C ρ h xs vs):RepL C ρ h (xs.drop k) (vs.drop k):=by
 induction xs generalizing vs k with
 | nil=>rw [r.inv,List.drop_nil,List.drop_nil];exact .nil
 | cons x xs ih=>
  obtain ⟨v,us,rfl,a,b⟩:=r.inv
  cases k with
  | zero=>exact .cons a b
  | succ k=>exact ih k b
end
inductive RepK (C:Glo) (ρ:List Addr) (h:Heap):List (List Nat × MV)→List (Str × Value)→Prop
 | nil:RepK C ρ h [] []
 | cons {k x v es ds}:k.length≤line→Rep C ρ h x v→RepK C ρ h es ds→RepK C ρ h ((k,x)::es) ((str k,v)::ds)
theorem RepK.up {C:Glo}{ρ ρ':List Addr}{h h':Heap}(hs:Solids h h') (hp:ρ<+:ρ') {x v}(r:RepK C ρ h x v):RepK C ρ' h' x v:=by
 induction r with
 | nil=>exact .nil
 | cons z a _ ih=>exact .cons z (a.up hs hp) ih
theorem CK.rep {C:Glo}{ρ:List Addr}{h:Heap} {es kvs}(r:CK es kvs):RepK C ρ h (cds es) kvs:=by
 induction r with
 | nil=>exact .nil
 | cons z _ ih=>exact .cons z (.int _ _) ih
inductive RepLs (C:Glo) (ρ:List Addr) (h:Heap) (xs:List MV) (a:Addr):Prop
 | mk (items:List Value) (n:Nat) (e:h.get? a=some (listO items n)) (rl:RepL C ρ h xs items) (z:xs.length≤line)
inductive RepDs (C:Glo) (ρ:List Addr) (h:Heap) (es:List (List Nat × MV)) (a:Addr):Prop
 | mk (kvs:List (Str × Value)) (d:h.DictOf (strKind C.prog C.w) a kvs) (rk:RepK C ρ h es kvs) (z:es.length≤line)
inductive RepAs (C:Glo) (ρ:List Addr) (h:Heap) (es:List (List Nat × MV)) (a:Addr):Prop
 | mk (mA:Str→Option Value) (n:h.Ns1 a mA) (l:∀k v,dget es k=some v→∃w,mA (str k)=some w∧Rep C ρ h v w) (r:∀k,dget es k=none→mA (str k)=none) (z:es.length≤1000)
inductive RepXs (C:Glo) (h:Heap) (c:Nat) (a:Addr):Prop
 | mk (K:Addr) (o:Obj) (vs:Array Value) (h1:C.xa c=some K) (h2:h.get? a=some o) (h3:o.cls=.ref K) (h4:o.data=.fields vs)
noncomputable def RepO (C:Glo) (ρ:List Addr) (h:Heap):MO→Addr→Prop
 | .list xs,a=>RepLs C ρ h xs a
 | .dict es,a=>RepDs C ρ h es a
 | .attrs es,a=>RepAs C ρ h es a
 | .exc c,a=>RepXs C h c a
structure Hp (C:Glo) (ρ:List Addr) (hp:List MO) (h:Heap):Prop where
 base:C.base.StaysIn h
 len:ρ.length=hp.length
 nodup:ρ.Nodup
 fresh:∀a∈ρ,C.base.get? a=none
 objs:∀(i:Nat) (o:MO) (a:Addr),hp[i]?=some o→ρ[i]?=some a→RepO C ρ h o a
set_option genCtorIdx false in
inductive Loc where
 | nm (L:Addr) (x:Str)
 | cl (c:Addr)
gen_injective_theorems% Loc
set_option genCtorIdx false in
structure Fm where
 env:Env
 A:Around
 W:List Addr
 V:List Addr
 lay:Nat→Option Loc
 frs:List Addr
inductive HoldN (C:Glo) (ρ:List Addr) (h:Heap) (L:Addr) (x:Str) (v:MV):Prop
 | mk (f:Str→Option Value) (w:Value) (n:h.Ns L f) (e:f x=some w) (r:Rep C ρ h v w)
inductive HoldC (C:Glo) (ρ:List Addr) (h:Heap) (c:Addr) (v:MV):Prop
 | mk (w:Value) (n:h.IsCell c (some w)) (r:Rep C ρ h v w)
noncomputable def Holds (C:Glo) (ρ:List Addr) (h:Heap):Loc→MV→Prop
 | .nm L x,v=>HoldN C ρ h L x v
 | .cl c,v=>HoldC C ρ h c v
noncomputable def WOk (h:Heap) (a:Addr):Prop:=∃o,h.get? a=some o∧((∃es n,o.data=.dict es n)∨∃v,o.data=.cell v)
noncomputable def FrOk (C:Glo) (ρ:List Addr) (h:Heap) (L:Addr):Prop:=L∉ρ∧C.base.get? L=none∧∃o,h.get? L=some o∧IsD o
structure Rel (C:Glo) (F:Fm) (ρ:List Addr) (m:MS) (s:Shared):Prop where
 hp:Hp C ρ m.heap s.heap
 ns:∃f,s.heap.Ns F.env.locals f
 w:∀a∈F.W++F.V,a∉ρ∧C.base.get? a=none∧WOk s.heap a
 vars:∀i v,m.get i=some v→∃l,F.lay i=some l∧Holds C ρ s.heap l v
 cells:∀i c,F.lay i=some (.cl c)→∃v,s.heap.IsCell c v
 out:∀L∈F.frs,FrOk C ρ s.heap L
 gens:s.gens=#[]
structure Step (W:List Addr) (ρ:List Addr) (s:Shared) (ρ':List Addr) (s':Shared):Prop where
 pre:ρ<+:ρ'
 new:∀a∈ρ',a∈ρ∨s.heap.get? a=none
 keep:∀a o,s.heap.get? a=some o→a∉ρ→a∉W→s'.heap.get? a=some o∨(IsD o∧∃sl,s'.heap.get? a=some { o with slots:=sl })
 solid:Solids s.heap s'.heap
 alive:∀a o,s.heap.get? a=some o→∃o',s'.heap.get? a=some o'
 gens:s'.gens=s.gens
 os:s'.os=s.os
theorem Step.refl (W ρ:List Addr) (s:Shared):Step W ρ s ρ s:=⟨List.prefix_refl _,fun _ h=>.inl h,fun _ _ e _ _=>.inl e,fun _ _ e _=>e,fun _ o e=>⟨o,e⟩,rfl,rfl⟩
theorem Step.trans {W ρ ρ₁ ρ₂:List Addr}{s s₁ s₂:Shared}(x:Step W ρ s ρ₁ s₁) (y:Step W ρ₁ s₁ ρ₂ s₂):Step W ρ s ρ₂ s₂ where
 pre:=x.pre.trans y.pre
 new:=fun a h=>(y.new a h).elim (fun h=>x.new a h) fun h=>.inr (by
  cases e:s.heap.get? a with
  | none=>rfl
  | some o=>obtain ⟨o',e'⟩:=x.alive a o e;exact nosome h e')
 keep:=fun a o e h1 h2=>by
  have h1':a∉ρ₁:=fun h=>(x.new a h).elim h1 fun h=>nosome h e
  rcases x.keep a o e h1 h2 with e1 | ⟨hc,sl,e1⟩
  ·exact y.keep a o e1 h1' h2
  ·rcases y.keep a _ e1 h1' h2 with e2 | ⟨_,sl2,e2⟩
   ·exact .inr ⟨hc,sl,e2⟩
   ·exact .inr ⟨hc,sl2,e2⟩
 solid:=fun a o e h=>y.solid a o (x.solid a o e h) h
 alive:=fun a o e=>let ⟨o',e'⟩:=x.alive a o e;y.alive a o' e'
 gens:=y.gens.trans x.gens
 os:=y.os.trans x.os
theorem Rep.step {C:Glo}{W ρ ρ':List Addr}{s s':Shared}{x:MV}{v:Value}(r:Rep C ρ s.heap x v) (st:Step W ρ s ρ' s'):Rep C ρ' s'.heap x v:=r.up st.solid st.pre
theorem RepL.step {C:Glo}{W ρ ρ':List Addr}{s s':Shared}{x:List MV}{v:List Value}(r:RepL C ρ s.heap x v) (st:Step W ρ s ρ' s'):RepL C ρ' s'.heap x v:=r.up st.solid st.pre
theorem Step.lack {W ρ ρ':List Addr}{s s':Shared}(x:Step W ρ s ρ' s') (a:Addr) (h:s'.heap.get? a=none):s.heap.get? a=none:=by
 cases e:s.heap.get? a with
 | none=>rfl
 | some o=>obtain ⟨o',e'⟩:=x.alive a o e;exact nosome h e'
end Internal
end
section
namespace Internal
open PySem PyProof.Rows
inductive Fly (b:Heap) (ρ:List Addr) (h:Heap) (L e K:Addr):Prop
 | new (h1:b.get? e=none) (h2:e∉ρ) (oe:Obj) (vs:Array Value) (h3:h.get? e=some oe) (h4:oe.cls=.ref K) (h5:oe.data=.fields vs) (h6:vs[1]?=some .none)
 | old (h1:b.get? e=none) (h2:e∉ρ) (oe:Obj) (vs:Array Value) (h3:h.get? e=some oe) (h4:oe.cls=.ref K) (h5:oe.data=.fields vs) (T:Addr) (oT:Obj) (ts:Array Value) (g1:vs[1]?=some (.ref T)) (g2:b.get? T=none) (g3:T∉ρ) (g4:T≠e) (g5:h.get? T=some oT) (g6:oT.data=.fields ts)
   (g7:ts[3]?=some .none∨ts[3]?=some (rawInt L))
theorem Fly.mono {b b':Heap}{ρ:List Addr}{h:Heap}{L e K:Addr}(y:Fly b ρ h L e K) (k:∀a,b.get? a=none→b'.get? a=none):Fly b' ρ h L e K:=by
 cases y with
 | new h1 h2 oe vs h3 h4 h5 h6=>exact .new (k _ h1) h2 oe vs h3 h4 h5 h6
 | old h1 h2 oe vs h3 h4 h5 T oT ts g1 g2 g3 g4 g5 g6 g7=>exact .old (k _ h1) h2 oe vs h3 h4 h5 T oT ts g1 (k _ g2) g3 g4 g5 g6 g7
inductive Er (C:Glo) (F:Fm) (X:XM) (ρ:List Addr) (s:Shared) (e:Value) (s':Shared):Prop
 | mk (ρ':List Addr) (m':MS) (k:Nat) (a K:Addr) (st:Step F.W ρ s ρ' s') (R:Rel C F ρ' m' s') (he:e=.ref a) (hk:C.xa k=some K) (hf:Fly s.heap ρ' s'.heap F.env.locals a K) (hx:X k m'):Er C F X ρ s e s'
theorem Er.back {C:Glo}{F:Fm}{X:XM}{ρ ρ₁:List Addr}{s s₁:Shared}(st:Step F.W ρ s ρ₁ s₁):∀e s',Er C F X ρ₁ s₁ e s'→Er C F X ρ s e s':=
 fun _ _ ⟨ρ',m',k,a,K,h1,h2,h3,h4,h5,h6⟩=>⟨ρ',m',k,a,K,st.trans h1,h2,h3,h4,h5.mono st.lack,h6⟩
theorem Er.mono {C:Glo}{F:Fm}{X X':XM}{ρ:List Addr}{s:Shared}(h:∀k m,X k m→X' k m):∀e s',Er C F X ρ s e s'→Er C F X' ρ s e s':=
 fun _ _ ⟨ρ',m',k,a,K,h1,h2,h3,h4,h5,h6⟩=>⟨ρ',m',k,a,K,h1,h2,h3,h4,h5,h _ _ h6⟩
theorem Er.no {C:Glo}{F:Fm}{ρ:List Addr}{s s':Shared}{e:Value}{P:Prop}(h:Er C F noX ρ s e s'):P:=let ⟨_,_,_,_,_,_,_,_,_,_,h⟩:=h;h.elim
end Internal
end
section
namespace Internal
open PySem PyProof.Rows
noncomputable abbrev mod (C:Glo):Model:=model C.prog C.w
inductive Out (C:Glo) (F:Fm) (ρ:List Addr) (s:Shared) (Q:PQ) (v:Value) (s':Shared):Prop
 | mk (ρ':List Addr) (m':MS) (x:MV) (st:Step F.W ρ s ρ' s') (R:Rel C F ρ' m' s') (rx:Rep C ρ' s'.heap x v) (hq:Q x m'):Out C F ρ s Q v s'
theorem Out.back {C:Glo}{F:Fm}{Q:PQ}{ρ ρ₁:List Addr}{s s₁:Shared}(st:Step F.W ρ s ρ₁ s₁):∀v s',Out C F ρ₁ s₁ Q v s'→Out C F ρ s Q v s':=
 fun _ _ ⟨ρ',m',x,a,b,c,d⟩=>⟨ρ',m',x,st.trans a,b,c,d⟩
noncomputable def WPv (C:Glo) (F:Fm) (X:XM) (t:Sem Value) (Q:PQ) (m:MS):Prop:=
 ∀s ρ,Rel C F ρ m s→wpAny (mod C) F.A t (Out C F ρ s Q) (Er C F X ρ s) s
theorem WPv.then {C:Glo}{F:Fm}{X:XM}{t:Sem Value}{Q:PQ}{m:MS}{s:Shared}{ρ:List Addr}{P:Value→Shared→Prop}(h:WPv C F X t Q m) (R:Rel C F ρ m s)
  (k:∀ρ₁ s₁ m₁ x v,Step F.W ρ s ρ₁ s₁→Rel C F ρ₁ m₁ s₁→Rep C ρ₁ s₁.heap x v→Q x m₁→P v s₁):wpAny (mod C) F.A t P (Er C F X ρ s) s:=
 wpAny_mono (h s ρ R) (fun v s₁ ⟨ρ₁,m₁,x,a,b,c,d⟩=>k ρ₁ s₁ m₁ x v a b c d) fun _ _ e=>e
theorem backV {C:Glo}{F:Fm}{X:XM}{A:Around}{t:Sem Value}{Q:PQ}{ρ ρ₁:List Addr}{s s₁ s₂:Shared}(st:Step F.W ρ s ρ₁ s₁) (h:wpAny (mod C) A t (Out C F ρ₁ s₁ Q) (Er C F X ρ₁ s₁) s₂) :
  wpAny (mod C) A t (Out C F ρ s Q) (Er C F X ρ s) s₂:=wpAny_mono h (Out.back st) (Er.back st)
end Internal
end
section
namespace Internal
open PySem
noncomputable def Loc.addr:Loc→Addr
 | .nm L _=>L
 | .cl c=>c
theorem ns_unique {h:Heap}{a:Addr}{f g:Str→Option Value}(x:h.Ns a f) (y:h.Ns a g):f=g:=by
 obtain ⟨o,es,ep,ho,hd,_,hf⟩:=x
 obtain ⟨o',es',ep',ho',hd',_,hg⟩:=y
 obtain rfl:=same ho ho'
 obtain ⟨rfl,rfl⟩:=Data.dict.inj (hd.symm.trans hd')
 funext n;exact (hf n).symm.trans (hg n)
inductive NsO (h:Heap) (a:Addr):Prop
 | mk (o:Obj) (es:Array DictEntry) (ep:Nat) (ho:h.get? a=some o) (hd:o.data=.dict es ep)
theorem ns_obj {h:Heap}{a:Addr}{f:Str→Option Value}(x:h.Ns a f):NsO h a:=by
 obtain ⟨o,es,ep,ho,hd,_⟩:=x
 exact ⟨o,es,ep,ho,hd⟩
theorem ns_no_cell {h:Heap}{a:Addr}{f:Str→Option Value}{v:Option Value}{P:Prop}(x:h.Ns a f) (y:h.IsCell a v):P:=by
 obtain ⟨o,es,ep,ho,hd⟩:=ns_obj x
 obtain ⟨o',g1,g2⟩:=y
 obtain rfl:=same ho g1
 exact nomatch hd.symm.trans g2
theorem ns_data {h h':Heap}{a:Addr}{f:Str→Option Value}(x:h.Ns a f) (k:∀o,h.get? a=some o→∃o',h'.get? a=some o'∧o'.data=o.data):h'.Ns a f:=by
 obtain ⟨o,es,ep,ho,hd,r⟩:=x
 obtain ⟨o',ho',hd'⟩:=k o ho
 exact ⟨o',es,ep,ho',hd'.trans hd,r⟩
theorem cell_data {h h':Heap}{a:Addr}{v:Option Value}(x:h.IsCell a v) (k:∀o,h.get? a=some o→∃o',h'.get? a=some o'∧o'.data=o.data):h'.IsCell a v:=by
 obtain ⟨o,ho,hd⟩:=x
 obtain ⟨o',ho',hd'⟩:=k o ho
 exact ⟨o',ho',hd'.trans hd⟩
section
variable {C:Glo}{F:Fm}{ρ ρ':List Addr}{h h':Heap}{m:MS}{s s':Shared}
noncomputable def KeepD (h h':Heap) (a:Addr):Prop:=∀o,h.get? a=some o→∃o',h'.get? a=some o'∧o'.data=o.data∧o'.cls=o.cls
noncomputable def KeepX (h h':Heap) (a:Addr):Prop:=∀o,h.get? a=some o→h'.get? a=some o
theorem KeepX.d {h h':Heap}{a:Addr}(k:KeepX h h' a):KeepD h h' a:=fun o e=>⟨o,k o e,rfl,rfl⟩
theorem KeepD.e {h h':Heap}{a:Addr}(k:KeepD h h' a):∀o,h.get? a=some o→∃o',h'.get? a=some o'∧o'.data=o.data:=fun o e=>let ⟨o',x,y,_⟩:=k o e;⟨o',x,y⟩
theorem Holds.up {l:Loc}{v:MV}(x:Holds C ρ h l v) (hs:Solids h h') (hp:ρ<+:ρ') (k:KeepD h h' l.addr):Holds C ρ' h' l v:=by
 cases l with
 | nm L x'=>obtain ⟨f,w,hn,e,r⟩:=x;exact ⟨f,w,ns_data hn k.e,e,r.up hs hp⟩
 | cl c=>obtain ⟨w,hc,r⟩:=x;exact ⟨w,cell_data hc k.e,r.up hs hp⟩
theorem RepO.up {o:MO}{a:Addr}(x:RepO C ρ h o a) (hs:Solids h h') (hp:ρ<+:ρ') (k:KeepX h h' a):RepO C ρ' h' o a:=by
 cases o with
 | list xs=>obtain ⟨items,n,e,l,z⟩:=x;exact ⟨items,n,k _ e,l.up hs hp,z⟩
 | dict es=>
  obtain ⟨kvs,⟨o,ds,ep,e,r⟩,l,z⟩:=x
  exact ⟨kvs,⟨o,ds,ep,k _ e,r⟩,l.up hs hp,z⟩
 | attrs es=>
  obtain ⟨mA,n,l,r,z⟩:=x
  exact ⟨mA,n.at fun o e=>k o e,fun key v e=>let ⟨w,h1,h2⟩:=l key v e;⟨w,h1,h2.up hs hp⟩,r,z⟩
 | exc c=>obtain ⟨K,o,vs,h1,h2,h3,h4⟩:=x;exact ⟨K,o,vs,h1,k _ h2,h3,h4⟩
theorem Hp.up {hp:List MO}(x:Hp C ρ hp h) (hs:Solids h h') (k:∀a∈ρ,KeepX h h' a) (hb:C.base.StaysIn h'):Hp C ρ hp h':=
 ⟨hb,x.len,x.nodup,x.fresh,fun i o a e1 e2=>(x.objs i o a e1 e2).up hs (List.prefix_refl _) (k a (List.mem_of_getElem? e2))⟩
theorem Hp.alloc {hp:List MO}(x:Hp C ρ hp h) (hs:Solids h h') (k:∀a∈ρ,KeepX h h' a) (hb:C.base.StaysIn h') {o:MO}{a:Addr}(ha:a∉ρ) (hf:C.base.get? a=none)
  (hr:RepO C (ρ++[a]) h' o a):Hp C (ρ++[a]) (hp++[o]) h':=by
 refine ⟨hb,by simp [x.len],?_,?_,?_⟩
 ·exact List.nodup_append.mpr ⟨x.nodup,by simp,fun b hb c hc=>by simp at hc;subst hc;exact fun e=>ha (e▸hb)⟩
 ·intro b hb
  rcases List.mem_append.mp hb with hb | hb
  ·exact x.fresh b hb
  ·simp at hb;subst hb;exact hf
 ·intro i o' b e1 e2
  rcases Nat.lt_trichotomy i hp.length with hi | hi | hi
  ·rw [List.getElem?_append_left hi] at e1
   rw [List.getElem?_append_left (by rw [x.len];exact hi)] at e2
   exact (x.objs i o' b e1 e2).up hs (List.prefix_append _ _) (k b (List.mem_of_getElem? e2))
  ·subst hi
   rw [List.getElem?_append_right (Nat.le_refl _)] at e1
   rw [←x.len,List.getElem?_append_right (Nat.le_refl _)] at e2
   simp at e1 e2;subst e1;subst e2;exact hr
  ·rw [List.getElem?_eq_none (by simp;exact hi)] at e1;exact nos1 e1
theorem Hp.put {hp:List MO}(x:Hp C ρ hp h) (hs:Solids h h') {i:Nat}{a:Addr}(hi:ρ[i]?=some a) (k:∀b∈ρ,b≠a→KeepX h h' b) (hb:C.base.StaysIn h') {o:MO}
  (hr:RepO C ρ h' o a):Hp C ρ (hp.set i o) h':=by
 refine ⟨hb,by simp [x.len],x.nodup,x.fresh,fun j o' b e1 e2=>?_⟩
 by_cases e:i=j
 ·subst e
  obtain rfl:=same hi e2
  have hlt:i<hp.length:=by rw [←x.len];exact (List.getElem?_eq_some_iff.mp hi).1
  obtain rfl:=Option.some.inj ((List.getElem?_set_self hlt).symm.trans e1)
  exact hr
 ·rw [List.getElem?_set_ne e] at e1
  refine (x.objs j o' b e1 e2).up hs (List.prefix_refl _) (k b (List.mem_of_getElem? e2) fun q=>?_)
  subst q
  have h1:=(List.getElem?_eq_some_iff.mp hi)
  have h2:=(List.getElem?_eq_some_iff.mp e2)
  exact e ((List.getElem_inj x.nodup).mp (h1.2.trans h2.2.symm))
structure FmOk (F:Fm):Prop where
 loc:F.env.locals∈F.W
 lay:∀i l,F.lay i=some l→l.addr∈F.W++F.V
 inj:∀i j l,F.lay i=some l→F.lay j=some l→i=j
 kind:F.env.scope.kind=.function
 frs:∃es,F.A.frames=some es∧∀e∈es,e.scope.kind≠.module∧∃L∈F.frs,e.frame=some L
theorem Rel.up {hpN:List MO}(x:Rel C F ρ m s) (ok:FmOk F) (hs:Solids s.heap s'.heap) (hpre:ρ<+:ρ') (hH:Hp C ρ' hpN s'.heap) (hnew:∀a∈ρ',a∈ρ∨s.heap.get? a=none)
  (hW:∀a∈F.W++F.V,KeepD s.heap s'.heap a) (ho:∀L∈F.frs,KeepD s.heap s'.heap L) (hg:s'.gens=s.gens):Rel C F ρ' ⟨m.vars,hpN⟩ s' where
 hp:=hH
 ns:=let ⟨f,hf⟩:=x.ns;⟨f,ns_data hf (hW _ (List.mem_append_left _ ok.loc)).e⟩
 w:=fun a ha=>by
  obtain ⟨h1,h2,o,h3,h4⟩:=x.w a ha
  obtain ⟨o',e',d',_⟩:=hW a ha o h3
  refine ⟨fun hm=>(hnew a hm).elim h1 fun q=>nosome q h3,h2,o',e',by rw [d'];exact h4⟩
 vars:=fun i v e=>let ⟨l,h1,h2⟩:=x.vars i v e;⟨l,h1,h2.up hs hpre (hW _ (ok.lay i l h1))⟩
 cells:=fun i c e=>let ⟨v,h1⟩:=x.cells i c e;⟨v,cell_data h1 (hW c (ok.lay i _ e)).e⟩
 out:=fun L hL=>by
  obtain ⟨h1,h2,o,h3,es,n,h4⟩:=x.out L hL
  obtain ⟨o',e',d',_⟩:=ho L hL o h3
  exact ⟨fun hm=>(hnew L hm).elim h1 fun q=>nosome q h3,h2,o',e',es,n,d'.trans h4⟩
 gens:=hg.trans x.gens
theorem Rel.grow (x:Rel C F ρ m s) (ok:FmOk F) (hk:∀a o,s.heap.get? a=some o→s'.heap.get? a=some o) (hg:s'.gens=s.gens) (hos:s'.os=s.os) :
  Rel C F ρ m s'∧Step F.W ρ s ρ s':=
 ⟨x.up ok (fun a o e _=>hk a o e) (List.prefix_refl _) (x.hp.up (fun a o e _=>hk a o e) (fun a _ o e=>hk a o e) fun b o e=>hk b o (x.hp.base b o e)) (fun a h=>.inl h) (fun a _ o e=>⟨o,hk a o e,rfl,rfl⟩)
  (fun L _ o e=>⟨o,hk L o e,rfl,rfl⟩) hg,
  ⟨List.prefix_refl _,fun _ h=>.inl h,fun a o e _ _=>.inl (hk a o e),fun a o e _=>hk a o e,fun a o e=>⟨o,hk a o e⟩,hg,hos⟩⟩
theorem Rel.tok (x:Rel C F ρ m s) (ok:FmOk F) (t:Nat):Rel C F ρ m { s with toks:=t }∧Step F.W ρ s ρ { s with toks:=t }:=x.grow ok (fun _ _ e=>e) rfl rfl
theorem fresh_at {h:Heap}{a:Addr}(ha:h.objs.size≤a):h.get? a=none:=by
 cases e:h.get? a with
 | none=>rfl
 | some o=>exact absurd (Heap.lt_size e) (Nat.not_lt.mpr ha)
theorem base_fresh (x:Hp C ρ m.heap s.heap) {a:Addr}(ha:s.heap.get? a=none):C.base.get? a=none:=by
 cases e:C.base.get? a with
 | none=>rfl
 | some o=>exact nosome ha (x.base a o e)
theorem Hp.there (x:Hp C ρ m.heap s.heap) {a:Addr}(ha:a∈ρ):∃o,s.heap.get? a=some o:=by
 obtain ⟨i,hi,rfl⟩:=List.getElem_of_mem ha
 have hi':i<m.heap.length:=by rw [←x.len];exact hi
 have:=x.objs i m.heap[i] ρ[i] (List.getElem?_eq_getElem hi') (List.getElem?_eq_getElem hi)
 cases hm:m.heap[i] with
 | list xs=>rw [hm] at this;obtain ⟨_,_,e,_⟩:=this;exact ⟨_,e⟩
 | dict es=>rw [hm] at this;obtain ⟨_,⟨_,_,_,e,_⟩,_⟩:=this;exact ⟨_,e⟩
 | attrs es=>rw [hm] at this;obtain ⟨_,⟨_,_,_,e,_⟩,_⟩:=this;exact ⟨_,e⟩
 | exc c=>rw [hm] at this;obtain ⟨_,_,_,_,e,_⟩:=this;exact ⟨_,e⟩
theorem Rel.alloc (x:Rel C F ρ m s) (ok:FmOk F) (hk:∀a o,s.heap.get? a=some o→s'.heap.get? a=some o) (hg:s'.gens=s.gens) (hos:s'.os=s.os)
  {o:MO}{a:Addr}(ha:s.heap.get? a=none) (hr:RepO C (ρ++[a]) s'.heap o a):Rel C F (ρ++[a]) (m.push o) s'∧Step F.W ρ s (ρ++[a]) s':=by
 have hn:∀b∈ρ++[a],b∈ρ∨s.heap.get? b=none:=fun b hb=>by
  rcases List.mem_append.mp hb with hb | hb
  ·exact .inl hb
  ·simp at hb;subst hb;exact .inr ha
 refine ⟨x.up ok (fun a o e _=>hk a o e) (List.prefix_append _ _) (x.hp.alloc (fun a o e _=>hk a o e) (fun a _ o e=>hk a o e) (fun b o e=>hk b o (x.hp.base b o e)) (fun hm=>?_) (base_fresh x.hp ha) hr) hn
  (fun a _ o e=>⟨o,hk a o e,rfl,rfl⟩) (fun L _ o e=>⟨o,hk L o e,rfl,rfl⟩) hg,⟨List.prefix_append _ _,hn,fun a o e _ _=>.inl (hk a o e),fun a o e _=>hk a o e,fun a o e=>⟨o,hk a o e⟩,hg,hos⟩⟩
 obtain ⟨o',e⟩:=x.hp.there hm
 exact nosome ha e
theorem solids_but {a:Addr}(hk:∀b o,b≠a→h.get? b=some o→h'.get? b=some o) (ha:∀o,h.get? a=some o→¬ Solid o):Solids h h':=fun b o e hs=>by
 by_cases q:b=a
 ·subst q;exact absurd hs (ha o e)
 ·exact hk b o q e
theorem repO_not_solid {o:MO}{a:Addr}(x:RepO C ρ h o a):∀ob,h.get? a=some ob→¬ Solid ob:=fun ob e hs=>by
 cases o with
 | list xs=>
  obtain ⟨items,n,e',_⟩:=x
  obtain rfl:=same e' e
  exact ff hs
 | dict es=>
  obtain ⟨kvs,⟨o',ds,ep,e',_,hd,_⟩,_⟩:=x
  obtain rfl:=same e' e
  exact ff ((congrArg (solidD o'.cls) hd).symm.trans hs)
 | attrs es=>
  obtain ⟨_,⟨o',ds,ep,e',hd,_⟩,_⟩:=x
  obtain rfl:=same e' e
  exact ff ((congrArg (solidD o'.cls) hd).symm.trans hs)
 | exc c=>
  obtain ⟨_,o',vs,_,e',_,hd⟩:=x
  obtain rfl:=same e' e
  exact ff ((congrArg (solidD o'.cls) hd).symm.trans hs)
theorem wok_not_solid {a:Addr}(x:WOk h a):∀ob,h.get? a=some ob→¬ Solid ob:=fun ob e hs=>by
 obtain ⟨o,e',d⟩:=x
 obtain rfl:=same e' e
 rcases d with ⟨es,k,d⟩ | ⟨v,d⟩
 ·exact ff ((congrArg (solidD o.cls) d).symm.trans hs)
 ·exact ff ((congrArg (solidD o.cls) d).symm.trans hs)
theorem RepO.there {o:MO}{a:Addr}(x:RepO C ρ h o a):∃ob,h.get? a=some ob:=by
 cases o with
 | list xs=>obtain ⟨_,_,e,_⟩:=x;exact ⟨_,e⟩
 | dict es=>obtain ⟨_,⟨_,_,_,e,_⟩,_⟩:=x;exact ⟨_,e⟩
 | attrs es=>obtain ⟨_,⟨_,_,_,e,_⟩,_⟩:=x;exact ⟨_,e⟩
 | exc c=>obtain ⟨_,_,_,_,e,_⟩:=x;exact ⟨_,e⟩
theorem Rel.put (x:Rel C F ρ m s) (ok:FmOk F) {i:Nat}{a:Addr}(hi:ρ[i]?=some a) {o₀ o:MO}(h0:m.heap[i]?=some o₀) (hk:∀b ob,b≠a→s.heap.get? b=some ob→s'.heap.get? b=some ob) (hg:s'.gens=s.gens) (hos:s'.os=s.os)
  (hr:RepO C ρ s'.heap o a):Rel C F ρ (m.put i o) s'∧Step F.W ρ s ρ s':=by
 have ham:a∈ρ:=List.mem_of_getElem? hi
 have hs:Solids s.heap s'.heap:=solids_but hk (repO_not_solid (x.hp.objs i o₀ a h0 hi))
 have hb:C.base.StaysIn s'.heap:=fun b ob e=>hk b ob (fun q=>nosome (x.hp.fresh a ham) (q▸e)) (x.hp.base b ob e)
 refine ⟨x.up ok hs (List.prefix_refl _) (x.hp.put hs hi (fun b hb hne ob e=>hk b ob hne e) hb hr) (fun b h=>.inl h) (fun b hb ob e=>⟨ob,hk b ob (fun q=>(x.w b hb).1 (q▸ham)) e,rfl,rfl⟩)
  (fun L hL ob eb=>⟨ob,hk L ob (fun q=>(x.out L hL).1 (q▸ham)) eb,rfl,rfl⟩) hg,⟨List.prefix_refl _,fun b h=>.inl h,fun b ob e h1 _=>.inl (hk b ob (fun q=>h1 (q▸ham)) e),hs,fun b ob e=>?_,hg,hos⟩⟩
 by_cases q:b=a
 ·subst q;exact hr.there
 ·exact ⟨ob,hk b ob q e⟩
theorem MS.get_at {m:MS}{i:Nat}{v:MV}(h:m.get i=some v):m.vars[i]?=some (some v):=by
 unfold MS.get at h
 cases e:m.vars[i]? with
 | none=>rw [e] at h;exact nos1 h
 | some o=>
  rw [e] at h
  cases o with
  | none=>exact nos1 h
  | some w=>exact congrArg (fun z=>some z) h
theorem MS.get_of {m:MS}{i:Nat}{v:MV}(h:m.vars[i]?=some (some v)):m.get i=some v:=by
 unfold MS.get;rw [h]
theorem MS.get_set (m:MS) (i j:Nat) (v w:MV) (h:(m.set i v).get j=some w):(j=i∧w=v)∨(j≠i∧m.get j=some w):=by
 have h:(m.vars.set i (some v))[j]?=some (some w):=MS.get_at h
 by_cases e:i=j
 ·subst e
  have hlt:i<m.vars.length:=by
   have:=(List.getElem?_eq_some_iff.mp h).1
   rw [List.length_set] at this;exact this
  rw [List.getElem?_set_self hlt] at h
  exact .inl ⟨rfl,(Option.some.inj (Option.some.inj h)).symm⟩
 ·rw [List.getElem?_set_ne e] at h
  exact .inr ⟨fun q=>e q.symm,MS.get_of h⟩
theorem Rel.own (x:Rel C F ρ m s) (ok:FmOk F) {a:Addr}(ha:a∈F.W) (hsb:Heap.SameBut a s.heap s'.heap) (hg:s'.gens=s.gens) (hos:s'.os=s.os) {m':MS}(hm:m'.heap=m.heap)
  (hw:WOk s'.heap a) (hfr:∀o,s.heap.get? a=some o→IsD o→∃o',s'.heap.get? a=some o'∧IsD o') (hns:∃f,s'.heap.Ns F.env.locals f) (hcell:∀v,s.heap.IsCell a v→∃w,s'.heap.IsCell a w)
  (hv:Solids s.heap s'.heap→∀i v,m'.get i=some v→∃l,F.lay i=some l∧Holds C ρ s'.heap l v):Rel C F ρ m' s'∧Step F.W ρ s ρ s':=by
 have hk:∀b ob,b≠a→s.heap.get? b=some ob→s'.heap.get? b=some ob:=fun b ob q e=>(hsb.2 b q).trans e
 have hL:=x.w _ (List.mem_append_left _ ha)
 have hs:Solids s.heap s'.heap:=solids_but hk (wok_not_solid hL.2.2)
 refine ⟨⟨?_,hns,fun b hb=>?_,hv hs,fun i c e=>?_,fun e he=>?_,hg.trans x.gens⟩,⟨List.prefix_refl _,fun b h=>.inl h,fun b ob e h1 h2=>.inl (hk b ob (fun q=>h2 (q▸ha)) e),hs,fun b ob e=>?_,hg,hos⟩⟩
 ·rw [hm]
  exact x.hp.up hs (fun b hb ob e=>hk b ob (fun q=>hL.1 (q▸hb)) e) fun b ob e=>hk b ob (fun q=>nosome hL.2.1 (q▸e)) (x.hp.base b ob e)
 ·obtain ⟨h1,h2,o,h3,h4⟩:=x.w b hb
  refine ⟨h1,h2,?_⟩
  by_cases q:b=a
  ·subst q;exact hw
  ·exact ⟨o,hk b o q h3,h4⟩
 ·obtain ⟨v,o,h1,h2⟩:=x.cells i c e
  by_cases q:c=a
  ·subst q;exact hcell v ⟨o,h1,h2⟩
  ·exact ⟨v,o,hk c o q h1,h2⟩
 ·obtain ⟨h1,h2,o,h3,h4⟩:=x.out e he
  refine ⟨h1,h2,?_⟩
  by_cases q:e=a
  ·subst q;exact hfr o h3 h4
  ·exact ⟨o,hk e o q h3,h4⟩
 ·by_cases q:b=a
  ·subst q;obtain ⟨o,e,_⟩:=hw;exact ⟨o,e⟩
  ·exact ⟨ob,hk b ob q e⟩
theorem Rel.setName (x:Rel C F ρ m s) (ok:FmOk F) {i:Nat}{n:Str}(hi:F.lay i=some (.nm F.env.locals n)) {f:Str→Option Value}{v:Value}{w:MV}(hf:s.heap.Ns F.env.locals f)
  (hn:s'.heap.Ns F.env.locals (fun y=>if y=n then some v else f y)) (hsb:Heap.SameBut F.env.locals s.heap s'.heap) (hg:s'.gens=s.gens) (hos:s'.os=s.os) (hr:Rep C ρ s.heap w v) :
  Rel C F ρ (m.set i w) s'∧Step F.W ρ s ρ s':=by
 refine x.own ok ok.loc hsb hg hos rfl ?_ (fun _ _ _=>?_) ⟨_,hn⟩ (fun v hc=>?_) fun hs j u e=>?_
 ·obtain ⟨o,es,ep,ho,hd⟩:=ns_obj hn
  exact ⟨o,ho,.inl ⟨es,ep,hd⟩⟩
 ·obtain ⟨o,es,ep,ho,hd⟩:=ns_obj hn
  exact ⟨o,ho,es,ep,hd⟩
 ·exact ns_no_cell hf hc
 ·rcases MS.get_set m i j w u e with ⟨rfl,rfl⟩ | ⟨hne,e⟩
  ·exact ⟨_,hi,_,v,hn,if_pos rfl,hr.up hs (List.prefix_refl _)⟩
  ·obtain ⟨l,h1,h2⟩:=x.vars j u e
   refine ⟨l,h1,?_⟩
   by_cases q:l.addr=F.env.locals
   ·cases l with
    | nm L y=>
     obtain rfl:L=F.env.locals:=q
     obtain ⟨g,z,g1,g2,g3⟩:=h2
     obtain rfl:=ns_unique g1 hf
     exact ⟨_,z,hn,(if_neg fun q:y=n=>hne (ok.inj j i _ h1 (by rw [q];exact hi))).trans g2,g3.up hs (List.prefix_refl _)⟩
    | cl c=>
     obtain rfl:c=F.env.locals:=q
     obtain ⟨z,hc,_⟩:=h2
     exact ns_no_cell hf hc
   ·exact h2.up hs (List.prefix_refl _) fun o e=>⟨o,(hsb.2 _ q).trans e,rfl,rfl⟩
theorem Rel.setCell (x:Rel C F ρ m s) (ok:FmOk F) {i:Nat}{c:Addr}(hi:F.lay i=some (.cl c)) (hcm:c∈F.W) {v₀:Option Value}{v:Value}{w:MV}(h0:s.heap.IsCell c v₀)
  (hn:s'.heap.IsCell c (some v)) (hsb:Heap.SameBut c s.heap s'.heap) (hg:s'.gens=s.gens) (hos:s'.os=s.os) (hr:Rep C ρ s.heap w v) :
  Rel C F ρ (m.set i w) s'∧Step F.W ρ s ρ s':=by
 refine x.own ok hcm hsb hg hos rfl ?_ (fun o e he=>?_) ?_ (fun _ _=>⟨_,hn⟩) fun hs j u e=>?_
 ·obtain ⟨o,ho,hd⟩:=hn
  exact ⟨o,ho,.inr ⟨_,hd⟩⟩
 ·obtain ⟨o',g1,g2⟩:=h0
  obtain ⟨_,_,he⟩:=he
  obtain rfl:=same e g1
  exact nomatch g2.symm.trans he
 ·obtain ⟨f,hf⟩:=x.ns
  exact ⟨f,hf.sameBut hsb fun q=>ns_no_cell hf (q▸h0)⟩
 ·rcases MS.get_set m i j w u e with ⟨rfl,rfl⟩ | ⟨hne,e⟩
  ·exact ⟨_,hi,v,hn,hr.up hs (List.prefix_refl _)⟩
  ·obtain ⟨l,h1,h2⟩:=x.vars j u e
   refine ⟨l,h1,?_⟩
   by_cases q:l.addr=c
   ·cases l with
    | nm L y=>
     obtain rfl:L=c:=q
     obtain ⟨g,z,hg,_⟩:=h2
     exact ns_no_cell hg h0
    | cl c'=>
     obtain rfl:c'=c:=q
     exact absurd (ok.inj j i _ h1 hi) hne
   ·exact h2.up hs (List.prefix_refl _) fun o e=>⟨o,(hsb.2 _ q).trans e,rfl,rfl⟩
end
end Internal
end
section
namespace Internal
open PySem
section
variable {C:Glo}{F:Fm}{X:XM}{ρ:List Addr}{m:MS}{s:Shared}{Q:PQ}{E:Value→Shared→Prop}{A:Around}
theorem small_bits {x:Int}(h:small x):Builtin.Int.intBits x≤64:=by
 unfold small at h
 refine intBits_le_64 ?_ ?_<;>lia
theorem fdiv_pos' {x y:Int}(h:0<y):x.fdiv y=x / y:=Int.fdiv_eq_ediv_of_nonneg x (Int.le_of_lt h)
theorem fmod_pos' {x y:Int}(h:0<y):x.fmod y=x % y:=Int.fmod_eq_emod_of_nonneg x (Int.le_of_lt h)
theorem line_is:line=sizeLine:=rfl
theorem outTok (R:Rel C F ρ m s) (ok:FmOk F) {x:MV}{v:Value}{t:Nat}(hr:Rep C ρ s.heap x v) (h:Q x m):Out C F ρ s Q v { s with toks:=t }:=
 let ⟨R',st⟩:=R.tok ok t;⟨ρ,m,x,st,R',hr,h⟩
theorem outSame (R:Rel C F ρ m s) {x:MV}{v:Value}(hr:Rep C ρ s.heap x v) (h:Q x m):Out C F ρ s Q v s:=⟨ρ,m,x,.refl _ _ _,R,hr,h⟩
theorem outTup (R:Rel C F ρ m s) (ok:FmOk F) {xs:List MV}{vs:List Value}(hr:RepL C ρ s.heap xs vs) (hz:xs.length≤line) (h:Q (.tup xs) m) {t:Nat} :
  Out C F ρ s Q (.ref s.heap.objs.size) { s with heap:=s.heap.push (tupO vs 0),toks:=t }:=by
 obtain ⟨R',st⟩:=R.grow (s':={ s with heap:=s.heap.push (tupO vs 0),toks:=t }) ok (fun a o e=>Heap.get?_push_of_some _ e) rfl rfl
 exact ⟨ρ,m,_,st,R',.tup (Heap.get?_push_size _ rfl) (hr.step st) hz,h⟩
theorem outList (R:Rel C F ρ m s) (ok:FmOk F) {xs:List MV}{vs:List Value}(hr:RepL C ρ s.heap xs vs) (hz:xs.length≤line) (h:Q (.ref m.heap.length) (m.push (.list xs))) {t:Nat} :
  Out C F ρ s Q (.ref s.heap.objs.size) { s with heap:=s.heap.push (listO vs 0),toks:=t }:=by
 have hk:∀a o,s.heap.get? a=some o→(s.heap.push (listO vs 0)).get? a=some o:=fun a o e=>Heap.get?_push_of_some _ e
 obtain ⟨R',st⟩:=R.alloc (s':={ s with heap:=s.heap.push (listO vs 0),toks:=t }) ok hk rfl rfl (o:=.list xs) (a:=s.heap.objs.size) (fresh_at (Nat.le_refl _))
  ⟨vs,0,Heap.get?_push_size _ rfl,hr.up (fun a o e _=>hk a o e) (List.prefix_append _ _),hz⟩
 refine ⟨_,_,_,st,R',.ref (i:=m.heap.length) ?_,h⟩
 rw [←R.hp.len,List.getElem?_append_right (Nat.le_refl _)];simp
theorem str_append (x y:List Nat):str x++str y=str (x++y):=by
 show (⟨x.toArray++y.toArray⟩:Str)=⟨(x++y).toArray⟩
 simp
theorem str_length (x:List Nat):(str x).length=x.length:=by simp [Str.length]
theorem str_cps (x:List Nat):(str x).cps.toList=x:=by simp
noncomputable def opIs:Op→Operator
 | .add=>.Add | .sub=>.Sub | .mul=>.Mult | .fdiv=>.FloorDiv | .mod=>.Mod | .pow=>.Pow
theorem add_tup_ok (R:Rel C F ρ m s) (ok:FmOk F) {x y:List MV}{v w:Value}(hx:Rep C ρ s.heap (.tup x) v) (hy:Rep C ρ s.heap (.tup y) w) (h:x.length+y.length≤line∧Q (.tup (x++y)) m) :
  wpAny (mod C) A (binaryOp .Add v w) (Out C F ρ s Q) E s:=by
 obtain ⟨hl,hq⟩:=h
 obtain ⟨t,n,vs,rfl,gx,lx,zx⟩:=hx.inv
 obtain ⟨b,n2,ws,rfl,gy,ly,zy⟩:=hy.inv
 have e:vs.toArray++ws.toArray=(vs++ws).toArray:=by simp
 by_cases hv:vs=[]
 ·subst hv
  obtain rfl:=List.length_eq_zero_iff.mp lx.length.symm
  exact concat_meets ⟨_,gx,rfl⟩ ⟨_,gy,rfl⟩ noFill_tuple_add seq_tuple_add PySem.F.slot_tuple_add PySem.F.entry_tuple_add (PySem.F.args_tuple_add_2 _ _)
   (PyProof.Rows.tuple_addW0 t b ([]:List Value).toArray ws.toArray n n2 none none #[] #[] (by simp)) ⟨gx,gy,outSame R hy hq⟩
 ·by_cases hw:ws=[]
  ·subst hw
   obtain rfl:=List.length_eq_zero_iff.mp ly.length.symm
   exact concat_meets ⟨_,gx,rfl⟩ ⟨_,gy,rfl⟩ noFill_tuple_add seq_tuple_add PySem.F.slot_tuple_add PySem.F.entry_tuple_add (PySem.F.args_tuple_add_2 _ _)
    (PyProof.Rows.tuple_addW1 t b vs.toArray ([]:List Value).toArray n n2 none none #[] #[] (by simpa using hv) (by simp)) ⟨gx,gy,outSame R hx (by rw [List.append_nil] at hq;exact hq)⟩
  ·refine concat_meets ⟨_,gx,rfl⟩ ⟨_,gy,rfl⟩ noFill_tuple_add seq_tuple_add PySem.F.slot_tuple_add PySem.F.entry_tuple_add (PySem.F.args_tuple_add_2 _ _)
    (PyProof.Rows.tuple_addW2 t b vs.toArray ws.toArray n n2 none none #[] #[] (by simpa using hv) (by simpa using hw) (by rw [List.size_toArray,List.size_toArray,lx.length,ly.length];exact hl)) ⟨gx,gy,?_⟩
   rw [e]
   exact outTup R ok (lx.append ly) (by simpa using hl) hq
theorem num_ok (R:Rel C F ρ m s) (ok:FmOk F) {op:Op}(hop:op≠.add) {x y:Int}{t u:Tok}(h:wpInt2 op x y Q m):wpAny (mod C) A (binaryOp (opIs op) (.int x t) (.int y u)) (Out C F ρ s Q) E s:=by
 cases op with
 | add=>exact absurd rfl hop
 | sub=>exact PyProof.Rows.sub_int' (outTok R ok (.int _ _) h)
 | mul=>exact PyProof.Rows.mul_int (outTok R ok (.int _ _) h.2) (h.1.elim (fun h=>.of_left (small_bits h)) fun h=>.of_right (small_bits h))
 | fdiv=>
  obtain ⟨h1,h⟩:=onT_inv h
  have h1:=of_decide_eq_true h1
  refine PyProof.Rows.floordiv_int (Int.ne_of_gt h1.1) ?_ (.inl (PyProof.noPylong_small (Int.ofNat_lt.mp (by rw [Int.natAbs_of_nonneg (Int.le_of_lt h1.1)];exact h1.2))))
  rw [fdiv_pos' h1.1];exact outTok R ok (.int _ _) h
 | mod=>
  obtain ⟨h1,h⟩:=onT_inv h
  have h1:=of_decide_eq_true h1
  refine PyProof.Rows.mod_int' (Int.ne_of_gt h1) ?_
  rw [fmod_pos' h1];exact outTok R ok (.int _ _) h
 | pow=>
  obtain ⟨h1,hq⟩:=onT_inv h
  obtain ⟨rfl,hy⟩:=of_decide_eq_true h1
  exact PyProof.Rows.pow_int_small (by rcases hy with rfl | rfl<;>decide) (by rcases hy with rfl | rfl<;>decide) (by decide) (outTok R ok (.int _ _) hq)
theorem ints_of {f:Int→Int→Prop}{x y:MV}{v w:Value}(hx:Rep C ρ s.heap x v) (hy:Rep C ρ s.heap y w) (h:onI x fun a=>onI y fun b=>f a b):∃a b t u,v=.int a t∧w=.int b u∧f a b:=by
 obtain ⟨a,rfl,h1⟩:=onI_inv h
 obtain ⟨b,rfl,h2⟩:=onI_inv h1
 obtain ⟨t,rfl⟩:=hx.inv
 obtain ⟨u,rfl⟩:=hy.inv
 exact ⟨a,b,t,u,rfl,rfl,h2⟩
theorem num_of {op:Op}{x y:MV}{v w:Value}(hx:Rep C ρ s.heap x v) (hy:Rep C ρ s.heap y w) (h:wpNum op x y Q m):∃a b t u,v=.int a t∧w=.int b u∧wpInt2 op a b Q m:=ints_of hx hy h
theorem add_str_ok (R:Rel C F ρ m s) (ok:FmOk F) {a b:List Nat}{t u:Tok}(zx:a.length≤line) (zy:b.length≤line) (h:a.length+b.length≤line∧Q (.str (a++b)) m):wpAny (mod C) A (binaryOp .Add (.str (str a) t) (.str (str b) u)) (Out C F ρ s Q) E s:=by
 refine P.add_str ?_
 rw [str_length,str_length]
 by_cases ea:a=[]
 ·subst ea;exact outSame R (.str b u zy) h.2
 ·by_cases eb:b=[]
  ·subst eb;rw [if_neg (by simpa using ea)];exact outSame R (.str a t zx) (by rw [List.append_nil] at h;exact h.2)
  ·rw [if_neg (by simpa using ea),if_neg (by simpa using eb),str_append]
   refine ⟨by rw [str_length,List.length_append];exact h.1,outTok R ok (.str _ _ (by rw [List.length_append];exact h.1)) h.2⟩
theorem add_list_ok (R:Rel C F ρ m s) (ok:FmOk F) {i j:Nat}{v w:Value}(hx:Rep C ρ s.heap (.ref i) v) (hy:Rep C ρ s.heap (.ref j) w) (h:wpAdd (.ref i) (.ref j) Q m):wpAny (mod C) A (binaryOp .Add v w) (Out C F ρ s Q) E s:=by
 obtain ⟨a,rfl,ea⟩:=hx.inv
 obtain ⟨b,rfl,eb⟩:=hy.inv
 obtain ⟨x,e1,h⟩:=onLs_inv h
 obtain ⟨y,e2,h1,h2⟩:=onLs_inv h
 obtain ⟨ix,nx,gx,lx,zx⟩:=R.hp.objs _ _ _ e1 ea
 obtain ⟨iy,ny,gy,ly,zy⟩:=R.hp.objs _ _ _ e2 eb
 have e:ix.toArray++iy.toArray=(ix++iy).toArray:=List.append_toArray ..
 refine P.add_list gx gy ?_ (by rw [List.size_toArray,List.size_toArray,lx.length,ly.length];exact h1)
 rw [e]
 exact outList R ok (lx.append ly) (by rw [List.length_append];exact h1) h2
theorem add_ok (R:Rel C F ρ m s) (ok:FmOk F) {x y:MV}{v w:Value}(hx:Rep C ρ s.heap x v) (hy:Rep C ρ s.heap y w) (h:wpAdd x y Q m):wpAny (mod C) A (binaryOp (opIs .add) v w) (Out C F ρ s Q) E s:=by
 refine Classical.byContradiction fun hn=>?_
 cases x with
 | int a=>
  cases y with
  | int b=>
   obtain ⟨t,rfl⟩:=hx.inv
   obtain ⟨u,rfl⟩:=hy.inv
   exact hn (wpAny_add_int (outTok R ok (.int _ _) h))
  | _=>exact h
 | str a=>
  cases y with
  | str b=>
   obtain ⟨t,rfl,zx⟩:=hx.inv
   obtain ⟨u,rfl,zy⟩:=hy.inv
   exact hn (add_str_ok R ok zx zy h)
  | _=>exact h
 | tup a=>
  cases y with
  | tup b=>exact hn (add_tup_ok R ok hx hy h)
  | _=>exact h
 | ref i=>
  cases y with
  | ref j=>exact hn (add_list_ok R ok hx hy h)
  | _=>exact h
 | _=>exact h
end
end Internal
end
section
namespace Internal
open PySem PyProof.Rows
theorem fold_app (x:List Nat):∀(n:Nat) (a:Array Nat),(List.replicate n x.toArray).foldl (·++·) a=a++((List.replicate n x).flatten).toArray
 | 0,a=>by simp
 | n+1,a=>by
  show (List.replicate n x.toArray).foldl (·++·) (a++x.toArray)=_
  rw [fold_app x n,List.replicate_succ,List.flatten_cons,←List.append_toArray,Array.append_assoc]
theorem flat_len (x:List Nat) (n:Nat):((List.replicate n x).flatten).length=n * x.length:=by
 induction n with
 | zero=>rw [Nat.zero_mul];rfl
 | succ n ih=>rw [List.replicate_succ,List.flatten_cons,List.length_append,ih,Nat.succ_mul,Nat.add_comm]
theorem flat_nil (n:Nat):(List.replicate n ([]:List Nat)).flatten=[]:=List.eq_nil_of_length_eq_zero (by rw [flat_len];rfl)
section
variable {C:Glo}{F:Fm}{ρ:List Addr}{m:MS}{s:Shared}{Q:PQ}{E:Value→Shared→Prop}{A:Around}
theorem rep_str (R:Rel C F ρ m s) (ok:FmOk F) {x:List Nat}{k:Int}{t u:Tok}(hk:0≤k∧k≤1000) (hx:x.length≤1000) (hq:Q (.str (List.replicate k.toNat x).flatten) m):wpAny (mod C) A (binaryOp .Mult (.str (str x) t) (.int k u)) (Out C F ρ s Q) E s:=by
 have hl:(str x).length=x.length:=rfl
 have hn:k.toNat≤1000:=Int.toNat_le.mpr hk.2
 have hz:k.toNat * x.length≤1000000:=Nat.mul_le_mul hn hx
 refine P.mul_str ?_ (fun h1 _=>?_) (fun _ _=>?_) ?_
 ·rw [decide_eq_false (by lia),decide_eq_false (by lia)];rfl
 ·rw [hl]
  have h2:(x.length:Int) * k≤1000 * 1000:=Int.mul_le_mul (Int.ofNat_le.mpr hx) hk.2 hk.1 (by decide)
  exact Int.not_lt.mpr (Int.le_ediv_of_mul_le (by lia) (Int.le_trans h2 (by decide)))
 ·rw [hl,Nat.mul_comm]
  exact decide_eq_false (Nat.not_lt.mpr (Nat.le_trans hz (by decide)))
 ·by_cases h1:k<1
  ·rw [if_pos h1]
   have:k.toNat=0:=by lia
   rw [this] at hq
   exact ⟨by decide,outTok R ok (.str [] _ (by decide)) hq⟩
  ·rw [if_neg h1]
   by_cases h2:(k==1||(str x).length==0)=true
   ·rw [if_pos h2]
    refine outSame R (.str x t (Nat.le_trans hx (by decide))) ?_
    rcases Bool.or_eq_true_iff.mp h2 with e | e
    ·rw [eq_of_beq e] at hq
     have:(List.replicate (1:Int).toNat x).flatten=x:=List.append_nil x
     rw [this] at hq;exact hq
    ·have:x=[]:=List.eq_nil_of_length_eq_zero (eq_of_beq e)
     subst this
     rw [flat_nil] at hq;exact hq
   ·rw [if_neg h2]
    have e:(List.replicate k.toNat (str x).cps).foldl (fun a b=>a++b) #[]=((List.replicate k.toNat x).flatten).toArray:=(fold_app x k.toNat #[]).trans (Array.empty_append ..)
    rw [e]
    have z:((List.replicate k.toNat x).flatten).length≤1000000:=by rw [flat_len];exact hz
    exact ⟨Nat.le_trans (show _≤1000000 from z) (by decide),outTok R ok (.str _ _ (Nat.le_trans z (by decide))) hq⟩
theorem fold_one (v:Value):∀(n:Nat) (a:Array Value),(List.replicate n #[v]).foldl (fun x y=>x++y) a=a++(List.replicate n v).toArray
 | 0,a=>by simp
 | n+1,a=>by
  show (List.replicate n #[v]).foldl (fun x y=>x++y) (a++#[v])=_
  rw [fold_one v n,Array.append_assoc,List.replicate_succ]
  exact congrArg (a++·) (List.append_toArray [v] (List.replicate n v))
theorem repl_rep {x:MV}{v:Value}{h:Heap}(r:Rep C ρ h x v):∀n,RepL C ρ h (List.replicate n x) (List.replicate n v)
 | 0=>.nil
 | n+1=>.cons r (repl_rep r n)
theorem rep_list (R:Rel C F ρ m s) (ok:FmOk F) {i:Nat}{x:MV}{v:Value}{k:Int}{u:Tok}(hx:Rep C ρ s.heap (.ref i) v) (hi:m.heap[i]?=some (.list [x])) (hk:0≤k∧k≤1000000) (hq:Q (.ref m.heap.length) (m.push (.list (List.replicate k.toNat x)))):wpAny (mod C) A (binaryOp .Mult v (.int k u)) (Out C F ρ s Q) E s:=by
 obtain ⟨a,rfl,ea⟩:=hx.inv
 obtain ⟨items,n,g,rl,_⟩:=R.hp.objs _ _ _ hi ea
 obtain ⟨w,rfl,rw'⟩:=rl.one
 have hn:k.toNat≤1000000:=Int.toNat_le.mpr hk.2
 have e:(List.replicate (if ([w].toArray).isEmpty=true then 0 else k.toNat) [w].toArray).foldl (fun x y=>x++y) #[]=(List.replicate k.toNat w).toArray:=(fold_one w k.toNat #[]).trans (Array.empty_append ..)
 refine wpAny_binaryOp_repeat_ref (T:="list") (U:="int") (by decide) ⟨_,g,rfl⟩ (fun s'=>typeIs_int s' k u) noFill_list_mul PySem.F.fills_int_mul PySem.F.slot_int_rmul repeat_list PySem.F.slot_int_index.lookup (call_meets PySem.F.slot_int_rmul (typeIs_int s k u) PySem.F.entry_int_rmul (PySem.F.args_int_rmul_2 _ _) (int___rmul___int_list k u a _ n) ⟨g,rfl,⟨_,g,rfl⟩,call_meets PySem.F.slot_list_mul ⟨_,g,rfl⟩ PySem.F.entry_list_mul (PySem.F.args_list_mul_2 _ _) (AutoListH.list___mul___list_int_3 a _ n k u ?_ ?_ ?_) ⟨g,?_⟩⟩)
 ·simp [Builtin.List.listFitsIndex];lia
 ·show ¬ 1 * k.toNat > _
  lia
 ·show ¬ Builtin.List.listTooLong (1 * k.toNat)=true
  simp [Builtin.List.listTooLong,sizeLine];lia
 ·rw [e]
  exact outList R ok (repl_rep rw' _) (by rw [List.length_replicate];exact Nat.le_trans hn (by decide)) hq
theorem mul_ok (R:Rel C F ρ m s) (ok:FmOk F) {x y:MV}{v w:Value}(hx:Rep C ρ s.heap x v) (hy:Rep C ρ s.heap y w) (h:wpMul x y Q m):wpAny (mod C) A (binaryOp (opIs .mul) v w) (Out C F ρ s Q) E s:=by
 cases y with
 | int j=>
  obtain ⟨u,rfl⟩:=hy.inv
  cases x with
  | int i=>
   obtain ⟨t,rfl⟩:=hx.inv
   exact num_ok R ok (by intro q;cases q) h
  | str s=>
   obtain ⟨t,rfl,_⟩:=hx.inv
   exact rep_str R ok h.2.1.1 h.2.1.2 h.2.2
  | ref i=>
   obtain ⟨xs,hi,h⟩:=onLs_inv h
   obtain ⟨v,rfl,_,hk,hq⟩:=on1_inv h
   exact rep_list R ok hx hi hk hq
  | _=>exact h.elim
 | _=>exact h.elim
end
end Internal
end
section
namespace Internal
open PySem PyProof.Rows
section
variable {C:Glo}{F:Fm}{ρ:List Addr}{m:MS}{s:Shared}{Q:PQ}{E:Value→Shared→Prop}{A:Around}
theorem bin_ok (R:Rel C F ρ m s) (ok:FmOk F) {op:Op}{x y:MV}{v w:Value}(hx:Rep C ρ s.heap x v) (hy:Rep C ρ s.heap y w) (h:wpBin op x y Q m) :
  wpAny (mod C) A (binaryOp (opIs op) v w) (Out C F ρ s Q) E s:=by
 have key:op≠.add→wpNum op x y Q m→wpAny (mod C) A (binaryOp (opIs op) v w) (Out C F ρ s Q) E s:=fun hop h=>by
  obtain ⟨a,b,t,u,rfl,rfl,h⟩:=num_of hx hy h
  exact num_ok R ok hop h
 cases op with
 | add=>exact add_ok R ok hx hy h
 | mul=>exact mul_ok R ok hx hy h
 | sub=>exact key (by intro q;cases q) h
 | fdiv=>exact key (by intro q;cases q) h
 | mod=>exact key (by intro q;cases q) h
 | pow=>exact key (by intro q;cases q) h
end
end Internal
end
section
set_option maxRecDepth 100000
namespace Internal
open PySem PyProof.Rows
theorem dec_nat (n:Nat):dec n=(Nat.toDigits 10 n).map Char.toNat:=by
 show (Nat.repr n).toList.map Char.toNat=_
 rw [Nat.toList_repr]
theorem dec_digits (n:Nat):NumText.AllDigits (dec n):=by
 intro c hc
 rw [dec_nat] at hc
 obtain ⟨ch,h,rfl⟩:=List.mem_map.mp hc
 exact digit_range (Nat.isDigit_of_mem_toDigits (by decide) (by decide) h)
theorem dec_pos (n:Nat):dec n≠[]:=fun e=>by
 have h:=toDigits_len_ge 10 n
 rw [←List.length_map (f:=Char.toNat),←dec_nat,e] at h
 exact absurd h (by decide)
theorem dec_len {i:Int}(h:0≤i∧i<1000000):1≤(dec i).length∧(dec i).length≤6:=by
 obtain ⟨n,rfl⟩:=Int.eq_ofNat_of_zero_le h.1
 have e:(dec n).length=(Nat.repr n).length:=by
  show ((Nat.repr n).toList.map Char.toNat).length=_
  rw [List.length_map,String.length_toList]
 refine ⟨?_,?_⟩
 ·rw [dec_nat,List.length_map]
  exact toDigits_len_ge 10 n
 ·rw [e]
  exact (Nat.length_repr_le_iff (by decide)).mpr (by lia)
theorem dec_step {n:Nat}(h:10≤n):dec n=dec (n / 10:Nat)++[48+n % 10]:=by
 have hm:n % 10<10:=Nat.mod_lt n (by decide)
 have t:Nat.toDigits 10 (n / 10)++Nat.toDigits 10 (n % 10)=Nat.toDigits 10 (10 * (n / 10)+n % 10):=Nat.toDigits_append_toDigits (by decide) (by lia) hm
 rw [Nat.div_add_mod] at t
 have d:∀d:Nat,d<10→(Nat.digitChar d).toNat=48+d:=by decide
 rw [dec_nat,dec_nat,←t,List.map_append,Nat.toDigits_of_lt_base hm,List.map_singleton,d _ hm]
theorem dec_one {n:Nat}(h:n<10):dec n=[48+n]:=by
 have d:∀d:Nat,d<10→(Nat.digitChar d).toNat=48+d:=by decide
 rw [dec_nat,Nat.toDigits_of_lt_base h,List.map_singleton,d _ h]
theorem dec_val (n:Nat):NumText.digitsVal (dec n)=n:=by
 induction n using Nat.strongRecOn with
 | _ n ih=>
  rcases Nat.lt_or_ge n 10 with h | h
  ·rw [dec_one h]
   show 0 * 10+(48+n-48)=n
   lia
  ·rw [dec_step h,NumText.digitsVal_snoc,ih _ (by lia)]
   lia
theorem dec_read {i:Int}(h:0≤i∧i<1000000):intText? (str (dec i))=some i:=by
 obtain ⟨n,rfl⟩:=Int.eq_ofNat_of_zero_le h.1
 have hl:=dec_len h
 have e:=intText_digits (x:=str (dec n)) (dec_digits n) (fun e=>by
  have e':dec n=[]:=e
  rw [e'] at hl;exact absurd hl.1 (by decide)) (by
  show (dec n).toArray.size≤4300
  rw [List.size_toArray];exact n1 hl.2 (by simp +arith only))
 have e':NumText.digitsVal (str (dec n)).cps.toList=n:=dec_val n
 rw [e'] at e
 exact e
theorem no_int:typeLookup (.type "str") "__int__"=pure none:=by rw [typeLookup_type,builtinLookup_eq_fast];kernel_rfl
theorem noIndex:typeLookup (.type "str") "__index__"=pure none:=by rw [typeLookup_type,builtinLookup_eq_fast];kernel_rfl
theorem no_trunc:typeLookup (.type "str") "__trunc__"=pure none:=by rw [typeLookup_type,builtinLookup_eq_fast];kernel_rfl
theorem from_text {M:Model}{A:Around}{E:Value→Shared→Prop}{s:Shared}{Q:Value→Shared→Prop}{v:Value}{text:List Nat}{n:Int}
  (hs:(text.takeWhile (· != 0)).length≤640) (hr:(int_private% "readNumeral") 0 10 (text.takeWhile (· != 0))=(int_private% "Numeral.value") n)
  (ha:((text.takeWhile (· != 0)).length==text.length)=true) (h:Q (.int n s.toks) { s with toks:=s.toks+1 }):wpAny M A ((int_private% "intFromText") v text 10) Q E s:=by
 obtain ⟨hp,g,d,tk,os⟩:=s
 have hs':=decide_eq_true hs
 have ha':=decide_eq_true ha
 repeat (any_goals (first | assumption | (with_reducible refine wpAny_ite_true hs' ?_) | (with_reducible refine wpAny_ite_true ha' ?_) | wp_step))
 all_goals (try rw [hr])
 all_goals (try dsimp only)
 repeat (any_goals (first | assumption | (with_reducible refine wpAny_ite_true hs' ?_) | (with_reducible refine wpAny_ite_true ha' ?_) | wp_step))
structure Kept (p:Prop):Prop where
 it:p
set_option maxHeartbeats 4000000 in
theorem new_text {x:Str}{u:Tok}{n:Int}(hl:x.length≤640) (hn:intText? x=some n):Gives (Builtin.«int.__new__» ⟨[.type "int",.str x u],[]⟩) (.int n):=
 .of_wp fun M A E s Q h=>by
  obtain ⟨hp,g,d,tk,os⟩:=s
  have f1:=PySem.F.conv_sub_int
  have f2:=PySem.F.madeHere_int
  have f3:=no_int
  have f4:=noIndex
  have f5:=no_trunc
  have hs:(numSeenOf x).length≤640:=Nat.le_trans (seen_length x) hl
  have hk:=Kept.mk (show (int_private% "readNumeral") 0 10 (numSeenOf x)=(int_private% "Numeral.value") n∧((numSeenOf x).length==(numTextOf x).length)=true from by
   rcases read0 x hs with ⟨m,h1,h2,h3⟩ | ⟨h1,_⟩
   ·rw [hn] at h1;cases h1;exact ⟨h3,h2⟩
   ·rw [hn] at h1;cases h1)
  have hs':=Kept.mk hs
  clear hs hl hn
  repeat (any_goals (first
   | assumption
   | ((with_reducible show wpAny _ _ ((int_private% "intFromText") _ _ _) _ _ _);refine from_text hs'.it hk.it.1 hk.it.2 ?_)
   | wp_step))
  all_goals first | exact ⟨_,rfl,h⟩ | skip
theorem int_text {C:Glo}{A:Around}{E P:Value→Shared→Prop}{s:Shared}{i:Int}{t:Tok}(h:0≤i∧i<1000000) (hp:P (.int i s.toks) { s with toks:=s.toks+1 }):wpAny (mod C) A (call (.type "int") [.str (str (dec i)) t]) P E s:=
 call_int_1 (new_text (by show (dec i).toArray.size≤640;rw [List.size_toArray];exact Nat.le_trans (dec_len h).2 (by decide)) (dec_read h)).meets (show (Made.int i).post _ s from ⟨rfl,hp⟩)
end Internal
end
section
namespace Internal
open PySem
mutual
noncomputable def D.py:D→PyData
 | .none=>.none
 | .bool b=>.bool b
 | .int i=>.int i
 | .str s=>.str (Internal.str s)
 | .list xs=>.list (D.pys xs)
 | .tup xs=>.tuple (D.pys xs)
noncomputable def D.pys:List D→List PyData
 | []=>[]
 | x::xs=>D.py x::D.pys xs
end
theorem str_eq_iff {x y:List Nat}:(Internal.str x==Internal.str y)=(x==y):=by
 rw [Bool.eq_iff_iff];simp
mutual
theorem D.eqv_py:∀(d e:D),PyData.eqv d.py e.py=d.deq e
 | .none,e=>by cases e<;>rfl
 | .bool b,e=>by cases e<;>rfl
 | .int b,e=>by cases e<;>rfl
 | .str b,e=>by
  cases e with
  | str c=>exact str_eq_iff
  | _=>rfl
 | .list xs,e=>by
  cases e with
  | list ys=>exact D.eqvs_py xs ys
  | _=>rfl
 | .tup xs,e=>by
  cases e with
  | tup ys=>exact D.eqvs_py xs ys
  | _=>rfl
theorem D.eqvs_py:∀(d e:List D),PyData.eqvAll (D.pys d) (D.pys e)=D.deqs d e
 | [],[]=>rfl
 | [],_::_=>rfl
 | _::_,[]=>rfl
 | x::xs,y::ys=>by show (PyData.eqv x.py y.py&&PyData.eqvAll (D.pys xs) (D.pys ys))=(x.deq y&&D.deqs xs ys);rw [D.eqv_py x y,D.eqvs_py xs ys]
end
mutual
theorem D.lay_py:∀(d:D),d.ok=true→d.py.canLay0=true
 | .none,_=>rfl
 | .bool b,_=>rfl
 | .int b,_=>rfl
 | .str b,h=>by
  show PyData.strOk (Internal.str b)=true
  simp only [PyData.strOk,List.all_toArray,List.all_eq_true,decide_eq_true_eq]
  intro c hc;have:=of_decide_eq_true (List.all_eq_true.mp h c hc);exact Nat.le_trans this (nb rfl)
 | .list xs,h=>D.lays_py xs h
 | .tup xs,h=>D.lays_py xs h
theorem D.lays_py:∀(d:List D),D.oks d=true→PyData.canLayAll0 (D.pys d)=true
 | [],_=>rfl
 | x::xs,h=>by
  have h:x.ok=true∧D.oks xs=true:=(Bool.and_eq_true_iff ..).mp h
  exact (Bool.and_eq_true_iff ..).mpr ⟨D.lay_py x h.1,D.lays_py xs h.2⟩
end
mutual
theorem D.depth_py:∀(d:D),d.py.depth=d.deep
 | .none=>rfl
 | .bool b=>rfl
 | .int b=>rfl
 | .str b=>rfl
 | .list xs=>by show PyData.depthAll (D.pys xs)+1=D.deeps xs+1;rw [D.depths_py xs]
 | .tup xs=>by show PyData.depthAll (D.pys xs)+1=D.deeps xs+1;rw [D.depths_py xs]
theorem D.depths_py:∀(d:List D),PyData.depthAll (D.pys d)=D.deeps d
 | []=>rfl
 | x::xs=>by show max x.py.depth (PyData.depthAll (D.pys xs))=max x.deep (D.deeps xs);rw [D.depth_py x,D.depths_py xs]
end
section
variable {C:Glo}{F:Fm}{X:XM}{ρ:List Addr}{m:MS}{s:Shared}{E:Value→Shared→Prop}{A:Around}{h:Heap}{hp:List MO}
theorem Rd.both (H:Hp C ρ hp h):(∀{x:MV}{d:D},Rd hp x d→∀v,Rep C ρ h x v→∃as,Reads h v d.py as)∧(∀{x:List MV}{d:List D},Rds hp x d→∀v,RepL C ρ h x v→∃as,ReadsAll h v (D.pys d) as):=by
 have k1:∀v,Rep C ρ h .none v→∃as,Reads h v D.none.py as:=fun v r=>by obtain rfl:=r.inv;exact ⟨_,.none⟩
 have k2:∀b v,Rep C ρ h (.bool b) v→∃as,Reads h v (D.bool b).py as:=fun b v r=>by obtain rfl:=r.inv;exact ⟨_,.bool b⟩
 have k3:∀i v,Rep C ρ h (.int i) v→∃as,Reads h v (D.int i).py as:=fun i v r=>by obtain ⟨t,rfl⟩:=r.inv;exact ⟨_,.int i t⟩
 have k4:∀s v,Rep C ρ h (.str s) v→∃as,Reads h v (D.str s).py as:=fun s v r=>by obtain ⟨t,rfl,_⟩:=r.inv;exact ⟨_,.str _ t⟩
 have k5:∀{xs ds},Rds hp xs ds→(∀v,RepL C ρ h xs v→∃as,ReadsAll h v (D.pys ds) as)→∀v,Rep C ρ h (.tup xs) v→∃as,Reads h v (D.tup ds).py as:=fun _ ih v r=>by
  obtain ⟨a,n,items,rfl,g,l,_⟩:=r.inv
  obtain ⟨as,q⟩:=ih _ l
  exact ⟨_,.tuple g rfl rfl q⟩
 have k6:∀{i xs ds},hp[i]?=some (.list xs)→Rds hp xs ds→(∀v,RepL C ρ h xs v→∃as,ReadsAll h v (D.pys ds) as)→∀v,Rep C ρ h (.ref i) v→∃as,Reads h v (D.list ds).py as:=fun hi _ ih v r=>by
  obtain ⟨a,rfl,e⟩:=r.inv
  obtain ⟨items,n,g,r,_⟩:=H.objs _ _ _ hi e
  obtain ⟨as,q⟩:=ih _ r
  exact ⟨_,.list g rfl rfl q⟩
 have k7:∀v,RepL C ρ h [] v→∃as,ReadsAll h v (D.pys []) as:=fun v r=>by obtain rfl:=r.inv;exact ⟨_,.nil⟩
 have k8:∀{x xs d ds},Rd hp x d→Rds hp xs ds→(∀v,Rep C ρ h x v→∃as,Reads h v d.py as)→(∀v,RepL C ρ h xs v→∃as,ReadsAll h v (D.pys ds) as)→∀v,RepL C ρ h (x::xs) v→∃as,ReadsAll h v (D.pys (d::ds)) as:=fun _ _ i1 i2 v r=>by
  obtain ⟨w,ws,rfl,a,b⟩:=r.inv
  obtain ⟨as,q⟩:=i1 _ a
  obtain ⟨bs,q'⟩:=i2 _ b
  exact ⟨_,.cons q q'⟩
 exact ⟨fun r=>Rd.rec (motive_1:=fun x d _=>∀v,Rep C ρ h x v→∃as,Reads h v d.py as) (motive_2:=fun x d _=>∀v,RepL C ρ h x v→∃as,ReadsAll h v (D.pys d) as) k1 k2 k3 k4 k5 k6 k7 k8 r,
  fun r=>Rds.rec (motive_1:=fun x d _=>∀v,Rep C ρ h x v→∃as,Reads h v d.py as) (motive_2:=fun x d _=>∀v,RepL C ρ h x v→∃as,ReadsAll h v (D.pys d) as) k1 k2 k3 k4 k5 k6 k7 k8 r⟩
theorem Rd.reads (H:Hp C ρ hp h) {x:MV}{d:D}{v:Value}(r:Rd hp x d) (q:Rep C ρ h x v):∃as,Reads h v d.py as:=(Rd.both H).1 r v q
inductive OutB (s:Shared) (P:Bool→Prop) (r:Value) (s':Shared):Prop
 | mk (b:Bool) (t:Nat) (hr:r=.bool b) (hs:s'={ s with toks:=t }) (hp:P b):OutB s P r s'
theorem eqP_ok (R:Hp C ρ hp s.heap) {x y:MV}{v w:Value}(hx:Rep C ρ s.heap x v) (hy:Rep C ρ s.heap y w) {d e:D}(hd:Rd hp x d) (he:Rd hp y e) (hk:d.deep≤1000) (h1:d.ok=true) (h2:e.ok=true)
  (hu:A.units+1000<cLine) {P:Bool→Prop}(h:P (d.deq e)):wpAny (mod C) A (compareOp .Eq v w) (OutB s P) E s:=by
 obtain ⟨as,ra⟩:=hd.reads R hx
 obtain ⟨bs,rb⟩:=he.reads R hy
 refine SeqAt.compareEq_reads ra rb (d.lay_py h1) (e.lay_py h2) ?_ ⟨_,s.toks,rfl,rfl,?_⟩
 ·rw [D.depth_py,D.depth_py];exact Nat.lt_of_le_of_lt (Nat.add_le_add_left (Nat.le_trans (Nat.min_le_left ..) hk) _) hu
 ·rw [D.eqv_py];exact h
theorem neP_ok (R:Hp C ρ hp s.heap) {x y:MV}{v w:Value}(hx:Rep C ρ s.heap x v) (hy:Rep C ρ s.heap y w) {d e:D}(hd:Rd hp x d) (he:Rd hp y e) (hk:d.deep≤1000) (h1:d.ok=true) (h2:e.ok=true)
  (hu:A.units+1000<cLine) {P:Bool→Prop}(h:P (!d.deq e)):wpAny (mod C) A (compareOp .NotEq v w) (OutB s P) E s:=by
 obtain ⟨as,ra⟩:=hd.reads R hx
 obtain ⟨bs,rb⟩:=he.reads R hy
 refine SeqAt.compareNe_reads ra rb (d.lay_py h1) (e.lay_py h2) ?_ ⟨_,s.toks,rfl,rfl,?_⟩
 ·rw [D.depth_py,D.depth_py];exact Nat.lt_of_le_of_lt (Nat.add_le_add_left (Nat.le_trans (Nat.min_le_left ..) hk) _) hu
 ·rw [D.eqv_py];exact h
open SeqAt in
theorem aeq_ok {x y:MV}{v w:Value}(hx:Rep C ρ s.heap x v) (hy:Rep C ρ s.heap y w) {b:Bool}(h:aeq x y=some b):RcAt A s v w b∧RcNeAt A s v w (!b):=by
 refine Classical.byContradiction fun hn=>?_
 have key:∀{c:Bool},RcAt A s v w c∧RcNeAt A s v w (!c)→some c=some b→False:=fun {c} q e=>by obtain rfl:=Option.some.inj e;exact hn q
 clear hn
 cases x with
 | none=>
  cases hx.inv
  cases y with
  | none=>cases hy.inv;exact key ⟨RcAt.none_none,RcNeAt.none_none⟩ h
  | bool q=>cases hy.inv;exact key ⟨RcAt.none_bool q,RcNeAt.none_bool q⟩ h
  | int q=>obtain ⟨t,rfl⟩:=hy.inv;exact key ⟨RcAt.none_int q t,RcNeAt.none_int q t⟩ h
  | str q=>obtain ⟨t,rfl,_⟩:=hy.inv;exact key ⟨RcAt.none_str (Internal.str q) t,RcNeAt.none_str (Internal.str q) t⟩ h
  | _=>exact nos1 h
 | bool p=>
  cases hx.inv
  cases y with
  | none=>cases hy.inv;exact key ⟨RcAt.bool_none p,RcNeAt.bool_none p⟩ h
  | bool q=>cases hy.inv;exact key ⟨RcAt.bool_bool p q,RcNeAt.bool_bool p q⟩ h
  | str q=>obtain ⟨t,rfl,_⟩:=hy.inv;exact key ⟨RcAt.bool_str p (Internal.str q) t,RcNeAt.bool_str p (Internal.str q) t⟩ h
  | _=>exact nos1 h
 | int p=>
  obtain ⟨u,rfl⟩:=hx.inv
  cases y with
  | none=>cases hy.inv;exact key ⟨RcAt.int_none p u,RcNeAt.int_none p u⟩ h
  | int q=>obtain ⟨t,rfl⟩:=hy.inv;exact key ⟨RcAt.int_int p u q t,RcNeAt.int_int p u q t⟩ h
  | str q=>obtain ⟨t,rfl,_⟩:=hy.inv;exact key ⟨RcAt.int_str p u (Internal.str q) t,RcNeAt.int_str p u (Internal.str q) t⟩ h
  | _=>exact nos1 h
 | str p=>
  obtain ⟨u,rfl,_⟩:=hx.inv
  cases y with
  | none=>cases hy.inv;exact key ⟨RcAt.str_none (Internal.str p) u,RcNeAt.str_none (Internal.str p) u⟩ h
  | bool q=>cases hy.inv;exact key ⟨RcAt.str_bool (Internal.str p) u q,RcNeAt.str_bool (Internal.str p) u q⟩ h
  | int q=>obtain ⟨t,rfl⟩:=hy.inv;exact key ⟨RcAt.str_int (Internal.str p) u q t,RcNeAt.str_int (Internal.str p) u q t⟩ h
  | str q=>obtain ⟨t,rfl,_⟩:=hy.inv;exact key ⟨RcAt.str_str (Internal.str p) u (Internal.str q) t,RcNeAt.str_str (Internal.str p) u (Internal.str q) t⟩ ((congrArg some str_eq_iff).trans h)
  | _=>exact nos1 h
 | _=>exact nos1 h
end
end Internal
end
section
namespace Internal
open PySem
inductive XAt (h:Heap) (K:Addr) (bm:List Value):Prop
 | mk (N:Addr) (nm q:Str) (bs:List Value) (hdct:Bool) (sn:List Str) (sub:List Value) (ab:Bool) (col:Option Bool) (dd:Option Addr) (k0 k1 k2 k3 k5:Option Value) (mN:Str→Option Value)
   (obj:h.get? K=some (excClassObj nm q K N bs bm hdct sn sub ab col dd k0 k1 k2 k3 k5 "ValueError.__new__")) (ns:h.Ns N mN) (quiet:∀n∈xQuiet,mN n=none)
noncomputable def XCl (h:Heap) (K:Addr) (bm:List Value):Prop:=XAt h K bm∧(bm=vErr∨∃K0,bm=.ref K0::vErr∧XAt h K0 vErr)
structure GX (C:Glo):Prop where
 exc:∀k K,C.xa k=some K→∃K0,C.xa 0=some K0∧∃bm,XCl C.base K bm∧bm=(match k with
  | 0=>vErr
  | _=>.ref K0::vErr)
 xinj:∀j k K,C.xa j=some K→C.xa k=some K→j=k
end Internal
end
section
namespace Internal
open PySem
structure GOk (C:Glo):Prop where
 sys:(C.base.get? sysModules).isSome=true
 nolimit:C.base.NoLimit
 fns:∀f a,C.fa f=some a→∃o fd,C.base.get? a=some o∧o.data=.func fd
 cls:∀k K,C.ca k=some K→∃N,PyProof.Rows.ClsAt C.base K N (C.cm k)
 quiet:∀k K,C.ca k=some K→C.cm k "__setattr__"=none∧C.cm k "__getattribute__"=none∧C.cm k "__getattr__"=none
 x:GX C
section
variable {C:Glo}{F:Fm}{X:XM}{ρ:List Addr}{m:MS}{s:Shared}{E:Value→Shared→Prop}{A:Around}{h:Heap}{hp:List MO}
theorem not_sys (G:GOk C) (H:Hp C ρ hp h) {a:Addr}(ha:a∈ρ):(a==sysModules)=false:=by
 have:=H.fresh a ha
 cases e:a==sysModules with
 | false=>rfl
 | true=>
  have:a=sysModules:=by simpa using e
  subst this
  have g:=G.sys
  rw [H.fresh _ ha] at g
  exact ff g
theorem RepK.length {es:List (List Nat × MV)}{kvs:List (Str × Value)}(r:RepK C ρ h es kvs):kvs.length=es.length:=by
 induction r with
 | nil=>rfl
 | cons _ _ _ ih=>exact congrArg (·+1) ih
theorem str_inj {x y:List Nat}(e:str x=str y):x=y:=by
 have:(str x).cps.toList=(str y).cps.toList:=by rw [e]
 simpa using this
theorem RepK.get {es:List (List Nat × MV)}{kvs:List (Str × Value)}(r:RepK C ρ h es kvs) (k:List Nat):match dget es k with
  | some x=>∃v,valueAt kvs (str k)=some v∧Rep C ρ h x v
  | none=>valueAt kvs (str k)=none:=by
 induction r with
 | nil=>rfl
 | @cons k' x v es ds z a b ih=>
  show match (match k'==k with
   | true=>some x
   | false=>dget es k) with
  | some x=>∃v',valueAt ((str k',v)::ds) (str k)=some v'∧Rep C ρ h x v'
  | none=>valueAt ((str k',v)::ds) (str k)=none
  by_cases e:k'=k
  ·subst e
   rw [beq_self_eq_true]
   exact ⟨v,by simp [valueAt],a⟩
  ·have e2:¬ str k'=str k:=fun q=>e (str_inj q)
   have e1:(k'==k)=false:=by simpa using e
   have ev:valueAt ((str k',v)::ds) (str k)=valueAt ds (str k):=by simp [valueAt,e2]
   rw [e1,ev]
   exact ih
end
end Internal
end
section
namespace Internal
open PySem
section
variable {C:Glo}{F:Fm}{X:XM}{ρ:List Addr}{m:MS}{s:Shared}{E:Value→Shared→Prop}{A:Around}{h:Heap}{hp:List MO}
theorem eqDict_ok (hud:useD=true) (G:GOk C) (R:Hp C ρ hp s.heap) {i j:Nat}{v w:Value}(hx:Rep C ρ s.heap (.ref i) v) (hy:Rep C ρ s.heap (.ref j) w) {es:List (List Nat × MV)}(hi:hp[i]?=some (.dict es)) (hj:hp[j]?=some (.dict es))
  (hl:∀e∈es,∃k,e.2=.int k) (hn:(es.map (·.1)).Nodup) (hu:A.units<cLine) {Q:Value→Shared→Prop} :
  (Q (.bool true) s→wpAny (mod C) A (compareOp .Eq v w) Q E s)∧(Q (.bool false) s→wpAny (mod C) A (compareOp .NotEq v w) Q E s):=absurd hud (by decide)
end
end Internal
end
section
set_option maxRecDepth 100000
namespace Internal
open PySem
section
variable {prog:Program}{w:World}{A:Around}{E:Value→Shared→Prop}{h:Heap}{g:Array GenState}{d:Drawn}{t:Nat}{os:OsState}{a:Addr}{o:Obj}
variable {nm q:Str}{C N:Addr}{bs bm bmB:List Value}{hdct:Bool}{sn:List Str}{sub:List Value}{ab:Bool}{col:Option Bool}{dd:Option Addr}{k0 k1 k2 k3 k5:Option Value}{mN:Str→Option Value}
theorem XAt.keeps {h h':Heap}{K:Addr}{bm:List Value}(x:XAt h K bm) (k:∀b o,h.get? b=some o→h'.get? b=some o):XAt h' K bm:=by
 obtain ⟨N,nm,q,bs,hdct,sn,sub,ab,col,dd,k0,k1,k2,k3,k5,mN,e,n,r⟩:=x
 exact ⟨N,nm,q,bs,hdct,sn,sub,ab,col,dd,k0,k1,k2,k3,k5,mN,k _ _ e,n.keeps k,r⟩
theorem XCl.keeps {h h':Heap}{K:Addr}{bm:List Value}(x:XCl h K bm) (k:∀b o,h.get? b=some o→h'.get? b=some o):XCl h' K bm:=
 ⟨x.1.keeps k,x.2.imp id fun ⟨K0,e,y⟩=>⟨K0,e,y.keeps k⟩⟩
theorem XCl.tail {K:Addr}(x:XCl h K bm):OwnTail h vErr bm:=by
 rcases x.2 with rfl | ⟨K0,rfl,y⟩
 ·exact .base
 ·obtain ⟨N,nm,q,bs,hdct,sn,sub,ab,col,dd,k0,k1,k2,k3,k5,mN,e,n,r⟩:=y
  exact .own e n (r _ (.head _)) .base
theorem XCl.lookup {M:Model}{K:Addr}{n:Str}{y:Option Value}{Q:Option Value→Shared→Prop}(x:XCl h K bm) (hn:n∈xQuiet) (hB:typeLookup (.type "ValueError") n=pure y) (hq:Q y ⟨h,g,d,t,os⟩) :
  wpAny M A (typeLookup (.ref K) n) Q E ⟨h,g,d,t,os⟩:=by
 have hrest:lookupAlong vErr n=pure y:=by rw [typeLookup_eq,F.attrBase_ValueError.mro] at hB;exact hB
 obtain ⟨N,nm,q,bs,hdct,sn,sub,ab,col,dd,k0,k1,k2,k3,k5,mN,e,hN,r⟩:=x.1
 rw [typeLookup_eq]
 refine wpAny_bind (wpAny_mroOf_exc e ?_)
 rw [lookupAlong_cons]
 refine wpAny_bind (wpAny_classOwn_exc e hN ?_)
 rw [r n hn]
 rcases x.2 with rfl | ⟨K0,rfl,y0⟩
 ·rw [hrest];exact wpAny_pure hq
 ·obtain ⟨N',nm',q',bs',hdct',sn',sub',ab',col',dd',l0,l1,l2,l3,l5,mN',e',hN',r'⟩:=y0
  show wpAny M A (lookupAlong (.ref K0::vErr) n) Q E _
  rw [lookupAlong_cons]
  refine wpAny_bind (wpAny_classOwn_exc e' hN' ?_)
  rw [r' n hn]
  show wpAny M A (lookupAlong vErr n) Q E _
  rw [hrest];exact wpAny_pure hq
theorem XCl.has {K:Addr}(x:XCl h K bm) (T:String) (e:vErr.contains (.type T)=true):(Value.ref K::bm).contains (.type T)=true:=by
 rw [List.contains_cons,x.tail.hasType e,Bool.or_true]
theorem lk_ve_class:typeLookup (.type "ValueError") "__class__"=pure (some (.builtin "object.__class__")):=by rw [typeLookup_type,builtinLookup_eq_fast];kernel_rfl
theorem xclass_get {K:Addr}{R:Result→Shared→Prop}(x:XCl h K bm) (hx:h.get? a=some o) (hc:o.cls=.ref K) (hq:R (.ok (.ret (.ref K))) ⟨h,g,d,t,os⟩) :
  codeAny (model prog w) A (.call (.builtin "getset_descriptor.__get__") ⟨[.builtin "object.__class__",.ref a,.ref K],[]⟩) R ⟨h,g,d,t,os⟩:=by
 obtain ⟨N,nm,q,bs,hdct,sn,sub,ab,col,dd,k0,k1,k2,k3,k5,mN,hC,hN,_⟩:=x.1
 have hT5:(⟨h,g,d,t,os⟩:Shared).TypeIs (.builtin "object.__class__") "getset_descriptor":=F.typeOf_object_class
 have hcB:(Value.ref K::bm).contains (.type (".".intercalate ("object.__class__".cutAt '.').dropLast))=true:=by
  rw [F.owner_object_class];exact x.has "object" (by decide +kernel)
 refine codeAny_call_builtin F.slot_gs_get.plain F.entry_gs_get (F.slot_gs_get.check _ _ _ _ _ _ _ _ hT5 (F.args_gs_get _ _ _) ?_)
 repeat (any_goals (first | assumption | (with_reducible refine wpAny_loadPart_at hx ?_;rw [hc]) | (with_reducible refine wpAny_isSubtype_exc hC ?_;rw [hcB]) | wp_step))
 refine ⟨Code.quiet_builtin _ (by decide +kernel),codeAny_builtin F.entry_object_class ?_⟩
 repeat (any_goals (first | assumption | (with_reducible refine wpAny_loadPart_at hx ?_;rw [hc]) | wp_step))
theorem xcheck_ga {M:Model}{nameV:Value}{K:Addr}{Q:Unit→Shared→Prop}(x:XCl h K bm) (hx:h.get? a=some o) (hc:o.cls=.ref K) (hq:Q () ⟨h,g,d,t,os⟩):wpAny M A (checkBuiltinCall "BaseException.__getattribute__" ⟨[.ref a,nameV],[]⟩) Q E ⟨h,g,d,t,os⟩:=by
 obtain ⟨N,nm,q,bs,hdct,sn,sub,ab,col,dd,k0,k1,k2,k3,k5,mN,hC,hN,_⟩:=x.1
 have hk:builtinKind "BaseException.__getattribute__"=some .slot:=by decide +kernel
 have hsplit:splitId "BaseException.__getattribute__"=some ("BaseException","__getattribute__"):=by decide +kernel
 have hcB:(Value.ref K::bm).contains (.type "BaseException")=true:=x.has "BaseException" (by decide +kernel)
 have ha:=F.args_bexc_ga (.ref a) nameV
 simp only [checkBuiltinCall,hk,hsplit]
 refine wpAny_bind ?_
 ·unfold isInstance
  repeat (first | (with_reducible refine wpAny_loadPart_at hx ?_;rw [hc]) | (with_reducible refine wpAny_isSubtype_exc hC ?_;rw [hcB]) | wp_step)
  exact hq
theorem xclass_entry {tk:Tok}{K:Addr}{Q:Fin→Shared→Prop}(x:XCl h K bm) (hx:h.get? a=some o) (hc:o.cls=.ref K) (hq:Q (.done (.ret (.ref K))) ⟨h,g,d,t,os⟩) :
  wpAny (model prog w) A (Builtin.«object.__getattribute__» ⟨[.ref a,.str "__class__" tk],[]⟩) Q E ⟨h,g,d,t,os⟩:=by
 have hT5:(⟨h,g,d,t,os⟩:Shared).TypeIs (.builtin "object.__class__") "getset_descriptor":=F.typeOf_object_class
 have f5:=F.typeOf_object_class
 have f6:=F.slot_gs_get.lookup
 have f7:=F.slot_gs_set.lookup
 have hm:("__class__":Str)∈xQuiet:=.tail _ (.tail _ (.tail _ (.head _)))
 repeat (any_goals (first | assumption | (with_reducible refine wpAny_loadPart_at hx ?_;rw [hc]) | with_reducible refine x.lookup hm lk_ve_class ?_ | wp_step))
 refine xclass_get x hx hc ?_
 repeat (any_goals (first | assumption | wp_step))
theorem xclass_by {tk:Tok}{K:Addr}{Q:Value→Shared→Prop}(x:XCl h K bm) (hx:h.get? a=some o) (hc:o.cls=.ref K) (hq:Q (.ref K) ⟨h,g,d,t,os⟩) :
  wpAny (model prog w) A (getAttrBy (.ref a) (.str "__class__" tk) false) Q E ⟨h,g,d,t,os⟩:=by
 have f3:=F.attrBase_ValueError.ga.bind (.ref a)
 have hm1:("__getattribute__":Str)∈xQuiet:=.tail _ (.head _)
 have hm2:("__getattr__":Str)∈xQuiet:=.tail _ (.tail _ (.head _))
 have hx2:(Value.builtin "BaseException.__getattribute__"==Value.builtin "object.__getattribute__")=false:=by decide +kernel
 have hx1:(onTheHeap (Value.ref K)&&Value.builtin "BaseException.__getattribute__"==Value.builtin "object.__getattribute__")=false:=by rw [hx2];rfl
 repeat (any_goals (first | assumption | (with_reducible refine wpAny_loadPart_at hx ?_;rw [hc]) | with_reducible refine x.lookup hm1 F.attrBase_ValueError.ga.lookup ?_ | with_reducible refine x.lookup hm2 F.attrBase_ValueError.noGetattr ?_ | wp_step))
 refine codeAny_call_builtin F.attrBase_ValueError.ga.plain F.entry_bexc_ga (xcheck_ga x hx hc (xclass_entry x hx hc ?_))
 repeat (any_goals (first | assumption | wp_step))
theorem xclass_attr {K:Addr}{Q:Option Value→Shared→Prop}(x:XCl h K bm) (hx:h.get? a=some o) (hc:o.cls=.ref K) (hq:Q (some (.ref K)) ⟨h,g,d,t+1,os⟩):wpAny (model prog w) A (getAttr? (.ref a) "__class__") Q E ⟨h,g,d,t,os⟩:=by
 unfold getAttr? getAttrBy?
 repeat (any_goals (first | assumption | with_reducible apply xclass_by x hx hc | wp_step))
end
end Internal
end
section
set_option maxRecDepth 100000
namespace Internal
open PySem
section
variable {prog:Program}{w:World}{A:Around}{E:Value→Shared→Prop}{h:Heap}{g:Array GenState}{d:Drawn}{t:Nat}{os:OsState}{a:Addr}{o:Obj}{bm bmD:List Value}
theorem xisi_true {K D:Addr}{dep:Int}{tk:Tok}{Q:Fin→Shared→Prop}(x:XCl h K bm) (y:XCl h D bmD) (hx:h.get? a=some o) (hc:o.cls=.ref K) (hb:(Value.ref K::bm).contains (.ref D)=true) (hq:Q (.done (.ret (.bool true))) ⟨h,g,d,t,os⟩) :
  wpAny (model prog w) A (Builtin.«isinstance.nested» ⟨[.ref a,.ref D,.int dep tk],[]⟩) Q E ⟨h,g,d,t,os⟩:=by
 obtain ⟨N,nm,q,bs,hdct,sn,sub,ab,col,dd,k0,k1,k2,k3,k5,mN,hC,hN,_⟩:=x.1
 obtain ⟨N',nm',q',bs',hdct',sn',sub',ab',col',dd',l0,l1,l2,l3,l5,mN',hD,hN',r'⟩:=y.1
 have hTD:(⟨h,g,d,t,os⟩:Shared).TypeIs (.ref D) "type":=⟨_,hD,rfl⟩
 by_cases he:(Value.ref K==Value.ref D)=true
 ·repeat (any_goals (first | assumption | (with_reducible refine wpAny_loadPart_at hx ?_;rw [hc]) | wp_step))
 ·have he':(Value.ref K==Value.ref D)=false:=by simpa using he
  repeat (any_goals (first | assumption | (with_reducible refine wpAny_loadPart_at hx ?_;rw [hc]) | with_reducible refine wpAny_loadPart_at hD ?_ | (with_reducible refine wpAny_isSubtype_exc hC ?_;rw [hb]) | wp_step))
theorem xisi_false {K D:Addr}{dep:Int}{tk:Tok}{Q:Fin→Shared→Prop}(x:XCl h K bm) (y:XCl h D bmD) (hx:h.get? a=some o) (hc:o.cls=.ref K) (hb:(Value.ref K::bm).contains (.ref D)=false) (hq:Q (.done (.ret (.bool false))) ⟨h,g,d,t+1,os⟩) :
  wpAny (model prog w) A (Builtin.«isinstance.nested» ⟨[.ref a,.ref D,.int dep tk],[]⟩) Q E ⟨h,g,d,t,os⟩:=by
 obtain ⟨N,nm,q,bs,hdct,sn,sub,ab,col,dd,k0,k1,k2,k3,k5,mN,hC,hN,_⟩:=x.1
 obtain ⟨N',nm',q',bs',hdct',sn',sub',ab',col',dd',l0,l1,l2,l3,l5,mN',hD,hN',r'⟩:=y.1
 have hTD:(⟨h,g,d,t,os⟩:Shared).TypeIs (.ref D) "type":=⟨_,hD,rfl⟩
 have hTK:(⟨h,g,d,t+1,os⟩:Shared).TypeIs (.ref K) "type":=⟨_,hC,rfl⟩
 have he':(Value.ref K==Value.ref D)=false:=by
  rw [List.contains_cons,Bool.or_eq_false_iff] at hb
  rw [←hb.1];exact Bool.eq_iff_iff.mpr ⟨fun q=>by rw [eq_of_beq q];exact beq_self_eq_true _,fun q=>by rw [eq_of_beq q];exact beq_self_eq_true _⟩
 repeat (any_goals (first | assumption | (with_reducible refine wpAny_loadPart_at hx ?_;rw [hc]) | with_reducible refine wpAny_loadPart_at hD ?_ | with_reducible refine wpAny_loadPart_at hC ?_ | (with_reducible refine wpAny_isSubtype_exc hC ?_;rw [hb]) | with_reducible apply xclass_attr x hx hc | wp_step))
theorem xisi_ve {K:Addr}{dep:Int}{tk:Tok}{Q:Fin→Shared→Prop}(x:XCl h K bm) (hx:h.get? a=some o) (hc:o.cls=.ref K) (hq:Q (.done (.ret (.bool true))) ⟨h,g,d,t,os⟩) :
  wpAny (model prog w) A (Builtin.«isinstance.nested» ⟨[.ref a,.type "ValueError",.int dep tk],[]⟩) Q E ⟨h,g,d,t,os⟩:=by
 obtain ⟨N,nm,q,bs,hdct,sn,sub,ab,col,dd,k0,k1,k2,k3,k5,mN,hC,hN,_⟩:=x.1
 have hty:typeOf (.type "ValueError")=pure (.type "type"):=by kernel_rfl
 have hb:=x.has "ValueError" (by decide +kernel)
 have he':(Value.ref K==Value.type "ValueError")=false:=rfl
 repeat (any_goals (first | assumption | (with_reducible refine wpAny_loadPart_at hx ?_;rw [hc]) | (with_reducible refine wpAny_isSubtype_exc hC ?_;rw [hb]) | wp_step))
theorem call_xisi {s:Shared}{K D:Addr}{Q:Value→Shared→Prop}(x:XCl s.heap K bm) (y:XCl s.heap D bmD) (hx:s.heap.get? a=some o) (hc:o.cls=.ref K) (hq:∀tk,Q (.bool ((Value.ref K::bm).contains (.ref D))) { s with toks:=tk }) :
  wpAny (model prog w) A (call (.builtin "isinstance") [.ref a,.ref D]) Q E s:=by
 refine call_isinstance (S:=fun _ R s'=>s'=s∧∀tk,R (.ok (.ret (.bool ((Value.ref K::bm).contains (.ref D))))) { s with toks:=tk }) (fun _ _ _ _ s' hs=>?_) ⟨rfl,hq⟩
 obtain ⟨rfl,hs⟩:=hs
 refine isinstance_outer ?_
 obtain ⟨h,g,d,t,os⟩:=s'
 cases hb:(Value.ref K::bm).contains (.ref D) with
 | true=>rw [hb] at hs;exact xisi_true x y hx hc hb (hs t)
 | false=>rw [hb] at hs;exact xisi_false x y hx hc hb (hs (t+1))
theorem call_xisi_ve {s:Shared}{K:Addr}{Q:Value→Shared→Prop}(x:XCl s.heap K bm) (hx:s.heap.get? a=some o) (hc:o.cls=.ref K) (hq:Q (.bool true) s) :
  wpAny (model prog w) A (call (.builtin "isinstance") [.ref a,.type "ValueError"]) Q E s:=by
 refine call_isinstance (S:=fun _ R s'=>s'=s∧R (.ok (.ret (.bool true))) s) (fun _ _ _ _ s' hs=>?_) ⟨rfl,hq⟩
 obtain ⟨rfl,hs⟩:=hs
 refine isinstance_outer ?_
 obtain ⟨h,g,d,t,os⟩:=s'
 exact xisi_ve x hx hc hs
end
end Internal
end
section
namespace Internal
open PySem
section
variable {C:Glo}{F:Fm}{X:XM}{ρ:List Addr}{m:MS}{s:Shared}{Q:PQ}{E:Value→Shared→Prop}{A:Around}{h:Heap}{hp:List MO}
noncomputable def RdsI (hp:List MO) (xs:List MV) (ds:List D):Prop:=match xs with
 | []=>ds=[]
 | x::r=>∃d es,ds=d::es∧Rd hp x d∧Rds hp r es
theorem Rds.inv {xs:List MV}{ds:List D}(r:Rds hp xs ds):RdsI hp xs ds:=Rds.casesOn (motive_2:=fun xs ds _=>RdsI hp xs ds) r rfl (fun a b=>⟨_,_,rfl,a,b⟩)
theorem Rds.get {xs:List MV}{ds:List D}(r:Rds hp xs ds) {j:Nat}{x:MV}(e:xs[j]?=some x):∃d,ds[j]?=some d∧Rd hp x d:=by
 induction xs generalizing ds j with
 | nil=>exact nos1 e
 | cons y xs ih=>
  obtain ⟨d,es,rfl,a,b⟩:=r.inv
  cases j with
  | zero=>obtain rfl:=Option.some.inj e;exact ⟨_,rfl,a⟩
  | succ j=>exact ih b e
theorem Rds.length {xs:List MV}{ds:List D}(r:Rds hp xs ds):ds.length=xs.length:=by
 induction xs generalizing ds with
 | nil=>rw [r.inv];rfl
 | cons y xs ih=>
  obtain ⟨d,es,rfl,a,b⟩:=r.inv
  exact congrArg (·+1) (ih b)
theorem oks_get:∀{ds:List D},D.oks ds=true→∀{j:Nat}{d:D},ds[j]?=some d→d.ok=true
 | [],_,_,_,e=>by exact nos1 e
 | d::ds,h,0,_,e=>by obtain rfl:=Option.some.inj e;exact ((Bool.and_eq_true_iff ..).mp h).1
 | d::ds,h,i+1,_,e=>oks_get ((Bool.and_eq_true_iff ..).mp h).2 e
theorem eqItem (H:Hp C ρ hp s.heap) {x y:MV}{v w:Value}(hx:Rep C ρ s.heap x v) (hy:Rep C ρ s.heap y w) {d e:D}(hd:Rd hp x d) (he:Rd hp y e) (hk:e.deep≤1000) (h1:d.ok=true) (h2:e.ok=true)
  (hu:A.units+1000<cLine):SeqAt.EqAt A s v w (d.deq e):=by
 obtain ⟨as,ra⟩:=hd.reads H hx
 obtain ⟨bs,rb⟩:=he.reads H hy
 rw [←D.eqv_py]
 exact SeqAt.eqAt_reads _ _ A s v w _ _ ra rb (d.lay_py h1) (e.lay_py h2) (by rw [D.depth_py,D.depth_py];exact Nat.lt_of_le_of_lt (Nat.add_le_add_left (Nat.le_trans (Nat.min_le_right ..) hk) _) hu)
open Classical in
theorem any_items (H:Hp C ρ hp s.heap) {x:MV}{v:Value}{ys:List MV}{ws:List Value}(hx:Rep C ρ s.heap x v) (hy:RepL C ρ s.heap ys ws) {d:D}{es:List D}(hd:Rd hp x d) (he:Rds hp ys es) (hk:d.deep≤1000)
  (h1:d.ok=true) (h2:D.oks es=true) (hu:A.units+1000<cLine) :
  ∃e:Value→Bool,(∀y,y∈ws.toArray→SeqAt.EqAt A s y v (e y))∧ws.toArray.any e=es.any (fun e=>e.deq d):=by
 have item:∀j y,ws[j]?=some y→∃e:D,es[j]?=some e∧SeqAt.EqAt A s y v (e.deq d):=fun j y hj=>by
  have hlt:j<ys.length:=by rw [←hy.length];exact (List.getElem?_eq_some_iff.mp hj).1
  obtain ⟨e,e1,e2⟩:=he.get (List.getElem?_eq_getElem hlt)
  obtain ⟨w,w1,w2⟩:=hy.get (List.getElem?_eq_getElem hlt)
  obtain rfl:=same hj w1
  exact ⟨e,e1,eqItem H w2 hx e2 hd hk (oks_get h2 e1) h1 hu⟩
 refine ⟨fun y=>decide (∃(j:Nat) (e:D),ws[j]?=some y∧es[j]?=some e∧e.deq d=true),fun y hy'=>?_,?_⟩
 ·obtain ⟨j,hj⟩:=List.mem_iff_getElem?.mp (by simpa using hy':y∈ws)
  obtain ⟨e,e1,e2⟩:=item j y hj
  show SeqAt.EqAt A s y v (decide (∃(j:Nat) (e:D),ws[j]?=some y∧es[j]?=some e∧e.deq d=true))
  by_cases q:∃(j:Nat) (e:D),ws[j]?=some y∧es[j]?=some e∧e.deq d=true
  ·rw [decide_eq_true q]
   obtain ⟨k,e',k1,k2,k3⟩:=q
   obtain ⟨e'',e3,e4⟩:=item k y k1
   obtain rfl:=same k2 e3
   rw [k3] at e4;exact e4
  ·rw [decide_eq_false q]
   cases b:e.deq d with
   | false=>rw [b] at e2;exact e2
   | true=>exact absurd ⟨j,e,hj,e1,b⟩ q
 ·rw [Bool.eq_iff_iff]
  simp only [List.any_toArray,List.any_eq_true,decide_eq_true_eq]
  constructor
  ·rintro ⟨y,_,j,e,_,h4,h5⟩
   exact ⟨e,List.mem_of_getElem? h4,h5⟩
  ·rintro ⟨e,he',h5⟩
   obtain ⟨j,hj⟩:=List.mem_iff_getElem?.mp he'
   have hlt:j<ws.length:=by rw [hy.length,←he.length];exact (List.getElem?_eq_some_iff.mp hj).1
   exact ⟨ws[j],List.getElem_mem hlt,j,e,List.getElem?_eq_getElem hlt,hj,h5⟩
theorem inP_ok {x:MV}{v:Value}{ys:List MV}{ws:List Value}{a:Addr}(H:Hp C ρ hp s.heap) (hx:Rep C ρ s.heap x v) (l:RepL C ρ s.heap ys ws) {P:Bool→Prop}(hu:A.units+1001<cLine) (h:InP hp x ys P)
  (k:∀e:Value→Bool,(∀y,y∈ws.toArray→SeqAt.EqAt A.in1 s y v (e y))→OutB s P (.bool (ws.toArray.any e)) s→wpAny (mod C) A (compareOp .In v (.ref a)) (OutB s P) E s):wpAny (mod C) A (compareOp .In v (.ref a)) (OutB s P) E s:=by
 obtain ⟨d,es,hd,he,hk,h1,h2,hq⟩:=h
 obtain ⟨e,e1,e2⟩:=any_items (A:=A.in1) H hx l hd he hk h1 h2 (by simp;exact hu)
 exact k e e1 ⟨_,s.toks,rfl,rfl,by rw [e2];exact hq⟩
theorem strKind_is' (prog:Program) (w:World) (x:Str) (t:Tok):(strKind prog w).is x (.str x t)=true:=by simp [strKind,Value.isStrOf]
theorem in_dict (H:Hp C ρ hp s.heap) {x:MV}{v:Value}{a:Addr}{es:List (List Nat × MV)}{kvs:List (Str × Value)}(hx:Rep C ρ s.heap x v) (hs:(a==sysModules)=false) (dk:s.heap.DictOf (strKind C.prog C.w) a kvs) (rk:RepK C ρ s.heap es kvs) {P:Bool→Prop}(h:onS x fun s=>P (dget es s).isSome) :
  wpAny (mod C) A (compareOp .In v (.ref a)) (OutB s P) E s:=by
 obtain ⟨k,rfl,hq⟩:=onS_inv h
 obtain ⟨t,rfl,_⟩:=hx.inv
 refine wpAny_in_of (strKind_is' C.prog C.w (str k) t) hs dk.mapOf ⟨_,s.toks+1,rfl,rfl,?_⟩
 have:=rk.get k
 cases e:dget es k with
 | none=>rw [e] at this hq;rw [this];exact hq
 | some x=>rw [e] at this hq;obtain ⟨v,e',_⟩:=this;rw [e'];exact hq
theorem in_ref (G:GOk C) (H:Hp C ρ hp s.heap) {x:MV}{i:Nat}{v w:Value}(hx:Rep C ρ s.heap x v) (hc:Rep C ρ s.heap (.ref i) w) {P:Bool→Prop}(hu:A.units+1001<cLine) (h:wpInO hp[i]? x P hp) :
  wpAny (mod C) A (compareOp .In v w) (OutB s P) E s:=by
 obtain ⟨a,rfl,g⟩:=hc.inv
 obtain ⟨ys,hi,h⟩ | ⟨es,hi,h⟩:=onLD_inv h
 ·obtain ⟨items,n,gi,l,_⟩:=H.objs _ _ _ hi g
  exact inP_ok H hx l hu h fun e e1 e2=>SeqAt.in_listAt e ⟨_,gi,rfl,_,rfl⟩ e1 e2
 ·obtain ⟨kvs,dk,rk,_⟩:=H.objs _ _ _ hi g
  exact in_dict H hx (not_sys G H (List.mem_of_getElem? g)) dk rk h
theorem in_ok (G:GOk C) (H:Hp C ρ hp s.heap) {x c:MV}{v w:Value}(hx:Rep C ρ s.heap x v) (hc:Rep C ρ s.heap c w) {P:Bool→Prop}(hu:A.units+1001<cLine) (h:wpIn x c P hp) :
  wpAny (mod C) A (compareOp .In v w) (OutB s P) E s:=by
 refine Classical.byContradiction fun hn=>?_
 cases c with
 | tup ys=>
  obtain ⟨a,n,items,rfl,g,l,_⟩:=hc.inv
  exact hn (inP_ok H hx l hu h fun e e1 e2=>SeqAt.in_tupleAt e ⟨_,g,rfl,_,rfl⟩ e1 e2)
 | gt ss=>
  obtain ⟨a,o,items,n,rfl,g,g1,g2,l⟩:=hc.inv
  exact hn (inP_ok H hx l hu h fun e e1 e2=>SeqAt.in_tupleAt e ⟨_,H.base _ _ g,g1,_,g2⟩ e1 e2)
 | ref i=>exact hn (in_ref G H hx hc hu h)
 | cdict es=>
  obtain ⟨a,kvs,rfl,hs,⟨o,ds,ep,e,r⟩,ck⟩:=hc.inv
  exact hn (in_dict H hx hs ⟨o,ds,ep,H.base _ _ e,r⟩ ck.rep h)
 | str s'=>
  obtain ⟨t,rfl,_⟩:=hc.inv
  obtain ⟨y,rfl,h1⟩:=onS_inv h
  obtain ⟨a,rfl,h2⟩:=onN_inv h1
  obtain ⟨u,rfl,_⟩:=hx.inv
  refine hn (PySem.P.in_str ⟨_,s.toks,rfl,rfl,?_⟩)
  rw [show _=_ from StrLaws.found_one (str s') a]
  simpa using h2
 | _=>exact h
theorem notIn_of {v w:Value}{P:Bool→Prop}(h:wpAny (mod C) A (compareOp .In v w) (OutB s (fun b=>P (!b))) E s):wpAny (mod C) A (compareOp .NotIn v w) (OutB s P) E s:=fun Γ p hΓ=>by
 have:=h Γ p hΓ
 simp only [compareOp,Sem.wp_bind'] at this ⊢
 refine Sem.wp_mono _ Γ _ (fun b p' s' h'=>?_) (fun _ _ _ h'=>h') _ _ this
 obtain ⟨b',t,e1,e2,e3⟩:=h'
 cases e1
 exact ⟨_,t,rfl,e2,e3⟩
noncomputable def cmpIs:Cmp→CmpOp
 | .eq=>.Eq | .ne=>.NotEq | .lt=>.Lt | .le=>.LtE | .gt=>.Gt | .ge=>.GtE | .inn=>.In | .nin=>.NotIn
open SeqAt in
theorem nil_ok (H:Hp C ρ hp s.heap) {i j:Nat}{xs:List MV}{v w:Value}(hx:Rep C ρ s.heap (.ref i) v) (hy:Rep C ρ s.heap (.ref j) w) (hi:hp[i]?=some (.list xs)) (hj:hp[j]?=some (.list [])) (hu:A.units<cLine) {P:Value→Shared→Prop} :
  (P (.bool xs.isEmpty) s→wpAny (mod C) A (compareOp .Eq v w) P E s)∧(P (.bool (!xs.isEmpty)) s→wpAny (mod C) A (compareOp .NotEq v w) P E s):=by
 obtain ⟨a,rfl,g⟩:=hx.inv
 obtain ⟨b,rfl,g'⟩:=hy.inv
 obtain ⟨items,n,gi,l,_⟩:=H.objs _ _ _ hi g
 obtain ⟨items',n',gi',l',_⟩:=H.objs _ _ _ hj g'
 obtain rfl:=l'.inv
 have hl:s.heap.IsList _ items.toArray:=⟨_,gi,rfl,_,rfl⟩
 have hl':s.heap.IsList _ ([]:List Value).toArray:=⟨_,gi',rfl,_,rfl⟩
 cases xs with
 | nil=>
  obtain rfl:=l.inv
  exact ⟨RcAt.lists (e:=fun _=>true) hl hl' rfl hu (fun j h=>absurd h (Nat.not_lt_zero j)) _ _ _ _,RcNeAt.lists (e:=fun _=>true) hl hl' rfl hu (fun j h=>absurd h (Nat.not_lt_zero j)) _ _ _ _⟩
 | cons x xs=>
  obtain ⟨v,ws,rfl,_⟩:=l.inv
  exact ⟨RcAt.lists_lengths hl hl' rfl hu _ _ _ _,RcNeAt.lists_lengths hl hl' rfl hu _ _ _ _⟩
theorem cmp_ok (G:GOk C) (H:Hp C ρ m.heap s.heap) {op:Cmp}{x y:MV}{v w:Value}(hx:Rep C ρ s.heap x v) (hy:Rep C ρ s.heap y w) {P:Bool→MS→Prop}(hu:A.units+1001<cLine) (h:wpCmp op x y P m) :
  wpAny (mod C) A (compareOp (cmpIs op) v w) (OutB s (fun b=>P b m)) E s:=by
 have hu':A.units<cLine:=Nat.lt_of_le_of_lt (Nat.le_add_right ..) hu
 have hu2:A.units+1000<cLine:=Nat.lt_of_succ_lt hu
 have out:∀{b:Bool},P b m→OutB s (fun b=>P b m) (.bool b) s:=fun h=>⟨_,s.toks,rfl,rfl,h⟩
 cases op with
 | eq=>
  obtain ⟨b,e,h⟩ | h:=eqB_inv h
  ·exact (aeq_ok (A:=A) hx hy e).1 _ _ _ _ (out h)
  ·obtain ⟨d,e,hd,he,hk,h1,h2,hq⟩ | ⟨hud,i,j,es,rfl,rfl,hi,hj,hl,hn,hq⟩ | ⟨i,j,xs,rfl,rfl,hi,hj,hq⟩:=h
   ·exact eqP_ok H hx hy hd he hk h1 h2 hu2 hq
   ·exact (eqDict_ok hud G H hx hy hi hj hl hn hu').1 (out hq)
   ·exact (nil_ok H hx hy hi hj hu').1 (out hq)
 | ne=>
  obtain ⟨b,e,h⟩ | h:=eqB_inv h
  ·exact (aeq_ok (A:=A) hx hy e).2 _ _ _ _ (out h)
  ·obtain ⟨d,e,hd,he,hk,h1,h2,hq⟩ | ⟨hud,i,j,es,rfl,rfl,hi,hj,hl,hn,hq⟩ | ⟨i,j,xs,rfl,rfl,hi,hj,hq⟩:=h
   ·exact neP_ok H hx hy hd he hk h1 h2 hu2 hq
   ·exact (eqDict_ok hud G H hx hy hi hj hl hn hu').2 (out hq)
   ·exact (nil_ok H hx hy hi hj hu').2 (out hq)
 | lt=>obtain ⟨a,b,t,u,rfl,rfl,h⟩:=ints_of hx hy h;exact wpAny_lt_int (out h)
 | le=>obtain ⟨a,b,t,u,rfl,rfl,h⟩:=ints_of hx hy h;exact PyProof.Rows.le_int (out h)
 | gt=>obtain ⟨a,b,t,u,rfl,rfl,h⟩:=ints_of hx hy h;exact PyProof.Rows.gt_int (out h)
 | ge=>obtain ⟨a,b,t,u,rfl,rfl,h⟩:=ints_of hx hy h;exact PyProof.Rows.ge_int (out h)
 | inn=>exact in_ok G H hx hy hu h
 | nin=>exact notIn_of (in_ok G H hx hy hu h)
end
end Internal
end
section
namespace Internal
open PySem
noncomputable def noPos:Pos:=⟨0,0,0,0⟩
noncomputable def noE:Expr:=.Constant .none 0 noPos
set_option genCtorIdx false in
structure V where
 tag:Nat
 p:Pos:=noPos
 e1:Expr:=noE
 e2:Expr:=noE
 xs:List Expr:=[]
 s:Str:=⟨#[]⟩
 n:Nat:=0
 k:Const:=.none
 o:Operator:=.Add
 u:UnaryOp:=.Not
 b:BoolOp:=.And
 cs:List CmpOp:=[]
 ks:List Keyword:=[]
 o1:Option Expr:=none
 o2:Option Expr:=none
 o3:Option Expr:=none
 os:List (Option Expr):=[]
 gs:List Comprehension:=[]
 sc:Scope:=⟨.function,[],false,false,[]⟩
noncomputable def view:Expr→V
 | .Constant k n p=>{ tag:=0,k,n,p }
 | .Name s p=>{ tag:=1,s,p }
 | .BinOp e1 o e2 p=>{ tag:=2,e1,o,e2,p }
 | .UnaryOp u e1 p=>{ tag:=3,u,e1,p }
 | .BoolOp b xs p=>{ tag:=4,b,xs,p }
 | .Compare e1 cs xs p=>{ tag:=5,e1,cs,xs,p }
 | .Call e1 xs ks p=>{ tag:=6,e1,xs,ks,p }
 | .Attribute e1 s p=>{ tag:=7,e1,s,p }
 | .Subscript e1 e2 p=>{ tag:=8,e1,e2,p }
 | .Slice o1 o2 o3 p=>{ tag:=9,o1,o2,o3,p }
 | .List xs p=>{ tag:=10,xs,p }
 | .Tuple xs n p=>{ tag:=11,xs,n,p }
 | .Dict os xs p=>{ tag:=12,os,xs,p }
 | .ListComp e1 gs sc p=>{ tag:=13,e1,gs,sc,p }
 | _=>{ tag:=14 }
noncomputable def back (v:V):Nat→Option Expr
 | 0=>some (.Constant v.k v.n v.p)
 | 1=>some (.Name v.s v.p)
 | 2=>some (.BinOp v.e1 v.o v.e2 v.p)
 | 3=>some (.UnaryOp v.u v.e1 v.p)
 | 4=>some (.BoolOp v.b v.xs v.p)
 | 5=>some (.Compare v.e1 v.cs v.xs v.p)
 | 6=>some (.Call v.e1 v.xs v.ks v.p)
 | 7=>some (.Attribute v.e1 v.s v.p)
 | 8=>some (.Subscript v.e1 v.e2 v.p)
 | 9=>some (.Slice v.o1 v.o2 v.o3 v.p)
 | 10=>some (.List v.xs v.p)
 | 11=>some (.Tuple v.xs v.n v.p)
 | 12=>some (.Dict v.os v.xs v.p)
 | 13=>some (.ListComp v.e1 v.gs v.sc v.p)
 | _=>none
theorem view_eq (e:Expr):∀x,back (view e) (view e).tag=some x→e=x:=by
 cases e<;>first | exact fun x h=>Option.some.inj h | exact fun x h=>nomatch h
theorem view_at {e:Expr}{n:Nat}{x:Expr}(h:(view e).tag=n) (hx:back (view e) n=some x):e=x:=view_eq e x (h▸hx)
set_option tactic.hygienic true in
theorem tag_some {α:Type}{n m:Nat}{a b:α}(h:(if n=m then some a else none)=some b):n=m∧a=b:=by
 split at h
 ·rename_i q;exact ⟨q,Option.some.inj h⟩
 ·exact nos1 h
noncomputable def onSome {α:Type}(o:Option α) (f:α→Bool):Bool:=match o with
 | some a=>f a
 | none=>false
theorem onSome_true {α:Type}{o:Option α}{f:α→Bool}(h:onSome o f=true):∃a,o=some a∧f a=true:=by
 cases o with
 | none=>exact ff h
 | some a=>exact ⟨a,rfl,h⟩
noncomputable def one {α:Type}(xs:List α):Option α:=match xs with
 | [x]=>some x
 | _=>none
theorem one_eq {α:Type}{xs:List α}{x:α}(h:one xs=some x):xs=[x]:=by
 rcases xs with _ | ⟨a,_ | ⟨b,r⟩⟩
 ·exact nos1 h
 ·exact congrArg (·::[]) (Option.some.inj h)
 ·exact nos1 h
noncomputable def two {α:Type}(xs:List α):Option (α × α):=match xs with
 | [x,y]=>some (x,y)
 | _=>none
theorem two_eq {α:Type}{xs:List α}{x y:α}(h:two xs=some (x,y)):xs=[x,y]:=by
 rcases xs with _ | ⟨a,_ | ⟨b,_ | ⟨c,r⟩⟩⟩
 ·exact nos1 h
 ·exact nos1 h
 ·obtain ⟨rfl,rfl⟩:=Prod.mk.inj (Option.some.inj h);rfl
 ·exact nos1 h
noncomputable def xConst (e:Expr):Option Const:=if (view e).tag=0 then some (view e).k else none
noncomputable def xName (e:Expr):Option Str:=if (view e).tag=1 then some (view e).s else none
noncomputable def xBin (e:Expr):Option (Expr × Operator × Expr):=if (view e).tag=2 then some ((view e).e1,(view e).o,(view e).e2) else none
noncomputable def xUn (e:Expr):Option (UnaryOp × Expr):=if (view e).tag=3 then some ((view e).u,(view e).e1) else none
noncomputable def xBool (e:Expr):Option (BoolOp × List Expr):=if (view e).tag=4 then some ((view e).b,(view e).xs) else none
noncomputable def xCmp (e:Expr):Option (Expr × List CmpOp × List Expr):=if (view e).tag=5 then some ((view e).e1,(view e).cs,(view e).xs) else none
noncomputable def xCall (e:Expr):Option (Expr × List Expr × List Keyword × Pos):=if (view e).tag=6 then some ((view e).e1,(view e).xs,(view e).ks,(view e).p) else none
noncomputable def xAttr (e:Expr):Option (Expr × Str × Pos):=if (view e).tag=7 then some ((view e).e1,(view e).s,(view e).p) else none
noncomputable def xSub (e:Expr):Option (Expr × Expr):=if (view e).tag=8 then some ((view e).e1,(view e).e2) else none
noncomputable def xSlice (e:Expr):Option (Option Expr × Option Expr × Option Expr):=if (view e).tag=9 then some ((view e).o1,(view e).o2,(view e).o3) else none
noncomputable def xList (e:Expr):Option (List Expr):=if (view e).tag=10 then some (view e).xs else none
noncomputable def xTup (e:Expr):Option (List Expr):=if (view e).tag=11 then some (view e).xs else none
noncomputable def xDict (e:Expr):Option (List (Option Expr) × List Expr):=if (view e).tag=12 then some ((view e).os,(view e).xs) else none
noncomputable def xLC (e:Expr):Option (Expr × List Comprehension × Scope):=if (view e).tag=13 then some ((view e).e1,(view e).gs,(view e).sc) else none
section
variable {e:Expr}
theorem xConst_eq {k:Const}(h:xConst e=some k):∃a b,e=.Constant k a b:=by
 obtain ⟨h1,h2⟩:=tag_some h
 cases h2
 exact ⟨_,_,view_at h1 rfl⟩
theorem xName_eq {x:Str}(h:xName e=some x):∃p,e=.Name x p:=by
 obtain ⟨h1,h2⟩:=tag_some h
 cases h2
 exact ⟨_,view_at h1 rfl⟩
theorem xBin_eq {l r:Expr}{o:Operator}(h:xBin e=some (l,o,r)):∃p,e=.BinOp l o r p:=by
 obtain ⟨h1,h2⟩:=tag_some h
 cases h2
 exact ⟨_,view_at h1 rfl⟩
theorem xUn_eq {o:UnaryOp}{x:Expr}(h:xUn e=some (o,x)):∃p,e=.UnaryOp o x p:=by
 obtain ⟨h1,h2⟩:=tag_some h
 cases h2
 exact ⟨_,view_at h1 rfl⟩
theorem xBool_eq {o:BoolOp}{xs:List Expr}(h:xBool e=some (o,xs)):∃p,e=.BoolOp o xs p:=by
 obtain ⟨h1,h2⟩:=tag_some h
 cases h2
 exact ⟨_,view_at h1 rfl⟩
theorem xCmp_eq {l:Expr}{os:List CmpOp}{rs:List Expr}(h:xCmp e=some (l,os,rs)):∃p,e=.Compare l os rs p:=by
 obtain ⟨h1,h2⟩:=tag_some h
 cases h2
 exact ⟨_,view_at h1 rfl⟩
theorem xCall_eq {f:Expr}{xs:List Expr}{ks:List Keyword}{p:Pos}(h:xCall e=some (f,xs,ks,p)):e=.Call f xs ks p:=by
 obtain ⟨h1,h2⟩:=tag_some h
 cases h2
 exact view_at h1 rfl
theorem xAttr_eq {v:Expr}{n:Str}{p:Pos}(h:xAttr e=some (v,n,p)):e=.Attribute v n p:=by
 obtain ⟨h1,h2⟩:=tag_some h
 cases h2
 exact view_at h1 rfl
theorem xSub_eq {v i:Expr}(h:xSub e=some (v,i)):∃p,e=.Subscript v i p:=by
 obtain ⟨h1,h2⟩:=tag_some h
 cases h2
 exact ⟨_,view_at h1 rfl⟩
theorem xSlice_eq {l u st:Option Expr}(h:xSlice e=some (l,u,st)):∃p,e=.Slice l u st p:=by
 obtain ⟨h1,h2⟩:=tag_some h
 cases h2
 exact ⟨_,view_at h1 rfl⟩
theorem xList_eq {xs:List Expr}(h:xList e=some xs):∃p,e=.List xs p:=by
 obtain ⟨h1,h2⟩:=tag_some h
 cases h2
 exact ⟨_,view_at h1 rfl⟩
theorem xTup_eq {xs:List Expr}(h:xTup e=some xs):∃k p,e=.Tuple xs k p:=by
 obtain ⟨h1,h2⟩:=tag_some h
 cases h2
 exact ⟨_,_,view_at h1 rfl⟩
theorem xDict_eq {ks:List (Option Expr)}{vs:List Expr}(h:xDict e=some (ks,vs)):∃p,e=.Dict ks vs p:=by
 obtain ⟨h1,h2⟩:=tag_some h
 cases h2
 exact ⟨_,view_at h1 rfl⟩
theorem xLC_eq {x:Expr}{gs:List Comprehension}{sc:Scope}(h:xLC e=some (x,gs,sc)):∃p,e=.ListComp x gs sc p:=by
 obtain ⟨h1,h2⟩:=tag_some h
 cases h2
 exact ⟨_,view_at h1 rfl⟩
end
noncomputable def xFn (e:Expr):Option (Str × List Expr × Pos):=(xCall e).bind fun q=>match q.2.2.1 with
 | []=>(xName q.1).map fun x=>(x,q.2.1,q.2.2.2)
 | _=>none
theorem xFn_eq {e:Expr}{x:Str}{xs:List Expr}{p:Pos}(h:xFn e=some (x,xs,p)):∃px,e=.Call (.Name x px) xs [] p:=by
 unfold xFn at h
 obtain ⟨⟨f,ys,ks,q⟩,h1,h2⟩:=Option.bind_eq_some_iff.mp h
 cases ks with
 | nil=>
  obtain ⟨y,h3,h4⟩:=Option.map_eq_some_iff.mp h2
  obtain ⟨px,rfl⟩:=xName_eq h3
  cases h4
  exact ⟨px,xCall_eq h1⟩
 | cons=>exact nos1 h2
noncomputable def xMeth (e:Expr):Option ((Expr × Str × Pos) × List Expr × Pos):=(xCall e).bind fun q=>match q.2.2.1 with
 | []=>(xAttr q.1).map fun x=>(x,q.2.1,q.2.2.2)
 | _=>none
theorem xMeth_eq {e:Expr}{v:Expr}{n:Str}{p:Pos}{xs:List Expr}{q:Pos}(h:xMeth e=some ((v,n,p),xs,q)):e=.Call (.Attribute v n p) xs [] q:=by
 unfold xMeth at h
 obtain ⟨⟨f,ys,ks,q⟩,h1,h2⟩:=Option.bind_eq_some_iff.mp h
 cases ks with
 | nil=>
  obtain ⟨y,h3,h4⟩:=Option.map_eq_some_iff.mp h2
  cases h4
  have:=xAttr_eq h3
  subst this
  exact xCall_eq h1
 | cons=>exact nos1 h2
noncomputable def okX (e:Expr):Bool:=(view e).tag != 9&&(view e).tag != 14
theorem okX_cases {e:Expr}{P:Expr→Prop}(h:okX e=true) (h1:∀k a p,P (.Constant k a p)) (h2:∀x p,P (.Name x p)) (h3:∀l o r p,P (.BinOp l o r p)) (h4:∀o x p,P (.UnaryOp o x p)) (h5:∀o xs p,P (.BoolOp o xs p))
  (h6:∀l os rs p,P (.Compare l os rs p)) (h7:∀f xs ks p,P (.Call f xs ks p)) (h8:∀v n p,P (.Attribute v n p)) (h9:∀v i p,P (.Subscript v i p)) (h10:∀xs p,P (.List xs p)) (h11:∀xs k p,P (.Tuple xs k p)) (h12:∀ks vs p,P (.Dict ks vs p))
  (h13:∀x gs sc p,P (.ListComp x gs sc p)):P e:=by
 cases e<;>first | exact h1 _ _ _ | exact h2 _ _ | exact h3 _ _ _ _ | exact h4 _ _ _ | exact h5 _ _ _ | exact h6 _ _ _ _ | exact h7 _ _ _ _ | exact h8 _ _ _ | exact h9 _ _ _ | exact h10 _ _ | exact h11 _ _ _ | exact h12 _ _ _ | exact h13 _ _ _ _ | exact ff h
theorem okX_star {e:Expr}(h:okX e=true) (rest:List Expr) (env:Env):starEach (e::rest) env=(false,eval e env)::starEach rest env:=
 okX_cases (P:=fun e=>starEach (e::rest) env=(false,eval e env)::starEach rest env) h (fun _ _ _=>rfl) (fun _ _=>rfl) (fun _ _ _ _=>rfl) (fun _ _ _=>rfl) (fun _ _ _=>rfl) (fun _ _ _ _=>rfl) (fun _ _ _ _=>rfl) (fun _ _ _=>rfl) (fun _ _ _=>rfl) (fun _ _=>rfl) (fun _ _ _=>rfl) (fun _ _ _=>rfl) (fun _ _ _ _=>rfl)
theorem okX_marks {e:Expr}(h:okX e=true) (op:CmpOp):behindInMarks op e=false:=
 okX_cases (P:=fun e=>behindInMarks op e=false) h (fun _ _ _=>rfl) (fun _ _=>rfl) (fun _ _ _ _=>rfl) (fun _ _ _=>rfl) (fun _ _ _=>rfl) (fun _ _ _ _=>rfl) (fun _ _ _ _=>rfl) (fun _ _ _=>rfl) (fun _ _ _=>rfl) (fun _ _=>rfl) (fun _ _ _=>rfl) (fun _ _ _=>rfl) (fun _ _ _ _=>rfl)
theorem okX_folded {e:Expr}(h:okX e=true) (env:Env) (x:Value):foldedSetIterable e env x=pure x:=
 okX_cases (P:=fun e=>foldedSetIterable e env x=pure x) h (fun _ _ _=>rfl) (fun _ _=>rfl) (fun _ _ _ _=>rfl) (fun _ _ _=>rfl) (fun _ _ _=>rfl) (fun _ _ _ _=>rfl) (fun _ _ _ _=>rfl) (fun _ _ _=>rfl) (fun _ _ _=>rfl) (fun _ _=>rfl) (fun _ _ _=>rfl) (fun _ _ _=>rfl) (fun _ _ _ _=>rfl)
noncomputable def isComp (e:Expr):Bool:=(xLC e).isSome
theorem swaps_no {e:Expr}(h:isComp e=false) (h':okX e=true) (t:Option Expr) (l:Nat) (env:Env):swapsWith e t l env=pure false:=
 okX_cases (P:=fun e=>isComp e=false→swapsWith e t l env=pure false) h' (fun _ _ _ _=>rfl) (fun _ _ _=>rfl) (fun _ _ _ _ _=>rfl) (fun _ _ _ _=>rfl) (fun _ _ _ _=>rfl) (fun _ _ _ _ _=>rfl) (fun _ _ _ _ _=>rfl) (fun _ _ _ _=>rfl) (fun _ _ _ _=>rfl) (fun _ _ _=>rfl) (fun _ _ _ _=>rfl) (fun _ _ _ _=>rfl) (fun _ _ _ _ h=>by exact tf h) h
noncomputable def notCall0 (e:Expr):Bool:=(view e).tag==1||(view e).tag==8||(view e).tag==0||(view e).tag==7
theorem notCall0_base {o:Expr}(h:notCall0 o=true) (name:Str) (env:Env):attributeBase o name env (eval o env)=eval o env:=by
 simp only [notCall0,Bool.or_eq_true,beq_iff_eq] at h
 rcases h with ((h | h) | h) | h
 ·have e:=view_at h rfl;rw [e];rfl
 ·have e:=view_at h rfl;rw [e];rfl
 ·have e:=view_at h rfl;rw [e];rfl
 ·have e:=view_at h rfl;rw [e];rfl
end Internal
end
section
namespace Internal
open PySem PyProof.Rows
theorem sub_plain {slice:Expr}{o i:Value}(h:okX slice=true):subscripted slice false o i=operate [o,i] (getItem o i):=
 okX_cases (P:=fun e=>subscripted e false o i=operate [o,i] (getItem o i)) h (fun _ _ _=>rfl) (fun _ _=>rfl) (fun _ _ _ _=>rfl) (fun _ _ _=>rfl) (fun _ _ _=>rfl) (fun _ _ _ _=>rfl) (fun _ _ _ _=>rfl) (fun _ _ _=>rfl) (fun _ _ _=>rfl) (fun _ _=>rfl) (fun _ _ _=>rfl) (fun _ _ _=>rfl) (fun _ _ _ _=>rfl)
theorem sub_slice {l u:Option Expr}{p:Pos}{o i:Value}:subscripted (.Slice l u none p) false o i=operate [i,o] (getItem o i):=rfl
theorem pidx_seq {k:Int}{n j:Nat}(h:pidx k n=some j):seqIndex? k n=some j∧-(n:Int)≤k∧k<n∧(0≤k→j=k.toNat)∧(k<0→j=(k+n).toNat):=by
 unfold pidx at h
 by_cases h0:0≤k
 ·by_cases h1:k<n
  ·simp only [h0,h1,decide_true] at h
   obtain rfl:=Option.some.inj h
   exact ⟨seqIndex_of h0 h1,by lia,h1,fun _=>rfl,fun q=>by lia⟩
  ·simp [h0,h1] at h
 ·by_cases h1:-(n:Int)≤k
  ·simp only [h0,h1,decide_true,decide_false] at h
   obtain rfl:=Option.some.inj h
   exact ⟨seqIndex_neg (z1 (Int.not_le.mp h0) (by simp +arith only)) h1,h1,by lia,fun q=>absurd q h0,fun _=>rfl⟩
  ·simp [h0,h1] at h
set_option tactic.hygienic true in
theorem pend_clip (k:Int) (n:Nat):pend k n=clipAt n k:=by
 unfold pend clipAt
 split
 ·rename_i h
  replace h:=of_decide_eq_true h
  rw [if_neg (Int.not_lt.mpr h),Int.max_eq_right (Int.le_min.mpr ⟨h,Int.natCast_nonneg n⟩)]
  rcases Int.le_total k n with q | q
  ·rw [Int.min_eq_left q,Nat.min_eq_left (Int.toNat_le.mpr q)]
  ·rw [Int.min_eq_right q,Nat.min_eq_right ((Int.le_toNat h).mpr q)];rfl
 ·rename_i h
  replace h:=Int.not_le.mp (of_decide_eq_false h)
  rw [if_pos h,Int.min_eq_left (show k+n≤n from Int.le_trans (Int.add_le_add_right (Int.le_of_lt h) n) (Int.le_of_eq (Int.zero_add _)))]
  rcases Int.le_total 0 (k+n) with q | q
  ·rw [Int.max_eq_right q]
  ·rw [Int.max_eq_left q];exact Int.toNat_of_nonpos q
theorem clip_le (k:Int) (n:Nat):clipAt n k≤n:=by unfold clipAt;split<;>exact Int.toNat_le.mpr (Int.max_le.mpr ⟨Int.natCast_nonneg _,Int.min_le_right _ _⟩)
theorem pslice_eq {α:Type}(xs:List α) (lo hi:Option Int):pslice xs lo hi=(xs.drop (lo.elim 0 (clipAt xs.length))).take (hi.elim xs.length (clipAt xs.length)-lo.elim 0 (clipAt xs.length)):=by
 unfold pslice
 simp only
 rw [List.drop_take]
 cases lo<;>cases hi<;>simp only [Option.elim,pend_clip]
section
variable {C:Glo}{F:Fm}{X:XM}{ρ:List Addr}{m:MS}{s:Shared}{Q:PQ}{E:Value→Shared→Prop}{A:Around}{h:Heap}{hp:List MO}
theorem RepL.slice {xs:List MV}{vs:List Value}(l:RepL C ρ h xs vs) (lo hi:Option Int):RepL C ρ h (pslice xs lo hi) (pslice vs lo hi):=by
 unfold pslice
 have e:=l.length
 cases lo<;>cases hi<;>simp only [e]<;>exact (l.take _).drop _
theorem pslice_len {α:Type}(xs:List α) (lo hi:Option Int):(pslice xs lo hi).length≤xs.length:=by
 rw [pslice_eq,List.length_take,List.length_drop];exact Nat.le_trans (Nat.min_le_right _ _) (Nat.sub_le _ _)
theorem line_lt {n:Nat}(h:n≤line):(n:Int)<2 ^ 63:=by unfold line at h;lia
theorem nth_of {α:Type}{xs:List α}{k:Int}{f:α→Prop}(h:wpNth xs k f):∃j v,pidx k xs.length=some j∧xs[j]?=some v∧f v:=by
 obtain ⟨j,hj,h⟩:=onO_inv h
 obtain ⟨v,hv,h⟩:=onO_inv h
 exact ⟨j,v,hj,hv,h⟩
theorem idx_list (R:Rel C F ρ m s) {xs:List MV}{items:List Value}{a:Addr}{k:Int}{u:Tok}{value slice:Expr}(hns:okX slice=true) (hl:s.heap.IsList a items.toArray) (l:RepL C ρ s.heap xs items) (zl:xs.length≤line) (h:wpNth xs k fun v=>Q v m) :
  wpAny (mod C) A (subscriptTail value slice (.ref a) (.int k u)) (Out C F ρ s Q) E s:=by
 obtain ⟨j,z,hj,hz,h⟩:=nth_of h
 obtain ⟨e1,e2,e3,e4,e5⟩:=pidx_seq hj
 obtain ⟨r,r1,r2⟩:=l.get hz
 have:=line_lt zl
 refine tail_any hl.typeIs slot_list_getitem.lookup ?_ (sub_plain hns)
 by_cases h0:0≤k
 ·exact wpAny_getItem_list hl h0 (Int.lt_trans e3 this) (by rw [←e4 h0];exact (List.getElem?_toArray ..).trans r1) (outSame R r2 h)
 ·have h0:k<0:=Int.not_le.mp h0
  exact wpAny_getItem_list_neg hl h0 (by rw [List.size_toArray,l.length];exact e2) (by lia) (by rw [List.size_toArray,l.length,←e5 h0];exact (List.getElem?_toArray ..).trans r1) (outSame R r2 h)
theorem idx_dict (R:Rel C F ρ m s) (ok:FmOk F) {a:Addr}{es:List (List Nat × MV)}{kvs:List (Str × Value)}{k:List Nat}{t:Tok}{value slice:Expr}(hns:okX slice=true) (dk:s.heap.DictOf (strKind C.prog C.w) a kvs) (rk:RepK C ρ s.heap es kvs) (h:onO (dget es k) fun v=>Q v m) :
  wpAny (mod C) A (subscriptTail value slice (.ref a) (.str (Internal.str k) t)) (Out C F ρ s Q) E s:=by
 obtain ⟨z,hz,h⟩:=onO_inv h
 have:=rk.get k
 rw [hz] at this
 obtain ⟨v,e,r⟩:=this
 exact tail_any dk.typeIs slot_dict_getitem.lookup (wpAny_getItem_of (strKind_is' C.prog C.w (Internal.str k) t) dk.mapOf e (outTok R ok r h)) (sub_plain hns)
theorem idx_ok (G:GOk C) (R:Rel C F ρ m s) (ok:FmOk F) {x y:MV}{v w:Value}(hx:Rep C ρ s.heap x v) (hy:Rep C ρ s.heap y w) {value slice:Expr}(hns:okX slice=true) (h:wpIdx x y Q m) :
  wpAny (mod C) A (subscriptTail value slice v w) (Out C F ρ s Q) E s:=by
 refine Classical.byContradiction fun hn=>?_
 cases y with
 | int k=>
  obtain ⟨u,rfl⟩:=hy.inv
  cases x with
  | tup xs=>
   obtain ⟨a,n,items,rfl,g,l,zl⟩:=hx.inv
   obtain ⟨j,z,hj,hz,h⟩:=nth_of h
   obtain ⟨e1,e2,e3,_⟩:=pidx_seq hj
   obtain ⟨r,r1,r2⟩:=l.get hz
   have:=line_lt zl
   refine hn (tail_any ⟨_,g,rfl⟩ slot_tuple_getitem.lookup (PySem.P.getItem_tuple g (by lia) (by lia) ?_ ((List.getElem?_toArray ..).trans r1) (outSame R r2 h)) (sub_plain hns))
   rw [List.size_toArray,l.length];exact e1
  | str xs=>
   obtain ⟨t,rfl,zl⟩:=hx.inv
   obtain ⟨j,z,hj,hz,h⟩:=nth_of h
   obtain ⟨e1,e2,e3,_⟩:=pidx_seq hj
   have:=line_lt zl
   refine hn (tail_any (T:="str") (typeIs_str s (Internal.str xs) t) slot_str_getitem.lookup (PySem.P.getItem_str ?_ ?_ (outTok R ok (.str _ _ (by simp [line])) h)) (sub_plain hns))
   ·simp only [Bool.or_eq_false_iff,decide_eq_false_iff_not];lia
   ·rw [str_length,e1];exact (List.getElem?_toArray ..).trans hz
  | ref i=>
   obtain ⟨a,rfl,g⟩:=hx.inv
   obtain ⟨xs,hi,h⟩:=onLs_inv h
   obtain ⟨items,n,gi,l,zl⟩:=R.hp.objs _ _ _ hi g
   exact hn (idx_list R hns ⟨_,gi,rfl,_,rfl⟩ l zl h)
  | scr xs=>
   obtain ⟨la,items,n,rfl,g,l,zl⟩:=hx.inv
   refine hn (idx_list (xs:=xs.map .int) R hns ⟨_,R.hp.base _ _ g,rfl,_,rfl⟩ (ints_rep l) (by rw [List.length_map];exact zl) ?_)
   obtain ⟨j,z,hj,hz,h⟩:=nth_of h
   show onO (pidx k (xs.map MV.int).length) _
   rw [List.length_map,hj]
   show onO (xs.map MV.int)[j]? _
   rw [List.getElem?_map,hz]
   exact h
  | _=>exact h
 | str k=>
  obtain ⟨t,rfl,_⟩:=hy.inv
  cases x with
  | ref i=>
   obtain ⟨a,rfl,g⟩:=hx.inv
   obtain ⟨es,hi,h⟩:=onDs_inv h
   obtain ⟨kvs,dk,rk,zk⟩:=R.hp.objs _ _ _ hi g
   exact hn (idx_dict R ok hns dk rk h)
  | cdict es=>
   obtain ⟨a,kvs,rfl,hs,⟨o,ds,ep,e,r⟩,ck⟩:=hx.inv
   exact hn (idx_dict R ok hns ⟨o,ds,ep,R.hp.base _ _ e,r⟩ ck.rep h)
  | _=>exact h
 | _=>exact h
end
end Internal
end
section
namespace Internal
open PySem PyProof.Rows
section
variable {C:Glo}{F:Fm}{X:XM}{ρ:List Addr}{m:MS}{s:Shared}{Q:PQ}{E:Value→Shared→Prop}{A:Around}
theorem sl_tup (R:Rel C F ρ m s) (ok:FmOk F) {b a:Addr}{n:Nat}{xs:List MV}{items:List Value}{value:Expr}{l u:Option Expr}{p:Pos}{k:Int}{t:Tok}(g:s.heap.get? b=some (tupO items n)) (rl:RepL C ρ s.heap xs items) (z:xs.length≤line) (hs:s.heap.IsSliceOf a (.int k t) .none .none)
  (hk:useTS=true∧1≤k∧k≤xs.length) (hq:Q (.tup (xs.drop k.toNat)) m):wpAny (mod C) A (subscriptTail value (.Slice l u none p) (.ref b) (.ref a)) (Out C F ρ s Q) E s:=by
 exact absurd hk.1 (by decide)
end
end Internal
end
section
namespace Internal
open PySem PyProof.Rows
section
variable {C:Glo}{F:Fm}{X:XM}{ρ:List Addr}{m:MS}{s:Shared}{Q:PQ}{E:Value→Shared→Prop}{A:Around}{h:Heap}{hp:List MO}
noncomputable def PartRep (C:Glo) (ρ:List Addr) (h:Heap):Option MV→Value→Prop
 | none,v=>v=.none
 | some x,v=>Rep C ρ h x v
theorem part_of {lo:Option MV}{v:Value}(h:PartRep C ρ s.heap lo v) {k:Option Int}(e:optInt lo=some k):IsPart v k∧∃l:Option (Int × Tok),v=partValue l∧l.map (·.1)=k:=by
 cases lo with
 | none=>
  obtain rfl:=Option.some.inj e
  obtain rfl:v=.none:=h
  exact ⟨.none,none,rfl,rfl⟩
 | some x=>
  cases x with
  | int i=>
   obtain ⟨t,rfl⟩:=Rep.inv h
   obtain rfl:=Option.some.inj e
   exact ⟨.int i t,some (i,t),rfl,rfl⟩
  | _=>exact nos1 e
theorem part_int {v:Value}{k:Int}(h:IsPart v (some k)):∃t,v=.int k t:=by cases h;exact ⟨_,rfl⟩
theorem part_none {v:Value}(h:IsPart v none):v=.none:=by cases h;rfl
theorem strSlice_eq (x:List Nat) (lo hi:Option Int):((Builtin.Str.strSliceIndices lo hi 1 x.length).filterMap (x.toArray[·]?))=pslice x lo hi∧(Builtin.Str.strSliceIndices lo hi 1 x.length).length=(pslice x lo hi).length:=by
 have e:Builtin.Str.strSliceIndices lo hi 1 x.length=(List.range (hi.elim x.length (clipAt x.length)-lo.elim 0 (clipAt x.length))).map (lo.elim 0 (clipAt x.length) + ·):=by
  have h1:Builtin.Str.strSliceIndices lo hi 1 x.length=sliceRange (sliceBounds lo hi none x.length).1 (sliceBounds lo hi none x.length).2.1 (sliceBounds lo hi none x.length).2.2:=rfl
  rw [h1,sliceBounds_plain,sliceRange_one]
 rw [e]
 constructor
 ·rw [pick_run,pslice_eq]
 ·rw [pslice_eq,List.length_map,List.length_range,List.length_take,List.length_drop]
  have:hi.elim x.length (clipAt x.length)≤x.length:=by cases hi<;>simp [clip_le]
  exact (Nat.min_eq_left (Nat.sub_le_sub_right this _)).symm
theorem pslice_all {y:List Nat}{lo hi:Option Int}(h:(pslice y lo hi).length=y.length):pslice y lo hi=y:=by
 rw [pslice_eq] at h ⊢
 rw [List.length_take,List.length_drop] at h
 cases y with
 | nil=>simp
 | cons a b=>
  have h3:lo.elim 0 (clipAt (a::b).length)=0:=Nat.le_zero.mp (Nat.le_of_not_lt fun q=>Nat.lt_irrefl _ (Nat.lt_of_lt_of_le (Nat.sub_lt (Nat.succ_pos _) q) (Nat.le_trans (Nat.le_of_eq h.symm) (Nat.min_le_right _ _))))
  rw [h3] at h ⊢
  rw [List.drop_zero,Nat.sub_zero]
  exact List.take_of_length_le (Nat.le_trans (Nat.le_of_eq h.symm) (Nat.min_le_left _ _))
section
variable {a:Addr}{l1 l2:Option (Int × Tok)}{lo hi:Option Int}{vl vu:Value}{value:Expr}{l u:Option Expr}{p:Pos}
set_option tactic.hygienic true in
theorem sl_str (R:Rel C F ρ m s) (ok:FmOk F) {y:List Nat}{t:Tok}(z:y.length≤line) (hsl:s.heap.IsSlice a l1 l2 none) (ml1:l1.map (·.1)=lo) (ml2:l2.map (·.1)=hi) (hq:Q (.str (pslice y lo hi)) m) :
  wpAny (mod C) A (subscriptTail value (.Slice l u none p) (.str (Internal.str y) t) (.ref a)) (Out C F ρ s Q) E s:=by
 refine tail_any (T:="str") (typeIs_str _ (Internal.str y) t) slot_str_getitem.lookup (wpAny_getItem_str_slice hsl rfl ?_) sub_slice
 unfold sliceMade slicePicked
 rw [ml1,ml2,str_length]
 obtain ⟨f1,f2⟩:=strSlice_eq y lo hi
 have hz:=pslice_len y lo hi
 split
 ·rename_i hc
  simp only [Option.map_none,Option.getD_none,Bool.and_eq_true,beq_iff_eq] at hc
  rw [pslice_all (f2.symm.trans hc.2)] at hq
  exact outSame R (.str y t z) hq
 ·refine ⟨?_,?_⟩
  ·show ((Builtin.Str.strSliceIndices lo hi 1 y.length).filterMap (y.toArray[·]?)).toArray.size≤sizeLine
   rw [f1,List.size_toArray];exact Nat.le_trans hz z
  ·show Out C F ρ s Q (.str ⟨((Builtin.Str.strSliceIndices lo hi 1 y.length).filterMap (y.toArray[·]?)).toArray⟩ _) _
   rw [f1]
   exact outTok R ok (.str _ _ (Nat.le_trans hz z)) hq
theorem sl_list (R:Rel C F ρ m s) (ok:FmOk F) {b:Addr}{xs:List MV}{items:List Value}(g:s.heap.IsList b items.toArray) (rl:RepL C ρ s.heap xs items) (z:xs.length≤line) (hs:s.heap.IsSliceOf a vl vu .none) (p1:IsPart vl lo) (p2:IsPart vu hi)
  (hq:Q (.ref m.heap.length) (m.push (.list (pslice xs lo hi)))):wpAny (mod C) A (subscriptTail value (.Slice l u none p) (.ref b) (.ref a)) (Out C F ρ s Q) E s:=by
 refine tail_any (T:="list") g.typeIs slot_list_getitem.lookup (wpAny_getItem_list_slice g hs p1 p2 .none (by simp) ?_ (by rw [List.size_toArray,rl.length];exact z)) sub_slice
 have e:slicePick items.toArray lo hi none=(pslice items lo hi).toArray:=by
  rw [slicePick_plain,pslice_eq];simp
 rw [e]
 exact outList R ok (rl.slice _ _) (Nat.le_trans (pslice_len _ _ _) z) hq
theorem slx_ok (R:Rel C F ρ m s) (ok:FmOk F) {x:MV}{v:Value}(hx:Rep C ρ s.heap x v) (hsl:s.heap.IsSlice a l1 l2 none) (ml1:l1.map (·.1)=lo) (ml2:l2.map (·.1)=hi) (hs:s.heap.IsSliceOf a vl vu .none) (p1:IsPart vl lo) (p2:IsPart vu hi)
  (hq:wpSlx x lo hi Q m):wpAny (mod C) A (subscriptTail value (.Slice l u none p) v (.ref a)) (Out C F ρ s Q) E s:=by
 refine Classical.byContradiction fun hn=>?_
 cases x with
 | str y=>
  obtain ⟨t,rfl,z⟩:=hx.inv
  exact hn (sl_str R ok z hsl ml1 ml2 hq)
 | tup xs=>
  obtain ⟨b,n,items,rfl,g,l,z⟩:=hx.inv
  obtain ⟨k,rfl,⟨j1,rfl,j2⟩,hk⟩:=onO_inv hq
  obtain ⟨t,rfl⟩:=part_int p1
  obtain rfl:=part_none p2
  exact hn (sl_tup R ok g l z hs ⟨j1,j2⟩ hk)
 | scr xs=>
  obtain ⟨b,items,n,rfl,g,l,z⟩:=hx.inv
  exact hn (sl_list R ok ⟨_,R.hp.base _ _ g,rfl,_,rfl⟩ (ints_rep l) (by rw [List.length_map];exact z) hs p1 p2 hq)
 | ref i=>
  obtain ⟨b,rfl,g⟩:=hx.inv
  obtain ⟨xs,hi,hq⟩:=onLs_inv hq
  obtain ⟨items,n,gi,l,z⟩:=R.hp.objs _ _ _ hi g
  exact hn (sl_list R ok ⟨_,gi,rfl,_,rfl⟩ l z hs p1 p2 hq)
 | _=>exact hq
end
theorem sl_ok (R:Rel C F ρ m s) (ok:FmOk F) {x:MV}{v:Value}(hx:Rep C ρ s.heap x v) {lo hi:Option MV}{vl vu:Value}(hl:PartRep C ρ s.heap lo vl) (hu:PartRep C ρ s.heap hi vu) {value:Expr}{l u:Option Expr}{p:Pos}
  (hq:wpSl x lo hi Q m):wpAny (mod C) A (subscriptTail value (.Slice l u none p) v (.ref s.heap.objs.size)) (Out C F ρ s Q) E { s with heap:=s.heap.push { cls:=.type "slice",data:=.fields #[vl,vu,.none] } }:=by
 obtain ⟨R',st⟩:=R.grow (s':={ s with heap:=s.heap.push { cls:=.type "slice",data:=.fields #[vl,vu,.none] } }) ok (fun a o e=>Heap.get?_push_of_some _ e) rfl rfl
 obtain ⟨lo',e1,hq⟩:=onO_inv hq
 obtain ⟨hi',e2,hq⟩:=onO_inv hq
 obtain ⟨p1,l1,rfl,ml1⟩:=part_of hl e1
 obtain ⟨p2,l2,rfl,ml2⟩:=part_of hu e2
 exact wpAny_mono (slx_ok R' ok (hx.step st) ⟨_,Heap.get?_push_size _ rfl,rfl,rfl⟩ ml1 ml2 (Heap.IsSliceOf.new _ _ _ _) p1 p2 hq) (Out.back st) fun _ _ e=>e
end
end Internal
end
section
namespace Internal
open PySem PyProof.Rows
section
variable {C:Glo}{F:Fm}{X:XM}{ρ:List Addr}{m:MS}{s:Shared}{Q:PQ}{E:Value→Shared→Prop}{A:Around}{h:Heap}{hp:List MO}
noncomputable def tsIs:TS→Option String
 | .int=>some "int" | .bool=>some "bool" | .str=>some "str" | .list=>some "list" | .tuple=>some "tuple" | .dict=>some "dict" | _=>none
noncomputable def tsNm:TS→String
 | .int=>"int" | .bool=>"bool" | .str=>"str" | .list=>"list" | .tuple=>"tuple" | .dict=>"dict" | _=>""
theorem tsNm_is {t:TS}{T:String}(e:tsIs t=some T):T=tsNm t:=by
 cases t<;>first | exact (Option.some.inj e).symm | exact nos1 e
noncomputable def kdNm:Kd→String
 | .none=>"NoneType" | .bool=>"bool" | .int=>"int" | .str=>"str" | .tuple=>"tuple" | .list=>"list" | .dict=>"dict" | .exc _=>""
noncomputable def MetP (t:TS):Prop:=tsIs t≠none→typeOf (.type (tsNm t))=pure (.type "type")
theorem ts_meta (t:TS):MetP t:=TS.casesOn (motive:=MetP) t (fun _=>F.isi_meta_int) (fun _=>F.isi_meta_bool) (fun _=>F.isi_meta_str) (fun _=>F.isi_meta_list) (fun _=>F.isi_meta_tuple) (fun _=>F.isi_meta_dict) (fun _ e=>(e rfl).elim) (fun e=>(e rfl).elim)
noncomputable def SubP (k:Kd) (t:TS):Prop:=match tsIs t with
 | some T=>isSubtype (.type (kdNm k)) (.type T)=pure ((kdTy k t).getD true)
 | none=>True
theorem kd_subs (k:Kd) (t:TS) (he:∀c,k≠.exc c):SubP k t:=by
 revert he
 exact Kd.casesOn (motive:=fun k=>(∀c,k≠.exc c)→SubP k t) k (fun _=>TS.casesOn (motive:=SubP .none) t F.sub_NoneType_int F.sub_NoneType_bool F.sub_NoneType_str F.sub_NoneType_list F.sub_NoneType_tuple F.sub_NoneType_dict (fun _=>trivial) trivial) (fun _=>TS.casesOn (motive:=SubP .bool) t F.sub_bool_int F.sub_bool_bool F.sub_bool_str F.sub_bool_list F.sub_bool_tuple F.sub_bool_dict (fun _=>trivial) trivial) (fun _=>TS.casesOn (motive:=SubP .int) t F.sub_int_int F.sub_int_bool F.sub_int_str F.sub_int_list F.sub_int_tuple F.sub_int_dict (fun _=>trivial) trivial) (fun _=>TS.casesOn (motive:=SubP .str) t F.sub_str_int F.sub_str_bool F.sub_str_str F.sub_str_list F.sub_str_tuple F.sub_str_dict (fun _=>trivial) trivial) (fun _=>TS.casesOn (motive:=SubP .tuple) t F.sub_tuple_int F.sub_tuple_bool F.sub_tuple_str F.sub_tuple_list F.sub_tuple_tuple F.sub_tuple_dict (fun _=>trivial) trivial) (fun _=>TS.casesOn (motive:=SubP .list) t F.sub_list_int F.sub_list_bool F.sub_list_str F.sub_list_list F.sub_list_tuple F.sub_list_dict (fun _=>trivial) trivial) (fun _=>TS.casesOn (motive:=SubP .dict) t F.sub_dict_int F.sub_dict_bool F.sub_dict_str F.sub_dict_list F.sub_dict_tuple F.sub_dict_dict (fun _=>trivial) trivial) (fun c h=>(h c rfl).elim)
noncomputable def NeP (k:Kd) (t:TS):Prop:=match tsIs t with
 | some T=>(kdTy k t).getD true=false→(Value.type (kdNm k)==Value.type T)=false
 | none=>True
theorem kd_nes (k:Kd) (t:TS) (he:∀c,k≠.exc c):NeP k t:=by
 revert he
 exact Kd.casesOn (motive:=fun k=>(∀c,k≠.exc c)→NeP k t) k (fun _=>TS.casesOn (motive:=NeP .none) t (fun _=>rfl) (fun _=>rfl) (fun _=>rfl) (fun _=>rfl) (fun _=>rfl) (fun _=>rfl) (fun _=>trivial) trivial) (fun _=>TS.casesOn (motive:=NeP .bool) t tf tf (fun _=>rfl) (fun _=>rfl) (fun _=>rfl) (fun _=>rfl) (fun _=>trivial) trivial) (fun _=>TS.casesOn (motive:=NeP .int) t tf (fun _=>rfl) (fun _=>rfl) (fun _=>rfl) (fun _=>rfl) (fun _=>rfl) (fun _=>trivial) trivial) (fun _=>TS.casesOn (motive:=NeP .str) t (fun _=>rfl) (fun _=>rfl) tf (fun _=>rfl) (fun _=>rfl) (fun _=>rfl) (fun _=>trivial) trivial) (fun _=>TS.casesOn (motive:=NeP .tuple) t (fun _=>rfl) (fun _=>rfl) (fun _=>rfl) (fun _=>rfl) tf (fun _=>rfl) (fun _=>trivial) trivial) (fun _=>TS.casesOn (motive:=NeP .list) t (fun _=>rfl) (fun _=>rfl) (fun _=>rfl) tf (fun _=>rfl) (fun _=>rfl) (fun _=>trivial) trivial) (fun _=>TS.casesOn (motive:=NeP .dict) t (fun _=>rfl) (fun _=>rfl) (fun _=>rfl) (fun _=>rfl) (fun _=>rfl) tf (fun _=>trivial) trivial) (fun c h=>(h c rfl).elim)
noncomputable def AnsF (v:Value) (Tx:String):Prop:=∀T,(Value.type Tx==Value.type T)=false→typeOf (.type T)=pure (.type "type")→isSubtype (.type Tx) (.type T)=pure false→Answers (fun s=>s.TypeIs v Tx) v (.type T) false
theorem kd_ans (H:Hp C ρ hp s.heap) {x:MV}{v:Value}(hx:Rep C ρ s.heap x v) {k:Kd}(hk:kdOf hp x=some k) (he:∀c,k≠.exc c):s.TypeIs v (kdNm k)∧AnsF v (kdNm k):=by
 refine Classical.byContradiction fun hn=>?_
 cases x with
 | none=>obtain rfl:=hx.inv;obtain rfl:=Option.some.inj hk;exact hn ⟨rfl,fun _=>.of_false_none⟩
 | bool _=>obtain rfl:=hx.inv;obtain rfl:=Option.some.inj hk;exact hn ⟨rfl,fun _=>.of_false_bool⟩
 | int _=>obtain ⟨_,rfl⟩:=hx.inv;obtain rfl:=Option.some.inj hk;exact hn ⟨rfl,fun _=>.of_false_int⟩
 | str _=>obtain ⟨_,rfl,_⟩:=hx.inv;obtain rfl:=Option.some.inj hk;exact hn ⟨rfl,fun _=>.of_false_str⟩
 | tup _=>
  obtain ⟨a,n,items,rfl,g,_⟩:=hx.inv
  obtain rfl:=Option.some.inj hk
  exact hn ⟨⟨_,g,rfl⟩,fun _=>.of_false_tuple⟩
 | ref i=>
  obtain ⟨a,rfl,g⟩:=hx.inv
  replace hk:kdO hp[i]?=some k:=hk
  cases hi:hp[i]? with
  | none=>rw [hi] at hk;exact nos1 hk
  | some o=>
   rw [hi] at hk
   cases o with
   | list xs=>
    obtain ⟨items,n,gi,_⟩:=H.objs _ _ _ hi g
    obtain rfl:=Option.some.inj hk
    exact hn ⟨⟨_,gi,rfl⟩,fun _=>.of_false_list⟩
   | dict es=>
    obtain ⟨kvs,dk,_⟩:=H.objs _ _ _ hi g
    obtain rfl:=Option.some.inj hk
    exact hn ⟨dk.typeIs,fun _=>.of_false_dict⟩
   | attrs es=>exact nos1 hk
   | exc c=>exact he c (Option.some.inj hk).symm
 | _=>exact nos1 hk
theorem kd_plain {k:Kd}{t:TS}{T:String}(e:tsIs t=some T) {b:Bool}(h:kdTy k t=some b) (c:Nat):k≠.exc c:=fun q=>by
 subst q;cases t<;>first | exact nos1 e | exact nos1 h
theorem kd_answer (H:Hp C ρ hp s.heap) {x:MV}{v:Value}(hx:Rep C ρ s.heap x v) {k:Kd}(hk:kdOf hp x=some k) {t:TS}{T:String}(eT:tsIs t=some T) {b:Bool}(h:kdTy k t=some b):s.TypeIs v (kdNm k)∧Answers (fun s=>s.TypeIs v (kdNm k)) v (.type T) b:=by
 have he:=kd_plain eT h
 obtain ⟨h1,h2⟩:=kd_ans H hx hk he
 refine ⟨h1,?_⟩
 have hm:=ts_meta t (by rw [eT];exact fun q=>nos2 q)
 rw [←tsNm_is eT] at hm
 have h3:=kd_subs k t he
 have h4:=kd_nes k t he
 unfold SubP at h3
 unfold NeP at h4
 rw [eT,h] at h3 h4
 cases b with
 | true=>exact .of_true hm h3
 | false=>exact h2 T (h4 rfl) hm h3
theorem call_isi {prog:Program}{w:World}{v:Value}{Tx T:String}{b:Bool}{Q:Value→Shared→Prop}(ha:Answers (fun s=>s.TypeIs v Tx) v (.type T) b) (hT:s.TypeIs v Tx) (h:∀tk,Q (.bool b) { s with toks:=tk }):wpAny (model prog w) A (call (.builtin "isinstance") [v,.type T]) Q E s:=by
 refine call_isinstance (S:=fun _ R s'=>s'=s∧∀tk,R (.ok (.ret (.bool b))) { s with toks:=tk }) (fun _ _ _ _ s' hs=>?_) ⟨rfl,h⟩
 obtain ⟨rfl,hs⟩:=hs
 exact isinstance_outer (ha _ _ _ _ _ _ _ ⟨hT,hs⟩) (Shared.TypeIs.not_mainsLoader hT)
theorem isi_ok (H:Hp C ρ hp s.heap) {x:MV}{v:Value}(hx:Rep C ρ s.heap x v) {t:TS}{b:Bool}(h:tyOf hp x t=some b) {P:Bool→Prop}(hq:P b) :
  ∀T,tsIs t=some T→wpAny (mod C) A (call (.builtin "isinstance") [v,.type T]) (OutB s P) E s:=by
 intro T eT
 obtain ⟨k,hk,h⟩:=kdT_inv h
 obtain ⟨h1,h2⟩:=kd_answer H hx hk eT h
 exact call_isi h2 h1 fun tk=>⟨_,tk,rfl,rfl,hq⟩
theorem isi2_ok (H:Hp C ρ hp s.heap) {x:MV}{v:Value}(hx:Rep C ρ s.heap x v) {t u:TS}{T U:String}(eT:tsIs t=some T) (eU:tsIs u=some U) {b b':Bool}(h:tyOf hp x t=some b) (h':tyOf hp x u=some b') {P:Bool→Prop}(hq:P (b||b')) {tp:Addr}
  (ht:s.heap.get? tp=some { cls:=.type "tuple",data:=.seq #[.type T,.type U] }):wpAny (mod C) A (call (.builtin "isinstance") [v,.ref tp]) (OutB s P) E s:=by
 obtain ⟨k,hk,h⟩:=kdT_inv h
 obtain ⟨k',hk',h'⟩:=kdT_inv h'
 obtain rfl:=same hk hk'
 obtain ⟨h1,h2⟩:=kd_answer H hx hk eT h
 obtain ⟨_,h3⟩:=kd_answer H hx hk eU h'
 refine IsiPair.tupleOfB (vs:=[b,b']) (b:=b||b') (.cons h2 (.cons h3 .nil)) h1 ht ?_ fun tk=>⟨_,tk,rfl,rfl,hq⟩
 show (b||(b'||false))=_
 rw [Bool.or_false]
noncomputable def biIs:Bi→Option (Str × Value)
 | .len=>some ("len",.builtin "len")
 | .int=>some ("int",.type "int")
 | .str=>some ("str",.type "str")
 | .list=>some ("list",.type "list")
 | .tuple=>some ("tuple",.type "tuple")
 | .dict=>some ("dict",.type "dict")
 | .all=>if useAll then some ("all",.builtin "all") else none
 | .min=>if useMM then some ("min",.builtin "min") else none
 | .max=>if useMM then some ("max",.builtin "max") else none
 | .sum=>if useSum then some ("sum",.builtin "sum") else none
 | .sorted=>if useSrt then some ("sorted",.builtin "sorted") else none
 | _=>none
noncomputable def quietBi:Bi→Bool
 | .len=>true
 | .int=>true
 | .str=>true
 | _=>false
theorem outKeep (R:Rel C F ρ m s) (ok:FmOk F) {h':Heap}{t:Nat}(hk:∀b o,s.heap.get? b=some o→h'.get? b=some o) {x:MV}{v:Value}(hr:Rep C ρ h' x v) (h:Q x m):Out C F ρ s Q v { s with heap:=h',toks:=t }:=by
 obtain ⟨R',st⟩:=R.grow (s':={ s with heap:=h',toks:=t }) ok hk rfl rfl
 exact ⟨ρ,m,x,st,R',hr,h⟩
theorem len_ok (G:GOk C) (R:Rel C F ρ m s) (ok:FmOk F) {x:MV}{v:Value}(hx:Rep C ρ s.heap x v) (h:wpLen x Q m):wpAny (mod C) A (call (.builtin "len") [v]) (Out C F ρ s Q) E s:=by
 refine Classical.byContradiction fun hn=>?_
 cases x with
 | tup xs=>
  obtain ⟨a,n,items,rfl,g,l,z⟩:=hx.inv
  refine hn (PySem.P.len_tuple g ?_ ?_)
  ·rw [List.size_toArray,l.length];have:=line_lt z;lia
  ·rw [List.size_toArray,l.length];exact outTok R ok (.int _ _) h
 | str xs=>
  obtain ⟨t,rfl,z⟩:=hx.inv
  refine hn (PySem.P.len_str ?_ ?_)
  ·rw [str_length];have:=line_lt z;lia
  ·rw [str_length];exact outTok R ok (.int _ _) h
 | scr is=>
  obtain ⟨a,items,n,rfl,g,l,z⟩:=hx.inv
  have hlen:=(ints_rep (C:=C) (ρ:=ρ) (h:=s.heap) l).length
  rw [List.length_map] at hlen
  refine hn (PySem.Calls.call_len_list ⟨_,R.hp.base _ _ g,rfl,_,rfl⟩ ?_ ?_)
  ·rw [List.size_toArray,hlen];exact line_lt z
  ·rw [List.size_toArray,hlen];exact outTok R ok (.int _ _) h
 | ref i=>
  obtain ⟨a,rfl,g⟩:=hx.inv
  obtain ⟨ys,hi,h⟩ | ⟨ys,hi,h⟩:=onLD_inv h
  ·obtain ⟨items,n,gi,l,z⟩:=R.hp.objs _ _ _ hi g
   refine hn (PySem.Calls.call_len_list ⟨_,gi,rfl,_,rfl⟩ ?_ ?_)
   ·rw [List.size_toArray,l.length];exact line_lt z
   ·rw [List.size_toArray,l.length];exact outTok R ok (.int _ _) h
  ·obtain ⟨kvs,dk,rk,z⟩:=R.hp.objs _ _ _ hi g
   refine hn (call_len_dict (not_sys G R.hp (List.mem_of_getElem? g)) dk ?_ ?_)
   ·rw [rk.length];exact line_lt z
   ·rw [rk.length];exact outTok R ok (.int _ _) h
 | _=>exact h
theorem at_end (R:Rel C F ρ m s) {a:Addr}:(ρ++[a])[m.heap.length]?=some a:=by rw [←R.hp.len,List.getElem?_append_right (Nat.le_refl _)];simp
theorem tupleOf_ok (R:Rel C F ρ m s) (ok:FmOk F) {i:Nat}{ys:List MV}{v:Value}(hx:Rep C ρ s.heap (.ref i) v) (hi:m.heap[i]?=some (.list ys)) (h:Q (.tup ys) m):wpAny (mod C) A (call (.type "tuple") [v]) (Out C F ρ s Q) E s:=by
 obtain ⟨a,rfl,g⟩:=hx.inv
 obtain ⟨items,n,gi,l,z⟩:=R.hp.objs _ _ _ hi g
 refine call_tuple_list ⟨_,gi,rfl,_,rfl⟩ (fun h' hk=>?_) (by rw [List.size_toArray,l.length];exact z)
 have hk':∀b o,s.heap.get? b=some o→(h'.push (tupO items 0)).get? b=some o:=fun b o e=>Heap.get?_push_of_some _ (hk b o e)
 exact outKeep R ok hk' (.tup (Heap.get?_push_size _ rfl) (l.up (fun a o e _=>hk' a o e) (List.prefix_refl _)) z) h
theorem dictOf_ok (G:GOk C) (R:Rel C F ρ m s) (ok:FmOk F) {i:Nat}{ys:List (List Nat × MV)}{v:Value}(hx:Rep C ρ s.heap (.ref i) v) (hi:m.heap[i]?=some (.dict ys)) (h:Q (.ref m.heap.length) (m.push (.dict ys))):wpAny (mod C) A (call (.type "dict") [v]) (Out C F ρ s Q) E s:=by
 obtain ⟨a,rfl,g⟩:=hx.inv
 obtain ⟨kvs,dk,rk,z⟩:=R.hp.objs _ _ _ hi g
 refine kt_call_dict (not_sys G R.hp (List.mem_of_getElem? g)) dk (by rw [rk.length];exact z) fun h' hd hs=>?_
 have hk:∀a o,s.heap.get? a=some o→h'.get? a=some o:=fun a o e=>(hs.2 a (Nat.ne_of_lt (Heap.lt_size e))).trans (Heap.get?_push_of_some _ e)
 obtain ⟨R',st⟩:=R.alloc (s':={ s with heap:=h' }) ok hk rfl rfl (o:=.dict ys) (a:=s.heap.objs.size) (fresh_at (Nat.le_refl _))
  ⟨kvs,hd,rk.up (fun a o e _=>hk a o e) (List.prefix_append _ _),z⟩
 exact ⟨_,_,_,st,R',.ref (at_end R),h⟩
theorem dec_log {i:Int}(h:0≤i∧i<1000000):i.natAbs.log2<1920:=by
 have:i.natAbs<1000000:=by lia
 rcases Nat.eq_zero_or_pos i.natAbs with q | q
 ·rw [q];decide
 ·have:=(Nat.log2_lt (n:=i.natAbs) (k:=20) (Nat.ne_of_gt q)).mpr (Nat.le_trans this (nb rfl))
  exact Nat.le_trans this (nb rfl)
end
end Internal
end
section
namespace Internal
open PySem PyProof.Rows
section
variable {C:Glo}{F:Fm}{X:XM}{ρ:List Addr}{m:MS}{s:Shared}{Q:PQ}{E:Value→Shared→Prop}{A:Around}{h:Heap}{hp:List MO}
theorem listDict_ok (G:GOk C) (hn:A.handled=none) (R:Rel C F ρ m s) (ok:FmOk F) {i:Nat}{ys:List (List Nat × MV)}{v:Value}(hx:Rep C ρ s.heap (.ref i) v) (hi:m.heap[i]?=some (.dict ys)) (hu:useLD=true) (h:Q (.ref m.heap.length) (m.push (.list (ys.map fun p=>.str p.1)))) :
  wpAny (mod C) A (call (.type "list") [v]) (Out C F ρ s Q) E s:=absurd hu (by decide)
end
end Internal
end
section
namespace Internal
open PySem PyProof.Rows
section
variable {C:Glo}{F:Fm}{X:XM}{ρ:List Addr}{m:MS}{s:Shared}{Q:PQ}{E:Value→Shared→Prop}{A:Around}{h:Heap}{hp:List MO}
theorem min_ok (hn:A.handled=none) (R:Rel C F ρ m s) (ok:FmOk F) {i j:Int}{t u:Tok}{n:Str}{f:Value}(hb:biIs .min=some (n,f)) (h:wpBlt2 .min i j Q m):wpAny (mod C) A (call f [.int i t,.int j u]) (Out C F ρ s Q) E s:=nos1 hb
theorem max_ok (hn:A.handled=none) (R:Rel C F ρ m s) (ok:FmOk F) {i j:Int}{t u:Tok}{n:Str}{f:Value}(hb:biIs .max=some (n,f)) (h:wpBlt2 .max i j Q m):wpAny (mod C) A (call f [.int i t,.int j u]) (Out C F ρ s Q) E s:=nos1 hb
theorem bools_get {bs:List Bool}{items:List Value}{h:Heap}(l:RepL C ρ h (bs.map .bool) items) {j:Nat}{v:Value}(e:items[j]?=some v):∃b,bs[j]?=some b∧v=.bool b:=by
 have hj:j<bs.length:=by have:=(List.getElem?_eq_some_iff.mp e).1;rw [l.length,List.length_map] at this;exact this
 obtain ⟨v',e',r⟩:=l.get (i:=j) (x:=.bool bs[j]) (by rw [List.getElem?_map,List.getElem?_eq_getElem hj];rfl)
 obtain rfl:=same e e'
 exact ⟨_,List.getElem?_eq_getElem hj,r.inv⟩
theorem all_ok (hn:A.handled=none) (R:Rel C F ρ m s) (ok:FmOk F) {i:Nat}{v:Value}(hx:Rep C ρ s.heap (.ref i) v) {n:Str}{f:Value}(hb:biIs .all=some (n,f)) (h:wpBlt1 .all (.ref i) Q m):wpAny (mod C) A (call f [v]) (Out C F ρ s Q) E s:=nos1 hb
end
end Internal
end
section
namespace Internal
open PySem PyProof.Rows
section
variable {C:Glo}{F:Fm}{X:XM}{ρ:List Addr}{m:MS}{s:Shared}{Q:PQ}{E:Value→Shared→Prop}{A:Around}{h:Heap}{hp:List MO}
theorem sum_ok (hn:A.handled=none) (R:Rel C F ρ m s) (ok:FmOk F) {i:Nat}{v:Value}(hx:Rep C ρ s.heap (.ref i) v) {n:Str}{f:Value}(hb:biIs .sum=some (n,f)) (h:wpBlt1 .sum (.ref i) Q m):wpAny (mod C) A (call f [v]) (Out C F ρ s Q) E s:=nos1 hb
end
end Internal
end
section
namespace Internal
open PySem PyProof.Rows
section
variable {C:Glo}{F:Fm}{X:XM}{ρ:List Addr}{m:MS}{s:Shared}{Q:PQ}{E:Value→Shared→Prop}{A:Around}{h:Heap}{hp:List MO}
theorem dictPairs_ok (hn:A.handled=none) (R:Rel C F ρ m s) (ok:FmOk F) {i:Nat}{xs:List MV}{v:Value}(hx:Rep C ρ s.heap (.ref i) v) (hi:m.heap[i]?=some (.list xs)) (h:PairsP xs fun es=>Q (.ref m.heap.length) (m.push (.dict es))):wpAny (mod C) A (call (.type "dict") [v]) (Out C F ρ s Q) E s:=by
 obtain ⟨hu,_⟩:=h
 exact absurd hu (by decide)
end
end Internal
end
section
namespace Internal
open PySem PyProof.Rows
section
variable {C:Glo}{F:Fm}{X:XM}{ρ:List Addr}{m:MS}{s:Shared}{Q:PQ}{E:Value→Shared→Prop}{A:Around}{h:Heap}{hp:List MO}
theorem listOf_ok (G:GOk C) (hn:A.handled=none) (R:Rel C F ρ m s) (ok:FmOk F) {x:MV}{v:Value}(hx:Rep C ρ s.heap x v) (h:wpListOf x Q m):wpAny (mod C) A (call (.type "list") [v]) (Out C F ρ s Q) E s:=by
 have key:∀{a:Addr} {ys:List MV} {items:List Value} {k:Nat} {T:String},(T="list"∨T="tuple")→s.heap.get? a=some { cls:=.type T,dict:=none,data:=.seq items.toArray k,slots:=#[] }→RepL C ρ s.heap ys items→ys.length≤line→Q (.ref m.heap.length) (m.push (.list ys))→wpAny (mod C) A (call (.type "list") [.ref a]) (Out C F ρ s Q) E s:=fun {a ys items k T} hT gi l z h=>by
  refine call_list_seq _ hT gi rfl rfl (fun h' c' hk hn=>?_) (by rw [List.size_toArray,l.length];exact z)
  obtain ⟨R',st⟩:=R.alloc (s':={ s with heap:=h' }) ok hk rfl rfl (o:=.list ys) (a:=s.heap.objs.size) (fresh_at (Nat.le_refl _))
   ⟨items,c',hn,l.up (fun a o e _=>hk a o e) (List.prefix_append _ _),z⟩
  exact ⟨_,_,_,st,R',.ref (at_end R),h⟩
 refine Classical.byContradiction fun hc=>?_
 cases x with
 | ref i=>
  obtain ⟨ys,hi,h⟩ | ⟨ys,hi,h⟩:=onLD_inv h
  ·obtain ⟨a,rfl,g⟩:=hx.inv
   obtain ⟨items,n,gi,l,z⟩:=R.hp.objs _ _ _ hi g
   exact hc (key (.inl rfl) gi l z h)
  ·exact hc (listDict_ok G hn R ok hx hi h.1 h.2)
 | tup ys=>
  obtain ⟨a,n,items,rfl,gi,l,z⟩:=hx.inv
  exact hc (key (.inr rfl) gi l z h)
 | _=>exact h
theorem intOf_ok (R:Rel C F ρ m s) (ok:FmOk F) {x:MV}{v:Value}(hx:Rep C ρ s.heap x v) (h:wpBlt1 .int x Q m):wpAny (mod C) A (call (.type "int") [v]) (Out C F ρ s Q) E s:=by
 refine Classical.byContradiction fun hn=>?_
 cases x with
 | bool c=>obtain rfl:=hx.inv;exact hn (call_int_bool (outTok R ok (.int _ _) (by cases c<;>exact h)))
 | str z=>
  obtain ⟨t,rfl,_⟩:=hx.inv
  obtain ⟨k,rfl,hk,hq⟩:=h
  exact hn (int_text hk (outTok R ok (.int _ _) hq))
 | _=>exact h
theorem strOf_ok (R:Rel C F ρ m s) (ok:FmOk F) {x:MV}{v:Value}(hx:Rep C ρ s.heap x v) (h:wpBlt1 .str x Q m):wpAny (mod C) A (call (.type "str") [v]) (Out C F ρ s Q) E s:=by
 refine Classical.byContradiction fun hn=>?_
 cases x with
 | str z=>obtain ⟨t,rfl,_⟩:=hx.inv;exact hn (PySem.P.str_of_str (outSame R hx h))
 | int i=>
  obtain ⟨t,rfl⟩:=hx.inv
  refine hn (PySem.P.str_of_int (dec_log h.1) ?_)
  have e:(Str.ofString (toString i):Str)=str (dec i):=by rw [Str.ofString_eq_toList];rfl
  rw [e]
  exact outTok R ok (.str _ _ (Nat.le_trans (dec_len h.1).2 (by decide))) h.2
 | _=>exact h
theorem blt_ok (G:GOk C) (R:Rel C F ρ m s) (ok:FmOk F) {b:Bi}(hh:quietBi b=true∨A.handled=none) {xs:List MV}{vs:List Value}(hl:RepL C ρ s.heap xs vs) {n:Str}{f:Value}(hb:biIs b=some (n,f)) (hns:b≠.sorted) (h:wpBlt b xs Q m) :
  wpAny (mod C) A (call f vs) (Out C F ρ s Q) E s:=by
 have hf:∀{f':Value} {n':Str},some (n',f')=some (n,f)→wpAny (mod C) A (call f' vs) (Out C F ρ s Q) E s→wpAny (mod C) A (call f vs) (Out C F ρ s Q) E s:=fun e k=>by
  obtain rfl:_=f:=congrArg Prod.snd (Option.some.inj e);exact k
 obtain ⟨x,rfl,h⟩ | ⟨x,y,rfl,h⟩:=on12_inv h
 ·obtain ⟨v,rfl,hx⟩:=hl.one
  refine Classical.byContradiction fun hn=>?_
  cases b with
  | len=>exact hn (hf hb (len_ok G R ok hx h))
  | list=>exact hn (hf hb (listOf_ok G (hh.resolve_left (by decide)) R ok hx h))
  | all=>
   obtain ⟨i,rfl,h1⟩:=onR_inv h
   exact hn (all_ok (hh.resolve_left (by decide)) R ok hx hb h)
  | sum=>
   obtain ⟨i,rfl,h1⟩:=onR_inv h
   exact hn (sum_ok (hh.resolve_left (by decide)) R ok hx hb h)
  | int=>exact hn (hf hb (intOf_ok R ok hx h))
  | str=>exact hn (hf hb (strOf_ok R ok hx h))
  | tuple=>
   obtain ⟨i,rfl,h1⟩:=onR_inv h
   obtain ⟨ys,hi,h1⟩:=onLs_inv h1
   exact hn (hf hb (tupleOf_ok R ok hx hi h1))
  | dict=>
   obtain ⟨i,rfl,h1⟩:=onR_inv h
   obtain ⟨ys,hi,h1⟩ | ⟨ys,hi,h1⟩:=onLD_inv h1
   ·exact hn (hf hb (dictPairs_ok (hh.resolve_left (by decide)) R ok hx hi h1))
   ·exact hn (hf hb (dictOf_ok G R ok hx hi h1))
  | min=>exact h
  | max=>exact h
  | sorted=>exact hns rfl
  | _=>exact nos1 hb
 ·obtain ⟨v,w,rfl,hx,hy⟩:=hl.two
  obtain ⟨i,j,t,u,rfl,rfl,h⟩:=ints_of hx hy h
  refine Classical.byContradiction fun hn=>?_
  cases b with
  | min=>exact hn (min_ok (hh.resolve_left (by decide)) R ok hb h)
  | max=>exact hn (max_ok (hh.resolve_left (by decide)) R ok hb h)
  | _=>exact h
end
end Internal
end
section
namespace Internal
open PySem PyProof.Rows
set_option genCtorIdx false in
structure Cx where
 kind:Str→Option NameKind
 nm:Nat→Option Str
 fn:Nat→Option Str
 gl:Nat→Option (Str × MV)
 wr:Bool
 fr:Nat→Bool
 nh:Bool
 hf:Nat→Bool
 cn:Nat→Option Str
 xn:Nat→Option Str
 mt:Nat→Option (Nat × Str)
 at_:Nat→Str→Bool
noncomputable def dbg (x:Str):Bool:=x==("__debug__":Str)
noncomputable def cdc (x:Str):Bool:=x==("__classdict__":Str)
noncomputable def bltNames:List (Str × Value):=[("len",.builtin "len"),("int",.type "int"),("str",.type "str"),("list",.type "list"),("tuple",.type "tuple"),("dict",.type "dict"),
 ("bool",.type "bool"),("isinstance",.builtin "isinstance"),("range",.type "range"),("enumerate",.type "enumerate"),("sorted",.builtin "sorted"),("set",.type "set"),("all",.builtin "all"),("min",.builtin "min"),("max",.builtin "max"),("ValueError",.type "ValueError"),("sum",.builtin "sum"),("reversed",.type "reversed")]
inductive GlobsR (C:Glo) (g b:Addr) (fn:Nat→Option Str) (gl:Nat→Option (Str × MV)) (cn xn:Nat→Option Str):Prop
 | mk (mg mb:Str→Option Value) (h1:C.base.Ns g mg) (h2:C.base.Ns b mb) (hf:∀f x,fn f=some x→∃a,C.fa f=some a∧mg x=some (.ref a)) (hg:∀g x v,gl g=some (x,v)→∃w,mg x=some w∧∀ρ h,C.base.StaysIn h→Rep C ρ h v w)
   (hb:∀x v,(x,v)∈bltNames→mg x=none∧mb x=some v) (hc:∀k x,cn k=some x→∃K,C.ca k=some K∧mg x=some (.ref K)) (hx:∀k x,xn k=some x→∃K,C.xa k=some K∧mg x=some (.ref K))
structure CxOk (C:Glo) (c:Cx) (F:Fm) (n:Nat):Prop where
 fm:FmOk F
 kind:∀x,F.env.kindOf x=c.kind x
 nm:∀i x,c.nm i=some x→(F.env.kindOf x=some .local∧F.lay i=some (.nm F.env.locals x))∨
  (∃a,(F.env.kindOf x=some .cell∨(F.env.kindOf x=some .free∧cdc x=false))∧F.env.cells.lookup x=some a∧F.lay i=some (.cl a))
 glob:GlobsR C F.env.globals F.env.builtins c.fn c.gl c.cn c.xn
 meth:∀f k x,c.mt f=some (k,x)→∃a,C.fa f=some a∧C.cm k x=some (.ref a)∧∃o,C.base.get? a=some o∧o.cls=.type "function"
 attr:∀k x,c.at_ k x=true→C.cm k x=none
 hn:c.nh=true→F.A.handled=none
 hf:c.hf=C.hf
 units:F.A.units≤3 * F.A.depth+4
 room:F.A.depth+n≤999
 inter:interactive F.env=false
 wr:∀i a,F.lay i=some (.cl a)→c.wr=true→a∈F.W
 fr:∀i,c.fr i=true→F.lay i=none
theorem CxOk.u {C:Glo}{c:Cx}{F:Fm}{n:Nat}(x:CxOk C c F n):F.A.units+1001<cLine:=by
 have:=x.units;have:=x.room;show _<9900;lia
section
variable {C:Glo}{F:Fm}{X:XM}{ρ:List Addr}{m:MS}{s:Shared}{Q:PQ}{E:Value→Shared→Prop}{A:Around}{c:Cx}{n:Nat}
theorem ns_base (H:Hp C ρ m.heap s.heap) {a:Addr}{f:Str→Option Value}(h:C.base.Ns a f):s.heap.Ns a f:=ns_data h fun o e=>⟨o,H.base a o e,rfl⟩
theorem load_var (cx:CxOk C c F n) (R:Rel C F ρ m s) {i:Nat}{x:Str}(hx:c.nm i=some x) {v:MV}(hv:m.get i=some v) {p:Pos}(hd:dbg x=false) (hq:Q v m) :
  wpAny (mod C) A (eval (.Name x p) F.env) (Out C F ρ s Q) E s:=by
 obtain ⟨l,h1,h2⟩:=R.vars i v hv
 refine wpAny_Name ?_ hd
 rcases cx.nm i x hx with ⟨k,e⟩ | ⟨a,k,e1,e⟩
 ·obtain rfl:=same e h1
  obtain ⟨f,w,hn,hw,r⟩:=h2
  exact wpAny_loadName_local cx.fm.kind k hn hw (outSame R r hq)
 ·obtain rfl:=same e h1
  obtain ⟨w,hc,r⟩:=h2
  rcases k with k | ⟨k,kd⟩
  ·exact wpAny_loadName_cell cx.fm.kind k e1 hc (outSame R r hq)
  ·exact wpAny_loadName_free cx.fm.kind k e1 hc (outSame R r hq) kd
theorem load_blt (cx:CxOk C c F n) (R:Rel C F ρ m s) {x:Str}{v:Value}(hm:(x,v)∈bltNames) (hk:c.kind x=some .globalImplicit) {p:Pos}(hd:dbg x=false) {P:Value→Shared→Prop}(h:P v s) :
  wpAny (mod C) A (eval (.Name x p) F.env) P E s:=by
 obtain ⟨mg,mb,h1,h2,_,_,h3,_⟩:=cx.glob
 exact Calls.Name_function_global cx.fm.kind ((cx.kind x).trans hk) (Calls.loadGlobal_builtin (ns_base R.hp h1) (h3 x v hm).1 (ns_base R.hp h2) (h3 x v hm).2 h) hd
theorem load_fn (cx:CxOk C c F n) (R:Rel C F ρ m s) {x:Str}{f:Nat}(hm:c.fn f=some x) (hk:c.kind x=some .globalImplicit) {p:Pos}(hd:dbg x=false) {P:Value→Shared→Prop}(h:∀a,C.fa f=some a→P (.ref a) s) :
  wpAny (mod C) A (eval (.Name x p) F.env) P E s:=by
 obtain ⟨mg,mb,h1,h2,h3,_⟩:=cx.glob
 obtain ⟨a,e1,e2⟩:=h3 f x hm
 exact Calls.Name_function_global cx.fm.kind ((cx.kind x).trans hk) (Calls.loadGlobal_global (ns_base R.hp h1) e2 (h a e1)) hd
theorem load_gl (cx:CxOk C c F n) (R:Rel C F ρ m s) {x:Str}{g:Nat}{v:MV}(hm:c.gl g=some (x,v)) (hk:c.kind x=some .globalImplicit) {p:Pos}(hd:dbg x=false) (hq:Q v m) :
  wpAny (mod C) A (eval (.Name x p) F.env) (Out C F ρ s Q) E s:=by
 obtain ⟨mg,mb,h1,h2,_,h3,_⟩:=cx.glob
 obtain ⟨w,e1,e2⟩:=h3 g x v hm
 exact Calls.Name_function_global cx.fm.kind ((cx.kind x).trans hk) (Calls.loadGlobal_global (ns_base R.hp h1) e1 (outSame R (e2 ρ s.heap R.hp.base) hq)) hd
theorem load_cls (cx:CxOk C c F n) (R:Rel C F ρ m s) {x:Str}{k:Nat}(hm:c.cn k=some x) (hk:c.kind x=some .globalImplicit) {p:Pos}(hd:dbg x=false) {P:Value→Shared→Prop}(h:∀a,C.ca k=some a→P (.ref a) s) :
  wpAny (mod C) A (eval (.Name x p) F.env) P E s:=by
 obtain ⟨mg,mb,h1,h2,_,_,_,h3,_⟩:=cx.glob
 obtain ⟨a,e1,e2⟩:=h3 k x hm
 exact Calls.Name_function_global cx.fm.kind ((cx.kind x).trans hk) (Calls.loadGlobal_global (ns_base R.hp h1) e2 (h a e1)) hd
theorem load_exc (cx:CxOk C c F n) (R:Rel C F ρ m s) {x:Str}{k:Nat}(hm:c.xn k=some x) (hk:c.kind x=some .globalImplicit) {p:Pos}(hd:dbg x=false) {P:Value→Shared→Prop}(h:∀a,C.xa k=some a→P (.ref a) s) :
  wpAny (mod C) A (eval (.Name x p) F.env) P E s:=by
 obtain ⟨mg,mb,h1,h2,_,_,_,_,h3⟩:=cx.glob
 obtain ⟨a,e1,e2⟩:=h3 k x hm
 exact Calls.Name_function_global cx.fm.kind ((cx.kind x).trans hk) (Calls.loadGlobal_global (ns_base R.hp h1) e2 (h a e1)) hd
theorem store_var (cx:CxOk C c F n) (R:Rel C F ρ m s) {i:Nat}{x:Str}(hx:c.nm i=some x) (hk:c.kind x=some .local∨(c.wr=true∧c.kind x≠some .free)) {v:MV}{w:Value}(hr:Rep C ρ s.heap v w) {P:Unit→Shared→Prop}
  (h:∀s',Step F.W ρ s ρ s'→Rel C F ρ (m.set i v) s'→P () s'):wpAny (mod C) A (storeName F.env x w) P E s:=by
 rcases cx.nm i x hx with ⟨k,e⟩ | ⟨a,k,e1,e⟩
 ·obtain ⟨f,hf⟩:=R.ns
  refine wpAny_storeName_local k hf (fun h' hn hs=>?_) (by rw [cx.fm.kind];rfl)
  obtain ⟨R',st⟩:=R.setName (s':={ s with heap:=h',toks:=s.toks+1 }) cx.fm e hf hn hs rfl rfl hr
  exact h _ st R'
 ·rcases k with k | ⟨k,_⟩
  ·obtain ⟨v₀,hc⟩:=R.cells i a e
   refine wpAny_storeName_cell cx.fm.kind k e1 hc fun h' hn hs=>?_
   have hwr:c.wr=true:=hk.elim (fun q=>absurd ((cx.kind x).symm.trans k) (by rw [q];decide)) (·.1)
   obtain ⟨R',st⟩:=R.setCell (s':={ s with heap:=h' }) cx.fm e (cx.wr i a e hwr) hc hn hs rfl rfl hr
   exact h _ st R'
  ·exact hk.elim (fun q=>absurd ((cx.kind x).symm.trans k) (by rw [q];decide)) fun q=>absurd ((cx.kind x).symm.trans k) q.2
noncomputable def meIs:Me→Option Str
 | .append=>some "append"
 | .find=>some "find"
 | .extend=>some "extend"
 | .pop=>some "pop"
 | .split=>some "split"
 | .join=>some "join"
 | .count=>some "count"
 | .dpop=>some "pop"
 | .dclear=>some "clear"
 | .get=>some "get"
 | _=>none
inductive LstR (C:Glo) (ρ:List Addr) (hp:List MO) (h:Heap) (x:MV) (v:Value) (r:Nat) (xs:List MV):Prop
 | mk (a:Addr) (items:List Value) (k:Nat) (hv:v=.ref a) (hx:x=.ref r) (g:ρ[r]?=some a) (hi:hp[r]?=some (.list xs)) (gi:h.get? a=some (listO items k)) (rl:RepL C ρ h xs items) (z:xs.length≤line)
inductive DctR (C:Glo) (ρ:List Addr) (hp:List MO) (h:Heap) (x:MV) (v:Value) (r:Nat) (es:List (List Nat × MV)):Prop
 | mk (a:Addr) (kvs:List (Str × Value)) (hv:v=.ref a) (hx:x=.ref r) (g:ρ[r]?=some a) (hi:hp[r]?=some (.dict es)) (dk:h.DictOf (strKind C.prog C.w) a kvs) (rk:RepK C ρ h es kvs) (z:es.length≤line)
theorem lst_rep (H:Hp C ρ m.heap s.heap) {x:MV}{v:Value}(hx:Rep C ρ s.heap x v) {r:Nat}{xs:List MV}(h:lst x m.heap=some (r,xs)):LstR C ρ m.heap s.heap x v r xs:=by
 obtain ⟨rfl,hi⟩:=lst_inv h
 obtain ⟨a,rfl,g⟩:=hx.inv
 obtain ⟨items,k,gi,rl,z⟩:=H.objs _ _ _ hi g
 exact ⟨a,items,k,rfl,rfl,g,hi,gi,rl,z⟩
theorem lst_some {x:MV}{hp:List MO}(h:(lst x hp).isSome=true):∃r xs,lst x hp=some (r,xs):=by
 obtain ⟨⟨r,xs⟩,h⟩:=Option.isSome_iff_exists.mp h
 exact ⟨r,xs,h⟩
theorem put_list (ok:FmOk F) {ρ₀:List Addr}{s₀:Shared}(st₀:Step F.W ρ₀ s₀ ρ s) (R:Rel C F ρ m s) {r:Nat}{a:Addr}{xs ys:List MV}{items:List Value}{k:Nat}(g:ρ[r]?=some a) (hi:m.heap[r]?=some (.list xs)) {h':Heap}{t:Nat}
  (hk:∀b ob,b≠a→s.heap.get? b=some ob→h'.get? b=some ob) (e:h'.get? a=some (listO items k)) (hr:RepL C ρ s.heap ys items) (hz:ys.length≤line) {z:MV}{w:Value}(hw:Rep C ρ s.heap z w) (hq:Q z (m.put r (.list ys))) :
  Out C F ρ₀ s₀ Q w { s with heap:=h',toks:=t }:=by
 have hsol:Solids s.heap h':=solids_but hk (repO_not_solid (R.hp.objs _ _ _ hi g))
 obtain ⟨R₂,st₂⟩:=R.put (s':={ s with heap:=h',toks:=t }) ok g hi (o:=.list ys) hk rfl rfl ⟨items,k,e,hr.up hsol (List.prefix_refl _),hz⟩
 exact ⟨_,_,z,st₀.trans st₂,R₂,hw.up hsol (List.prefix_refl _),hq⟩
theorem mapSeq_list {items ys:List Value}{f:Array Value→Array Value}{k:Nat}(e:f items.toArray=ys.toArray):∃k',Obj.mapSeq f (listO items k)=listO ys k':=
 ⟨if (f items.toArray).size==items.toArray.size then k else k+1,congrArg (fun z=>({ cls:=.type "list",data:=.seq z (if (f items.toArray).size==items.toArray.size then k else k+1) }:Obj)) e⟩
theorem args_any {id:String}{v:Value}{trees:List (Bool × Sem Value)}{pos:Pos}{P:Value→Shared→Prop}(hp:trees.any (·.1)=false)
  (h:wpAny (mod C) A (spliced trees) (fun vs s₁=>wpAny (mod C) A (call (.builtin id) (v::vs)) P E s₁) E s):wpAny (mod C) A (callWith pos (.builtin id) [v] trees []) P E s:=by
 refine Calls.callWith_builtin hp ?_
 cases trees with
 | nil=>exact wpAny_bind (wpAny_mono h (fun vs s' h'=>wpAny_holding (wpAny_bind (wpAny_pure (wpAny_bind (wpAny_pure (wpAny_pure h')))))) fun _ _ x=>x)
 | cons q trees=>
  obtain ⟨b,t⟩:=q
  simp only [List.any_cons,Bool.or_eq_false_iff] at hp
  obtain ⟨rfl,_⟩:=hp
  exact Calls.evalArgs_plain h
end
end Internal
end
section
namespace Internal
open PySem PyProof.Rows
section
variable {C:Glo}{F:Fm}{X:XM}{ρ:List Addr}{m:MS}{s:Shared}{Q:PQ}{E:Value→Shared→Prop}{A:Around}{c:Cx}{n:Nat}
set_option tactic.hygienic true in
theorem erase_last {α:Type}(xs:List α):(xs.toArray.eraseIdxIfInBounds (xs.toArray.size-1))=xs.dropLast.toArray:=by
 rw [List.size_toArray]
 apply Array.ext'
 simp [Array.eraseIdxIfInBounds]
 split
 ·simp [List.dropLast_eq_take]
 ·rename_i h
  have:xs=[]:=by
   cases xs with
   | nil=>rfl
   | cons a r=>simp at h
  subst this;rfl
theorem pop_ok (ok:FmOk F) {x:MV}{v:Value}{ρ₀:List Addr}{s₀:Shared}(st₀:Step F.W ρ₀ s₀ ρ s) (R:Rel C F ρ m s) (hx:Rep C ρ s.heap x v) {xs:List MV}{vs:List Value}(rl:RepL C ρ s.heap xs vs) (h:wpMth .pop x xs Q m) :
  wpAny (mod C) A (call (.builtin "list.pop") (v::vs)) (Out C F ρ₀ s₀ Q) E s:=by
 replace h:=h.2
 obtain ⟨r,ys,hl,rfl,j1⟩:=onL_inv h
 obtain ⟨y,hy,j2⟩:=onO_inv j1
 obtain ⟨a,items,k,rfl,rfl,g,hi,gi,ri,z⟩:=lst_rep R.hp hx hl
 cases rl with | nil=>
 obtain ⟨w,hw,rw'⟩:=ri.get hy
 have hsz:items.toArray.size=ys.length:=by rw [List.size_toArray,ri.length]
 refine call_meets PySem.F.slot_list_pop ⟨_,gi,rfl⟩ PySem.F.entry_list_pop (PySem.F.args_list_pop_1 _) (PySem.MeetsSeq.list_pop_last a items.toArray k w (by rw [hsz];simpa using hw) (by rw [hsz];exact z)) ⟨gi,?_⟩
 have hs:=Heap.SameBut.update s.heap a (Obj.mapSeq fun xs=>xs.eraseIdxIfInBounds (items.toArray.size-1))
 have hg:=Heap.get?_update_self (Obj.mapSeq fun xs=>xs.eraseIdxIfInBounds (items.toArray.size-1)) gi rfl
 obtain ⟨k₂,e₂⟩:=mapSeq_list (k:=k) (f:=fun xs=>xs.eraseIdxIfInBounds (items.toArray.size-1)) (erase_last items)
 refine put_list ok st₀ R g hi (t:=s.toks) (fun b ob q e=>(hs.2 b q).trans e) (items:=items.dropLast) (k:=k₂) (hg.trans (congrArg some e₂)) ?_ (Nat.le_trans (by rw [List.length_dropLast];exact Nat.sub_le ..) z) rw' j2
 rw [List.dropLast_eq_take,List.dropLast_eq_take,ri.length]
 exact ri.take _
end
end Internal
end
section
namespace Internal
open PySem PyProof.Rows
section
variable {C:Glo}{F:Fm}{X:XM}{ρ:List Addr}{m:MS}{s:Shared}{Q:PQ}{E:Value→Shared→Prop}{A:Around}{c:Cx}{n:Nat}
theorem split_count {x y:Str}:(Txt.split x y).length≤x.length+2:=by
 unfold Txt.split
 split
 ·exact Nat.le_add_left 1 (x.length+1)
 ·split
  ·exact Nat.le_add_left 1 (x.length+1)
  ·have e:=StrLaws.occ_length_le x y 0 x.length (x.length+1)
   rw [length_partsBetween];lia
theorem glue_join (c:Nat):∀l:List Str,(Str.join ⟨#[c]⟩ l).cps.toList=glue c (l.map (·.cps.toList))
 | []=>rfl
 | [x]=>rfl
 | x::y::r=>by
  have e:=glue_join c (y::r)
  show (x.cps++#[c]++(Str.join ⟨#[c]⟩ (y::r)).cps).toList=x.cps.toList++c::glue c ((y::r).map (·.cps.toList))
  rw [←e];simp
theorem values_rep:∀{l:List (Str × Tok)},(∀x∈l.map (·.1),x.length≤line)→RepL C ρ s.heap ((l.map (·.1)).map fun x=>.str x.cps.toList) (strValues l)
 | [],_=>.nil
 | (x,t)::r,h=>by
  have e:x=str x.cps.toList:=by simp
  refine .cons ?_ (values_rep fun y hy=>h y (.tail _ hy))
  have hl:=h x (.head _)
  exact e▸.str x.cps.toList t hl
theorem split_call {x y:Str}{t u:Tok}{P:Value→Shared→Prop}(hy:(y.length==0)=false) (hx:x.length+2≤sizeLine)
  (h:∀l k,l.map (·.1)=Txt.split x y→P (.ref s.heap.objs.size) { s with heap:=s.heap.push (listO (strValues l) 0),toks:=k }):wpAny (mod C) A (call (.builtin "str.split") [.str x t,.str y u]) P E s:=by
 have hn:(Builtin.Str.partsBetween x (Builtin.Str.occurrences x y 0 x.length (x.length+1)) y.length).length≤sizeLine:=by
  have e:=StrLaws.occ_length_le x y 0 x.length (x.length+1)
  rw [length_partsBetween];lia
 cases h1:(decide (x.length<y.length)||decide (Builtin.Str.strKind x<Builtin.Str.strKind y)) with
 | true=>exact call_meets PySem.F.slot_str_split (typeIs_str _ _ _) PySem.F.entry_str_split (PySem.F.args_str_split_2 _ _) (meets_str_split_cannot_occur x y t u h1) (h [(x,t)] s.toks (if_pos h1).symm)
 | false=>
  cases hf:(Builtin.Str.occurrences x y 0 x.length (x.length+1)).isEmpty with
  | true=>exact call_meets PySem.F.slot_str_split (typeIs_str _ _ _) PySem.F.entry_str_split (PySem.F.args_str_split_2 _ _) (meets_str_split_not_found x y t u h1 hy hf) (h [(x,t)] s.toks ((if_neg (ne_true_of_eq_false h1)).trans (if_pos hf)).symm)
  | false=>
   refine call_meets PySem.F.slot_str_split (typeIs_str _ _ _) PySem.F.entry_str_split (PySem.F.args_str_split_2 _ _) (meets_str_split_sep x y t u h1 hy hf (Nat.le_of_add_right_le hx) hn) ?_
   have e:=h (numbered s.toks (Builtin.Str.partsBetween x (Builtin.Str.occurrences x y 0 x.length (x.length+1)) y.length)) (s.toks+(Builtin.Str.partsBetween x (Builtin.Str.occurrences x y 0 x.length (x.length+1)) y.length).length) ((numbered_texts _ _).trans ((if_neg (ne_true_of_eq_false h1)).trans (if_neg (ne_true_of_eq_false hf))).symm)
   rw [←strsFrom_eq] at e
   exact e
theorem split_ok (ok:FmOk F) {x:List Nat}{t:Tok}{ρ₀:List Addr}{s₀:Shared}(st₀:Step F.W ρ₀ s₀ ρ s) (R:Rel C F ρ m s) {xs:List MV}{vs:List Value}(rl:RepL C ρ s.heap xs vs) (h:wpMth .split (.str x) xs Q m) :
  wpAny (mod C) A (call (.builtin "str.split") (.str (str x) t::vs)) (Out C F ρ₀ s₀ Q) E s:=by
 simp only [wpMth] at h
 replace h:=h.2
 obtain ⟨_,e,j1⟩:=onS_inv h
 cases e
 obtain ⟨y,rfl,j2⟩:=on1_inv j1
 obtain ⟨z,rfl,c,rfl,hl,j3⟩:=onS_inv j2
 cases rl with | cons ra rn=>cases rn with | nil=>cases ra with | str _ u zu=>
 have hx:(str x).length+2≤sizeLine:=by
  rw [str_length]
  exact Nat.le_trans (Nat.add_le_add_right (Nat.le_of_lt hl) 2) (by decide)
 refine split_call rfl hx fun l k e=>Out.back st₀ _ _ (outList R ok (xs:=(l.map (·.1)).map fun x=>.str x.cps.toList) (values_rep fun a ha=>?_) ?_ ?_)
 ·rw [e] at ha
  exact Nat.le_trans (part_short ha) (Nat.le_of_add_right_le hx)
 ·rw [e,List.length_map]
  exact Nat.le_trans (split_count (x:=str x) (y:=str [c])) hx
 ·have e2:(l.map (·.1)).map (fun x=>MV.str x.cps.toList)=((Txt.split (str x) (str [c])).map (·.cps.toList)).map .str:=by rw [e,List.map_map];rfl
  rw [e2]
  refine j3 _ ?_ ?_ ?_
  ·intro e3
   have:=split_pos (str x) (str [c])
   rw [List.map_eq_nil_iff.mp e3] at this
   cases this
  ·intro w hw
   obtain ⟨a,ha,rfl⟩:=List.mem_map.mp hw
   exact StrLaws.split_free (str x) c a ha
  ·have e3:=congrArg (fun z:Str=>z.cps.toList) (StrLaws.join_split (str x) (str [c]))
   exact (glue_join c _).symm.trans (e3.trans (str_cps x))
theorem strs_are {h:Heap}{ss:List (List Nat)}{items:List Value}(r:RepL C ρ h (ss.map .str) items):StrsAre items (ss.map str):=by
 induction ss generalizing items with
 | nil=>rw [r.inv];exact .nil
 | cons x ss ih=>
  obtain ⟨v,ws,rfl,a,b⟩:=r.inv
  obtain ⟨t,rfl,_⟩:=a.inv
  exact .cons _ t (ih b)
theorem glue_sum (c:Nat):∀ss:List (List Nat),((ss.map str).map (·.length)).sum+ss.length≤(glue c ss).length+1
 | []=>Nat.zero_le _
 | [x]=>by
  show (str x).length+0+1≤x.length+1
  rw [str_length];exact Nat.le_refl _
 | x::y::r=>by
  have h:=glue_sum c (y::r)
  show (str x).length+(((y::r).map str).map (·.length)).sum+((y::r).length+1)≤(x++c::glue c (y::r)).length+1
  rw [str_length,List.length_append,show (c::glue c (y::r)).length=(glue c (y::r)).length+1 from rfl];lia
theorem join_ok (ok:FmOk F) {x:List Nat}{t:Tok}{ρ₀:List Addr}{s₀:Shared}(st₀:Step F.W ρ₀ s₀ ρ s) (R:Rel C F ρ m s) {xs:List MV}{vs:List Value}(rl:RepL C ρ s.heap xs vs) (h:wpMth .join (.str x) xs Q m) :
  wpAny (mod C) A (call (.builtin "str.join") (.str (str x) t::vs)) (Out C F ρ₀ s₀ Q) E s:=by
 dsimp only [wpMth] at h
 obtain ⟨_,e,j1⟩:=onS_inv h.2
 cases e
 obtain ⟨y,rfl,j2⟩:=on1_inv j1
 obtain ⟨r,ys,hl,c,ws,⟨rfl,rfl⟩,hz,hq⟩:=onL_inv j2
 obtain ⟨_,rfl,ra⟩:=rl.one
 obtain ⟨a,items,k,rfl,rfl,g,hi,gi,ri,z⟩:=lst_rep R.hp ra hl
 have hs:=glue_sum c ws
 refine join_list (items:=items.toArray) ⟨_,gi,rfl,_,rfl⟩ (strs_are ri) ?_ fun t' k=>?_
 ·rw [List.length_map,str_length]
  show _+ws.length * 1≤_
  lia
 ·obtain ⟨R₂,st₂⟩:=R.tok ok k
  have e:Txt.join (str [c]) (ws.map str)=str (glue c ws):=by
   have e:=glue_join c (ws.map str)
   rw [List.map_map,show ((fun z:Str=>z.cps.toList) ∘ str)=id from funext fun z=>str_cps z,List.map_id] at e
   exact (StrLaws.glued_eq_join _ _).trans (show (⟨((Str.join ⟨#[c]⟩ (ws.map str)).cps.toList).toArray⟩:Str)=_ by rw [e])
  rw [e]
  exact ⟨_,_,_,st₀.trans st₂,R₂,.str _ _ (Nat.le_trans hz (by unfold line;decide)),hq⟩
end
end Internal
end
section
namespace Internal
open PySem PyProof.Rows
section
variable {C:Glo}{F:Fm}{X:XM}{ρ:List Addr}{m:MS}{s:Shared}{Q:PQ}{E:Value→Shared→Prop}{A:Around}{c:Cx}{n:Nat}
noncomputable def meId:Me→String
 | .append=>"list.append"
 | .extend=>"list.extend"
 | .pop=>"list.pop"
 | .find=>"str.find"
 | .count=>"list.count"
 | .dpop=>"dict.pop"
 | .dclear=>"dict.clear"
 | .get=>"dict.get"
 | .join=>"str.join"
 | _=>"str.split"
noncomputable def meTy:Me→String
 | .dpop=>"dict"
 | .dclear=>"dict"
 | .get=>"dict"
 | .join=>"str"
 | .find=>"str"
 | .split=>"str"
 | _=>"list"
inductive MeF (T:String) (name:Str) (id:String):Prop
 | mk (pa:PlainAttrs T) (sl:Slot T name id) (ty:typeOf (.builtin id)=pure (.type "method_descriptor"))
noncomputable def MeP (k:Me):Prop:=match meIs k with
 | some name=>MeF (meTy k) name (meId k)
 | none=>True
theorem me_f (k:Me):MeP k:=by
 cases k with
 | append=>exact ⟨PySem.F.plainAttrs_list,slot_list_append,rfl⟩
 | extend=>exact ⟨PySem.F.plainAttrs_list,PySem.F.slot_list_extend,rfl⟩
 | pop=>exact ⟨PySem.F.plainAttrs_list,PySem.F.slot_list_pop,rfl⟩
 | dpop=>exact ⟨PySem.F.plainAttrs_dict,PySem.F.slot_dict_pop,PySem.F.type_dict_pop⟩
 | dclear=>exact ⟨PySem.F.plainAttrs_dict,PySem.F.slot_dict_clear,PySem.F.type_dict_clear⟩
 | count=>exact ⟨PySem.F.plainAttrs_list,PySem.F.slot_list_count,PySem.F.type_list_count⟩
 | find=>exact ⟨PySem.F.plainAttrs_str,PySem.F.slot_str_find,PySem.F.type_str_find⟩
 | split=>exact ⟨PySem.F.plainAttrs_str,PySem.F.slot_str_split,PySem.F.type_str_split⟩
 | join=>exact ⟨PySem.F.plainAttrs_str,PySem.F.slot_str_join,PySem.F.type_str_join⟩
 | get=>exact ⟨PySem.F.plainAttrs_dict,PySem.F.slot_dict_get,PySem.F.type_dict_get⟩
 | _=>exact trivial
theorem app_ok (ok:FmOk F) {x:MV}{v:Value}{ρ₀:List Addr}{s₀:Shared}(st₀:Step F.W ρ₀ s₀ ρ s) (R:Rel C F ρ m s) (hx:Rep C ρ s.heap x v) {xs:List MV}{vs:List Value}(rl:RepL C ρ s.heap xs vs) (h:wpMth .append x xs Q m) :
  wpAny (mod C) A (call (.builtin "list.append") (v::vs)) (Out C F ρ₀ s₀ Q) E s:=by
 dsimp only [wpMth] at h
 obtain ⟨r,ys,hl,j1⟩:=onL_inv h
 obtain ⟨y,rfl,h1,h2⟩:=on1_inv j1
 obtain ⟨a,items,k,rfl,rfl,g,hi,gi,ri,z⟩:=lst_rep R.hp hx hl
 obtain ⟨w1,rfl,ra⟩:=rl.one
 refine PySem.wpAny_list_append_plain ⟨_,gi⟩ (fun h' hl hs=>?_) (by rw [List.size_toArray,ri.length];exact z)
 obtain ⟨n,hl⟩:=hl
 exact put_list ok st₀ R g hi (t:=s.toks) (fun b ob q e=>(hs.2 b q).trans e) (items:=items++[_]) (k:=n) (by rw [hl];simp) (ri.append (.cons ra .nil)) (by rw [List.length_append];exact h1) .none h2
theorem ext_ok (ok:FmOk F) {x:MV}{v:Value}{ρ₀:List Addr}{s₀:Shared}(st₀:Step F.W ρ₀ s₀ ρ s) (R:Rel C F ρ m s) (hx:Rep C ρ s.heap x v) {xs:List MV}{vs:List Value}(rl:RepL C ρ s.heap xs vs) (h:wpMth .extend x xs Q m) :
  wpAny (mod C) A (call (.builtin "list.extend") (v::vs)) (Out C F ρ₀ s₀ Q) E s:=by
 dsimp only [wpMth] at h
 obtain ⟨r,ys,hl,j1⟩:=onL_inv h
 obtain ⟨y,rfl,j2⟩:=on1_inv j1
 obtain ⟨r',zs,hl',h1,h2⟩:=onL_inv j2
 obtain ⟨a,items,k,rfl,rfl,g,hi,gi,ri,z⟩:=lst_rep R.hp hx hl
 obtain ⟨w1,rfl,ra⟩:=rl.one
 obtain ⟨a',items',k',rfl,rfl,g',hi',gi',ri',z'⟩:=lst_rep R.hp ra hl'
 have hlen:items.toArray.size+items'.toArray.size≤sizeLine:=by rw [List.size_toArray,List.size_toArray,ri.length,ri'.length];exact h1
 have hlong:¬(!items.toArray.isEmpty&&Builtin.List.listTooLong (items.toArray.size+items'.toArray.size))=true:=by
  have:Builtin.List.listTooLong (items.toArray.size+items'.toArray.size)=false:=by
   unfold Builtin.List.listTooLong
   simpa using hlen
  rw [this,Bool.and_false];decide
 refine call_meets PySem.F.slot_list_extend ⟨_,gi,rfl⟩ PySem.F.entry_list_extend (PySem.F.args_list_extend_2 _ _) (PySem.AutoSeq1.list_extend_list_list_0 a items.toArray k a' items'.toArray k' hlong (Nat.le_trans (Nat.le_add_right ..) hlen) (Nat.le_succ_of_le hlen)) ⟨gi,gi',?_⟩
 have hs:=Heap.SameBut.update s.heap a (Obj.mapSeq fun x=>x++items'.toArray)
 have hg:=Heap.get?_update_self (Obj.mapSeq fun x=>x++items'.toArray) gi rfl
 have e:items.toArray++items'.toArray=(items++items').toArray:=List.append_toArray ..
 obtain ⟨k₂,e₂⟩:=mapSeq_list (k:=k) (f:=fun x=>x++items'.toArray) e
 exact put_list ok st₀ R g hi (t:=s.toks) (fun b ob q e=>(hs.2 b q).trans e) (items:=items++items') (k:=k₂) (hg.trans (congrArg some e₂)) (ri.append ri') (by rw [List.length_append];exact h1) .none h2
theorem find_ok (ok:FmOk F) {x:List Nat}{t:Tok}{ρ₀:List Addr}{s₀:Shared}(st₀:Step F.W ρ₀ s₀ ρ s) (R:Rel C F ρ m s) {xs:List MV}{vs:List Value}(rl:RepL C ρ s.heap xs vs) (h:wpMth .find (.str x) xs Q m) :
  wpAny (mod C) A (call (.builtin "str.find") (.str (str x) t::vs)) (Out C F ρ₀ s₀ Q) E s:=by
 dsimp only [wpMth] at h
 obtain ⟨y,rfl,j1⟩:=on1_inv h
 obtain ⟨z,rfl,j2⟩:=onS_inv j1
 obtain ⟨_,rfl,ra⟩:=rl.one
 obtain ⟨u,rfl,zu⟩:=ra.inv
 refine PySem.SC.find ?_
 obtain ⟨R₂,st₂⟩:=R.tok ok (s.toks+1)
 refine ⟨_,_,_,st₀.trans st₂,R₂,.int _ _,j2 _ ?_⟩
 unfold Txt.find
 split<;>exact Int.natCast_nonneg _
theorem dct_rep (H:Hp C ρ m.heap s.heap) {x:MV}{v:Value}(hx:Rep C ρ s.heap x v) {r:Nat}{es:List (List Nat × MV)}(h:dct x m.heap=some (r,es)):DctR C ρ m.heap s.heap x v r es:=by
 obtain ⟨rfl,hi⟩:=dct_inv h
 obtain ⟨a,rfl,g⟩:=hx.inv
 obtain ⟨kvs,dk,rk,z⟩:=H.objs _ _ _ hi g
 exact ⟨a,kvs,rfl,rfl,g,hi,dk,rk,z⟩
theorem dct_some {x:MV}{hp:List MO}(h:(dct x hp).isSome=true):∃r xs,dct x hp=some (r,xs):=by
 obtain ⟨⟨r,xs⟩,h⟩:=Option.isSome_iff_exists.mp h
 exact ⟨r,xs,h⟩
theorem put_dict (ok:FmOk F) {ρ₀:List Addr}{s₀:Shared}(st₀:Step F.W ρ₀ s₀ ρ s) (R:Rel C F ρ m s) {r:Nat}{a:Addr}{xs ys:List (List Nat × MV)}{kvs:List (Str × Value)}(g:ρ[r]?=some a) (hi:m.heap[r]?=some (.dict xs)) {h':Heap}{t:Nat}
  (hk:∀b ob,b≠a→s.heap.get? b=some ob→h'.get? b=some ob) (e:h'.DictOf (strKind C.prog C.w) a kvs) (hr:RepK C ρ s.heap ys kvs) (hz:ys.length≤line) {z:MV}{w:Value}(hw:Rep C ρ s.heap z w) (hq:Q z (m.put r (.dict ys))) :
  Out C F ρ₀ s₀ Q w { s with heap:=h',toks:=t }:=by
 have hsol:Solids s.heap h':=solids_but hk (repO_not_solid (R.hp.objs _ _ _ hi g))
 obtain ⟨R₂,st₂⟩:=R.put (s':={ s with heap:=h',toks:=t }) ok g hi (o:=.dict ys) hk rfl rfl ⟨kvs,e,hr.up hsol (List.prefix_refl _),hz⟩
 exact ⟨_,_,z,st₀.trans st₂,R₂,hw.up hsol (List.prefix_refl _),hq⟩
theorem repK_del {es:List (List Nat × MV)}{kvs:List (Str × Value)}{h:Heap}(r:RepK C ρ h es kvs) (hn:(kvs.map (·.1)).Nodup) (k:List Nat):RepK C ρ h (ddel es k) (without kvs (str k)):=by
 induction r with
 | nil=>exact .nil
 | @cons k' x v es ds z a b ih=>
  obtain ⟨h1,h2⟩:=List.nodup_cons.mp hn
  show RepK C ρ h (match k'==k with | true=>es | false=>(k',x)::ddel es k) _
  cases q:k'==k with
  | true=>
   have e:k'=k:=eq_of_beq q
   subst e
   have e2:without ((str k',v)::ds) (str k')=ds:=by
    have:=without_of_not_mem ds (str k') h1
    unfold without at this ⊢
    rw [List.filter_cons_of_neg (by simp),this]
   rw [e2];exact b
  | false=>
   have e:str k'≠str k:=fun e=>absurd (beq_iff_eq.mpr (str_inj e)) (by rw [q];decide)
   have e2:without ((str k',v)::ds) (str k)=(str k',v)::without ds (str k):=by
    unfold without
    rw [List.filter_cons_of_pos (by simpa using e)]
   rw [e2];exact .cons z a (ih h2)
theorem ddel_le (es:List (List Nat × MV)) (k:List Nat):(ddel es k).length≤es.length:=by
 induction es with
 | nil=>exact Nat.le_refl _
 | cons p es ih=>
  show (match p.1==k with | true=>es | false=>(p.1,p.2)::ddel es k).length≤es.length+1
  cases p.1==k with
  | true=>exact Nat.le_succ _
  | false=>exact Nat.succ_le_succ ih
theorem dpop_ok (ok:FmOk F) {x:MV}{v:Value}{ρ₀:List Addr}{s₀:Shared}(st₀:Step F.W ρ₀ s₀ ρ s) (R:Rel C F ρ m s) (hx:Rep C ρ s.heap x v) {xs:List MV}{vs:List Value}(rl:RepL C ρ s.heap xs vs) (h:wpMth .dpop x xs Q m) :
  wpAny (mod C) A (call (.builtin "dict.pop") (v::vs)) (Out C F ρ₀ s₀ Q) E s:=by
 dsimp only [wpMth] at h
 obtain ⟨r,es,hl,j1⟩:=onD_inv h
 obtain ⟨y,rfl,j2⟩:=on1_inv j1
 obtain ⟨k,rfl,j3⟩:=onS_inv j2
 obtain ⟨z,hz,j4⟩:=onO_inv j3
 obtain ⟨a,kvs,rfl,rfl,g,hi,dk,rk,zl⟩:=dct_rep R.hp hx hl
 obtain ⟨_,rfl,ra⟩:=rl.one
 obtain ⟨t,rfl,zt⟩:=ra.inv
 have hg:=rk.get k
 rw [hz] at hg
 obtain ⟨w,e,rw'⟩:=hg
 have hn:(kvs.map (·.1)).Nodup:=by obtain ⟨_,_,_,_,_,_,_,_,hn⟩:=dk;exact hn
 refine call_meetsIn PySem.F.slot_dict_pop dk.typeIs PySem.F.entry_dict_pop (PySem.F.args_dict_pop_2 _ _) (meets_dict_pop_there (strKind C.prog C.w) a (strKind_is' C.prog C.w (str k) t) [] (.inl rfl) rfl) ⟨kvs,w,dk,by rw [rk.length];exact zl,e,fun h' hd hs=>?_⟩
 exact put_dict ok st₀ R g hi (fun b ob q e=>(hs.2 b q).trans e) hd (repK_del rk hn k) (Nat.le_trans (ddel_le es k) zl) rw' j4
theorem dclear_ok (ok:FmOk F) {x:MV}{v:Value}{ρ₀:List Addr}{s₀:Shared}(st₀:Step F.W ρ₀ s₀ ρ s) (R:Rel C F ρ m s) (hx:Rep C ρ s.heap x v) {xs:List MV}{vs:List Value}(rl:RepL C ρ s.heap xs vs) (h:wpMth .dclear x xs Q m) :
  wpAny (mod C) A (call (.builtin "dict.clear") (v::vs)) (Out C F ρ₀ s₀ Q) E s:=by
 dsimp only [wpMth] at h
 obtain ⟨r,es,hl,rfl,j1⟩:=onD_inv h
 obtain ⟨a,kvs,rfl,rfl,g,hi,dk,rk,zl⟩:=dct_rep R.hp hx hl
 obtain rfl:=rl.inv
 refine call_meetsIn PySem.F.slot_dict_clear dk.typeIs PySem.F.entry_dict_clear (PySem.F.args_dict_clear_1 _) (meets_dict_clear (strKind C.prog C.w) a) ⟨kvs,dk,by rw [rk.length];exact zl,fun h' hd hs=>?_⟩
 exact put_dict ok st₀ R g hi (t:=s.toks) (fun b ob q e=>(hs.2 b q).trans e) hd .nil (Nat.zero_le _) .none j1
theorem dget_ok (G:GOk C) (ok:FmOk F) {x:MV}{v:Value}{ρ₀:List Addr}{s₀:Shared}(st₀:Step F.W ρ₀ s₀ ρ s) (R:Rel C F ρ m s) (hx:Rep C ρ s.heap x v) {xs:List MV}{vs:List Value}(rl:RepL C ρ s.heap xs vs) (h:wpMth .get x xs Q m) :
  wpAny (mod C) A (call (.builtin "dict.get") (v::vs)) (Out C F ρ₀ s₀ Q) E s:=by
 dsimp only [wpMth] at h
 obtain ⟨r,es,hl,j1⟩:=onD_inv h
 obtain ⟨y,d,rfl,j2⟩:=on2_inv j1
 obtain ⟨k,rfl,j3⟩:=onS_inv j2
 obtain ⟨a,kvs,rfl,rfl,g,hi,dk,rk,zl⟩:=dct_rep R.hp hx hl
 obtain ⟨_,dv,rfl,ra,rd⟩:=rl.two
 obtain ⟨t,rfl,zt⟩:=ra.inv
 have hg:=rk.get k
 refine call_meetsIn PySem.F.slot_dict_get dk.typeIs PySem.F.entry_dict_get (PySem.F.args_dict_get_3 _ _ _) (meets_dict_get_default (strKind C.prog C.w) a (k:=str k) (strKind_is' C.prog C.w (str k) t) (not_sys G R.hp (List.mem_of_getElem? g)) dv) ⟨_,dk.mapOf,?_⟩
 obtain ⟨R₂,st₂⟩:=R.tok ok (s.toks+1)
 cases e:dget es k with
 | none=>
  rw [e] at hg j3
  rw [hg]
  exact ⟨_,_,_,st₀.trans st₂,R₂,rd,j3⟩
 | some z=>
  rw [e] at hg j3
  obtain ⟨w,e',rw'⟩:=hg
  rw [e']
  exact ⟨_,_,_,st₀.trans st₂,R₂,rw',j3⟩
noncomputable def isTr:Value→Bool
 | .bool b=>b
 | _=>false
theorem bools_count {h:Heap}{bs:List Bool}{items:List Value}(ri:RepL C ρ h (bs.map .bool) items):items.countP isTr=bs.count true:=by
 induction bs generalizing items with
 | nil=>rw [ri.inv];rfl
 | cons b bs ih=>
  obtain ⟨v,ws,rfl,rb,rr⟩:=ri.inv
  rw [rb.inv,List.countP_cons,List.count_cons,ih rr]
  cases b<;>rfl
theorem count_ok (ok:FmOk F) {x:MV}{v:Value}{ρ₀:List Addr}{s₀:Shared}(st₀:Step F.W ρ₀ s₀ ρ s) (R:Rel C F ρ m s) (hx:Rep C ρ s.heap x v) {xs:List MV}{vs:List Value}(rl:RepL C ρ s.heap xs vs) (h:wpMth .count x xs Q m) :
  wpAny (mod C) A (call (.builtin "list.count") (v::vs)) (Out C F ρ₀ s₀ Q) E s:=by
 dsimp only [wpMth] at h
 obtain ⟨r,ys,hl,j1⟩:=onL_inv h
 obtain ⟨y,rfl,j2,bs,rfl,hbl,j3⟩:=on1_inv j1
 clear hbl
 obtain ⟨a,items,k,rfl,rfl,g,hi,gi,ri,z⟩:=lst_rep R.hp hx hl
 obtain ⟨w1,rfl,ra⟩:=rl.one
 have hy:y=.bool true:=by
  cases y with
  | bool b=>cases b with
   | true=>rfl
   | false=>exact j2.elim
  | _=>exact j2.elim
 subst hy
 obtain rfl:=ra.inv
 have hc:=bools_count ri
 refine call_meets PySem.F.slot_list_count ⟨_,gi,rfl⟩ PySem.F.entry_list_count (PySem.F.args_list_count_2 _ _) (SeqAt.list_countAt a items.toArray k none #[] (.bool true) isTr) ⟨gi,fun w hw=>?_,?_⟩
 ·obtain ⟨j,hj,e⟩:=List.getElem_of_mem (show w∈items by simpa using hw)
  obtain ⟨b,_,rfl⟩:=bools_get ri (j:=j) (v:=w) (by rw [List.getElem?_eq_getElem hj,e])
  have:=SeqAt.EqAt.bool_bool (A:=A.in1) (s:=s) b true
  cases b<;>exact this
 ·rw [show items.toArray.toList=items from rfl,hc]
  exact Out.back st₀ _ _ (outTok R ok (.int _ _) j3)
theorem mth_call (G:GOk C) (ok:FmOk F) {k:Me}{x:MV}{v:Value}{ρ₀:List Addr}{s₀:Shared}(st₀:Step F.W ρ₀ s₀ ρ s) (R:Rel C F ρ m s) (hx:Rep C ρ s.heap x v) {xs:List MV}{vs:List Value}(rl:RepL C ρ s.heap xs vs) (h:wpMth k x xs Q m) (hk:(meIs k).isSome=true)
  (hs:meK k=.str→∃y,x=.str y) :
  wpAny (mod C) A (call (.builtin (meId k)) (v::vs)) (Out C F ρ₀ s₀ Q) E s:=by
 refine Classical.byContradiction fun hn=>?_
 cases k with
 | append=>exact hn (app_ok ok st₀ R hx rl h)
 | extend=>exact hn (ext_ok ok st₀ R hx rl h)
 | pop=>exact hn (pop_ok ok st₀ R hx rl h)
 | dpop=>exact hn (dpop_ok ok st₀ R hx rl h)
 | dclear=>exact hn (dclear_ok ok st₀ R hx rl h)
 | count=>exact hn (count_ok ok st₀ R hx rl h)
 | get=>exact hn (dget_ok G ok st₀ R hx rl h)
 | find=>
  obtain ⟨y,rfl⟩:=hs rfl
  obtain ⟨t,rfl,_⟩:=hx.inv
  exact hn (find_ok ok st₀ R rl h)
 | split=>
  obtain ⟨y,rfl⟩:=hs rfl
  obtain ⟨t,rfl,_⟩:=hx.inv
  exact hn (split_ok ok st₀ R rl h)
 | join=>
  obtain ⟨y,rfl⟩:=hs rfl
  obtain ⟨t,rfl,_⟩:=hx.inv
  exact hn (join_ok ok st₀ R rl h)
 | _=>exact ff hk
theorem meTy_is (k:Me):meTy k=match meK k with
  | .list=>"list"
  | .dict=>"dict"
  | .str=>"str":=by cases k<;>rfl
theorem mth_ok (G:GOk C) (ok:FmOk F) {k:Me}{x:MV}{v:Value}{name:Str}(hn:meIs k=some name) {ρ₀:List Addr}{s₀:Shared}(st₀:Step F.W ρ₀ s₀ ρ s) (R:Rel C F ρ m s) (hx:Rep C ρ s.heap x v) (hm:mthOk k x m.heap=true) {trees:List (Bool × Sem Value)}{pos:Pos}
  (hp:trees.any (·.1)=false)
  (h:wpAny (mod C) F.A (spliced trees) (fun vs s₁=>∃ρ₁ m₁ xs,Step F.W ρ s ρ₁ s₁∧Rel C F ρ₁ m₁ s₁∧RepL C ρ₁ s₁.heap xs vs∧wpMth k x xs Q m₁) E s) :
  MethodOn C.prog C.w F.A name pos v trees (Out C F ρ₀ s₀ Q) E s:=by
 have hk:(meIs k).isSome=true:=by rw [hn];rfl
 have hf:=me_f k
 unfold MeP at hf
 rw [hn] at hf
 obtain ⟨pa,sl,ty⟩:=hf
 have go:(meK k=.str→∃y,x=.str y)→wpAny (mod C) F.A (callWith pos (.builtin (meId k)) [v] trees []) (Out C F ρ₀ s₀ Q) E s:=fun hs=>args_any hp (wpAny_mono h (fun vs s₁ hr=>by obtain ⟨ρ₁,m₁,xs,st,R₁,rl,hw⟩:=hr;exact mth_call G ok (st₀.trans st) R₁ (hx.step st) rl hw hk hs) fun _ _ e=>e)
 have key:s.TypeIs v (meTy k)∧(∀a,v=.ref a→∃o,s.heap.get? a=some o∧o.dict=none)∧(meK k=.str→∃y,x=.str y):=by
  have ht:=meTy_is k
  unfold mthOk at hm
  cases q:meK k with
  | list=>
   rw [q] at hm ht
   obtain ⟨r,ys,e⟩:=lst_some hm
   obtain ⟨a,items,k,rfl,_,_,_,gi,_⟩:=lst_rep R.hp hx e
   exact ⟨by rw [ht];exact ⟨_,gi,rfl⟩,fun b e=>(by cases e;exact ⟨_,gi,rfl⟩),fun q=>nomatch q⟩
  | dict=>
   rw [q] at hm ht
   obtain ⟨r,ys,e⟩:=dct_some hm
   obtain ⟨a,kvs,rfl,_,_,_,dk,_⟩:=dct_rep R.hp hx e
   exact ⟨by rw [ht];exact dk.typeIs,dk.mapOf.noDict,fun q=>nomatch q⟩
  | str=>
   rw [q] at hm ht
   obtain ⟨y,rfl⟩:=isStrV_inv hm
   obtain ⟨t,rfl,_⟩:=hx.inv
   exact ⟨by rw [ht];exact typeIs_str _ _ _,fun a e=>(nomatch e),fun _=>⟨y,rfl⟩⟩
 exact ⟨meTy k,meId k,pa,sl,ty,key.1,key.2.1,go key.2.2⟩
end
end Internal
end
section
namespace Internal
open PySem PyProof.Rows
noncomputable def chkC (v:MV) (k:Const):Bool:=match v with
 | .none=>match k with
  | .none=>true
  | _=>false
 | .bool b=>match k with
  | .bool c=>b==c
  | _=>false
 | .int i=>match k with
  | .int j=>i==j
  | _=>false
 | .str s=>match k with
  | .str x=>x.cps.toList==s&&decide (s.length≤1000)
  | _=>false
 | _=>false
theorem and_t {a b:Bool}(h:(a&&b)=true):a=true∧b=true:=by rwa [Bool.and_eq_true] at h
theorem or_t {a b:Bool}(h:(!a||b)=true):¬ a=true∨b=true:=by
 cases a with
 | true=>exact .inr h
 | false=>exact .inl (by decide)
theorem not_t {a:Bool}(h:(!a)=true):a=false:=by cases a with
 | true=>exact ff h
 | false=>rfl
noncomputable def glName (c:Cx) (x:Str):Bool:=c.kind x==some .globalImplicit&&!dbg x
noncomputable def tyName (c:Cx) (t:TS) (e:Expr):Bool:=onSome (xName e) fun x=>onSome (tsIs t) fun T=>x==Str.ofString T&&c.kind x==some .globalImplicit&&!dbg x
noncomputable def setOk (c:Cx) (x:Str):Bool:=c.kind x==some .local||(c.wr&&!(c.kind x==some .free))
theorem setOk_is {c:Cx}{x:Str}(h:setOk c x=true):c.kind x=some .local∨(c.wr=true∧c.kind x≠some .free):=by
 simpa [setOk] using h
noncomputable def chkNames (c:Cx):List Nat→List Expr→Bool
 | [],xs=>xs.isEmpty
 | i::t,xs=>match xs with
  | []=>false
  | e::r=>onSome (xName e) (fun x=>c.nm i==some x&&setOk c x)&&chkNames c t r
noncomputable def chkT (c:Cx) (t:List Nat) (many:Bool) (e:Expr):Bool:=match many with
 | false=>onSome (xName e) fun x=>onSome (one t) fun i=>c.nm i==some x&&setOk c x
 | true=>onSome (xTup e) (chkNames c t)
noncomputable def tgNames (e:Expr):List Str:=match xTup e with
 | some elts=>elts.filterMap xName
 | none=>(xName e).toList
noncomputable def relab (kind:Str→Option NameKind) (names:List (Str × NameKind)):List (Str × NameKind):=names.map fun (n,k)=>if (k==.free&&kind n==some .cell) then (n,.cell) else (n,k)
noncomputable def subNm (c:Cx) (sc:Scope) (i:Nat):Option Str:=match c.nm i with
 | some x=>if sc.names.lookup x==some .free then some x else none
 | none=>none
noncomputable def subCx (c:Cx) (sc:Scope) (t:List Nat) (tn:List Str):Cx where
 kind x:=(relab c.kind sc.names).lookup x
 nm i:=match (t.zip tn).lookup i with
  | some x=>some x
  | none=>subNm c sc i
 fn:=c.fn
 gl:=c.gl
 wr:=false
 fr i:=c.fr i&&!t.contains i
 nh:=c.nh
 hf:=c.hf
 cn:=c.cn
 xn:=c.xn
 mt:=c.mt
 at_:=c.at_
noncomputable def freeOk (c:Cx) (x:Str):Bool:=(List.range 64).any (fun i=>c.nm i==some x)&&c.kind x != some .local&&!cdc x
noncomputable def compOk (c:Cx) (sc:Scope) (t:List Nat) (tn:List Str):Bool:=
 sc.kind==.function&&sc.names.all (fun p=>p.2 != .cell&&(p.2 != .local||sc.names.lookup p.1==some .local)&&(p.2 != .free||freeOk c p.1))&&
  decide (t.length=tn.length)&&decide t.Nodup&&decide tn.Nodup&&t.all c.fr&&tn.all (fun x=>sc.names.lookup x==some .local)
noncomputable def itName:IK→Str
 | .enum=>"enumerate"
 | _=>"range"
noncomputable def isVal:IK→Bool
 | .val=>true
 | _=>false
noncomputable def itArgs (c:Cx) (k:IK) (e:Expr):Option (List Expr):=if isVal k then some [e] else (xFn e).bind fun q=>if glName c q.1&&q.1==itName k&&!q.2.1.isEmpty then some q.2.1 else none
noncomputable def ssIs:Bi→Str→Str→Bool
 | .sortedSet,x,y=>useSS&&x==("sorted":Str)&&y==("set":Str)
 | .listRev,x,y=>useRev&&x==("list":Str)&&y==("reversed":Str)
 | _,_,_=>false
noncomputable def xSS (c:Cx) (b:Bi) (e:Expr):Option Expr:=(xFn e).bind fun q=>(one q.2.1).bind fun y=>(xFn y).bind fun r=>if ssIs b q.1 r.1&&glName c q.1&&glName c r.1 then one r.2.1 else none
noncomputable def isSS:Bi→Bool
 | .sortedSet=>true
 | .listRev=>true
 | _=>false
noncomputable def isEnum:IK→Bool
 | .enum=>true
 | _=>false
noncomputable abbrev GV:=Nat × Int × List (List Nat) × List (List Nat × Int)
noncomputable def mvC (v:MV):Option GV:=match v with
 | .int i=>some (0,i,[],[])
 | .str s=>some (1,0,[s],[])
 | .gt ss=>some (2,0,ss,[])
 | .cdict es=>some (3,0,[],es)
 | _=>none
noncomputable def mvB (q:GV):MV:=match q.1 with
 | 0=>.int q.2.1
 | 1=>.str (q.2.2.1.headD [])
 | 2=>.gt q.2.2.1
 | _=>.cdict q.2.2.2
theorem mvC_back {v:MV}{q:GV}(h:mvC v=some q):v=mvB q:=by
 cases v with
 | int i=>obtain rfl:=Option.some.inj h;rfl
 | str s=>obtain rfl:=Option.some.inj h;rfl
 | gt ss=>obtain rfl:=Option.some.inj h;rfl
 | cdict es=>obtain rfl:=Option.some.inj h;rfl
 | _=>exact nos1 h
noncomputable def chkG (c:Cx) (g:Nat) (v:MV) (x:Str):Bool:=onSome (c.gl g) fun q=>q.1==x&&onSome (mvC q.2) fun a=>mvC v==some a
noncomputable def attrNames:List Str:=["opens","secrets","rows","numbers","turns","said"]
noncomputable def methNames:List Str:=["names","kind","told","block","many","do_rows","do_row","do_loop"]
noncomputable def chkTy (c:Cx) (t:TS) (e:Expr):Bool:=match t with
 | .cls k=>onSome (xName e) fun x=>glName c x&&c.xn k==some x
 | .valueError=>onSome (xName e) fun x=>glName c x&&x==("ValueError":Str)
 | t=>tyName c t e
noncomputable def isExcT:TS→Bool
 | .cls _=>true
 | .valueError=>true
 | _=>false
noncomputable def chkTs (c:Cx) (ts:List TS) (e:Expr):Bool:=match ts with
 | [t]=>chkTy c t e
 | [t,u]=>onSome (xTup e) fun us=>onSome (two us) fun w=>tyName c t w.1&&tyName c u w.2
 | _=>false
mutual
noncomputable def chkE:Cx→ME→Expr→Bool
 | c,.cst v,e=>onSome (xConst e) (chkC v)
 | c,.var i,e=>onSome (xName e) fun x=>c.nm i==some x&&!dbg x
 | c,.glob g v,e=>onSome (xName e) fun x=>glName c x&&chkG c g v x
 | c,.bin op a b,e=>onSome (xBin e) fun p=>p.2.1==opIs op&&chkE c a p.1&&chkE c b p.2.2
 | c,.neg a,e=>onSome (xUn e) fun p=>p.1==.USub&&chkE c a p.2
 | c,.not a,e=>onSome (xUn e) fun p=>p.1==.Not&&chkE c a p.2
 | c,.and es,e=>onSome (xBool e) fun p=>p.1==.And&&chkEs c es p.2
 | c,.or es,e=>onSome (xBool e) fun p=>p.1==.Or&&chkEs c es p.2
 | c,.cmp op a b,e=>onSome (xCmp e) fun p=>onSome (one p.2.1) fun o=>onSome (one p.2.2) fun r=>o==cmpIs op&&okX r&&chkE c a p.1&&chkE c b r
 | c,.cmp2 op op' a b d,e=>onSome (xCmp e) fun p=>onSome (two p.2.1) fun o=>onSome (two p.2.2) fun r=>o.1==cmpIs op&&o.2==cmpIs op'&&okX r.1&&okX r.2&&chkE c a p.1&&chkE c b r.1&&chkE c d r.2
 | c,.isN q a,e=>onSome (xCmp e) fun p=>onSome (one p.2.1) fun o=>onSome (one p.2.2) fun r=>o==(if q then .Is else .IsNot)&&xConst r==some .none&&chkE c a p.1
 | c,.call f args,e=>onSome (xFn e) fun q=>glName c q.1&&c.fn f==some q.1&&!q.2.1.isEmpty&&(c.nh||c.hf f)&&chkEs c args q.2.1
 | c,.blt b args,e=>if isSS b then onSome (xSS c b e) fun z=>c.nh&&chkEs c args [z] else onSome (xFn e) fun q=>(c.nh||quietBi b)&&glName c q.1&&onSome (biIs b) (fun p=>q.1==p.1)&&!q.2.1.isEmpty&&chkEs c args q.2.1
 | c,.mth k o args,e=>onSome (xMeth e) fun q=>meIs k==some q.1.2.1&&notCall0 q.1.1&&(q.1.2.2.endLine==q.2.2.line)&&decide (q.2.1.length<20)&&chkE c o q.1.1&&chkEs c args q.2.1
 | c,.umth k f x o args,e=>onSome (xMeth e) fun q=>q.1.2.1.cps.toList==x&&methNames.contains q.1.2.1&&c.mt f==some (k,q.1.2.1)&&(view q.1.1).tag==1&&(q.1.2.2.endLine==q.2.2.line)&&decide (q.2.1.length<20)&&(c.nh||c.hf f)&&chkE c o q.1.1&&chkEs c args q.2.1
 | c,.new k f args,e=>onSome (xFn e) fun q=>glName c q.1&&c.cn k==some q.1&&c.mt f==some (k,("__init__":Str))&&!q.2.1.isEmpty&&c.nh&&chkEs c args q.2.1
 | c,.attr k o x,e=>onSome (xAttr e) fun q=>q.2.1.cps.toList==x&&attrNames.contains q.2.1&&c.at_ k q.2.1&&(view q.1).tag==1&&chkE c o q.1
 | c,.idx o i,e=>onSome (xSub e) fun p=>okX p.2&&chkE c o p.1&&chkE c i p.2
 | c,.sl o lo hi,e=>onSome (xSub e) fun p=>onSome (xSlice p.2) fun q=>q.2.2.isNone&&chkE c o p.1&&chkO c lo q.1&&chkO c hi q.2.1
 | c,.list es,e=>onSome (xList e) fun xs=>decide (es.length≤1000)&&chkEs c es xs
 | c,.tup es,e=>onSome (xTup e) fun xs=>decide (es.length≤1000)&&chkEs c es xs
 | c,.dict0,e=>onSome (xDict e) fun p=>p.1.isEmpty&&p.2.isEmpty
 | c,.comp elt t many k src ifs,e=>onSome (xLC e) fun p=>onSome (one p.2.1) fun g=>c.nh&&g.is_async==0&&okX g.iter&&(!isEnum k||many)&&compOk c p.2.2 t (tgNames g.target)&&onSome (itArgs c k g.iter) (fun xs=>chkEs c src xs)&&
   chkT (subCx c p.2.2 t (tgNames g.target)) t many g.target&&chkEs (subCx c p.2.2 t (tgNames g.target)) ifs g.ifs&&chkE (subCx c p.2.2 t (tgNames g.target)) elt p.1
 | c,.isi a ts,e=>onSome (xFn e) fun q=>onSome (two q.2.1) fun v=>glName c q.1&&q.1==("isinstance":Str)&&okX v.1&&chkE c a v.1&&chkTs c ts v.2
noncomputable def chkEs:Cx→List ME→List Expr→Bool
 | c,[],xs=>xs.isEmpty
 | c,e::es,xs=>match xs with
  | []=>false
  | x::xs=>okX x&&chkE c e x&&chkEs c es xs
noncomputable def chkO:Cx→Option ME→Option Expr→Bool
 | c,none,x=>x.isNone
 | c,some e,x=>match x with
  | some x=>chkE c e x
  | none=>false
end
noncomputable def Call (C:Glo):KT:=fun n f vs Q X h=>∀(F:Fm) (m:MS) (s:Shared) (ρ:List Addr) (ws:List Value) (a:Addr),FmOk F→(F.A.handled=none∨C.hf f=true)→m.heap=h→Rel C F ρ m s→RepL C ρ s.heap vs ws→
 F.A.depth+n≤999→F.A.units≤3 * F.A.depth+4→C.fa f=some a→
  wpAny (mod C) F.A (call (.ref a) ws) (Out C F ρ s (fun v m'=>m'.vars=m.vars∧Q v m'.heap)) (Er C F (fun c m'=>m'.vars=m.vars∧X c m'.heap) ρ s) s
section
variable {C:Glo}{F:Fm}{X:XM}{ρ ρ₀:List Addr}{m:MS}{s s₀:Shared}{Q:PQ}{E:Value→Shared→Prop}{A:Around}{c:Cx}{n:Nat}
theorem WPv.go {t:Sem Value}{P:Value→Shared→Prop}(h:WPv C F X t Q m) (R:Rel C F ρ m s) (st₀:Step F.W ρ₀ s₀ ρ s)
  (k:∀ρ₁ s₁ m₁ x v,Step F.W ρ s ρ₁ s₁→Step F.W ρ₀ s₀ ρ₁ s₁→Rel C F ρ₁ m₁ s₁→Rep C ρ₁ s₁.heap x v→Q x m₁→P v s₁):wpAny (mod C) F.A t P (Er C F X ρ₀ s₀) s:=
 wpAny_mono (h s ρ R) (fun v s₁ ⟨ρ₁,m₁,x,a,b,c,d⟩=>k ρ₁ s₁ m₁ x v a (st₀.trans a) b c d) (Er.back st₀)
inductive OutL (C:Glo) (F:Fm) (k:Nat) (ρ:List Addr) (s:Shared) (Q:List MV→MS→Prop) (vs:List Value) (s':Shared):Prop
 | mk (ρ':List Addr) (m':MS) (xs:List MV) (st:Step F.W ρ s ρ' s') (R:Rel C F ρ' m' s') (rl:RepL C ρ' s'.heap xs vs) (hl:xs.length=k) (hq:Q xs m'):OutL C F k ρ s Q vs s'
noncomputable def WPl (C:Glo) (F:Fm) (X:XM) (k:Nat) (t:Sem (List Value)) (Q:List MV→MS→Prop) (m:MS):Prop:=
 ∀s ρ,Rel C F ρ m s→wpAny (mod C) F.A t (OutL C F k ρ s Q) (Er C F X ρ s) s
theorem WPl.go {t:Sem (List Value)}{P:List Value→Shared→Prop}{Q:List MV→MS→Prop}{l:Nat}(h:WPl C F X l t Q m) (R:Rel C F ρ m s) (st₀:Step F.W ρ₀ s₀ ρ s)
  (k:∀ρ₁ s₁ m₁ xs vs,Step F.W ρ s ρ₁ s₁→Step F.W ρ₀ s₀ ρ₁ s₁→Rel C F ρ₁ m₁ s₁→RepL C ρ₁ s₁.heap xs vs→xs.length=l→Q xs m₁→P vs s₁):wpAny (mod C) F.A t P (Er C F X ρ₀ s₀) s:=
 wpAny_mono (h s ρ R) (fun v s₁ ⟨ρ₁,m₁,x,a,b,c,e,d⟩=>k ρ₁ s₁ m₁ x v a (st₀.trans a) b c e d) (Er.back st₀)
inductive OutT (C:Glo) (F:Fm) (ρ:List Addr) (s:Shared) (Q:Bool→MS→Prop) (b:Bool) (s':Shared):Prop
 | mk (ρ':List Addr) (m':MS) (st:Step F.W ρ s ρ' s') (R:Rel C F ρ' m' s') (hq:Q b m'):OutT C F ρ s Q b s'
noncomputable def WPt (C:Glo) (F:Fm) (X:XM) (t:Sem Bool) (Q:Bool→MS→Prop) (m:MS):Prop:=
 ∀s ρ,Rel C F ρ m s→wpAny (mod C) F.A t (OutT C F ρ s Q) (Er C F X ρ s) s
theorem WPt.go {t:Sem Bool}{P:Bool→Shared→Prop}{Q:Bool→MS→Prop}(h:WPt C F X t Q m) (R:Rel C F ρ m s) (st₀:Step F.W ρ₀ s₀ ρ s)
  (k:∀ρ₁ s₁ m₁ b,Step F.W ρ s ρ₁ s₁→Step F.W ρ₀ s₀ ρ₁ s₁→Rel C F ρ₁ m₁ s₁→Q b m₁→P b s₁):wpAny (mod C) F.A t P (Er C F X ρ₀ s₀) s:=
 wpAny_mono (h s ρ R) (fun v s₁ ⟨ρ₁,m₁,a,b,d⟩=>k ρ₁ s₁ m₁ v a (st₀.trans a) b d) (Er.back st₀)
theorem outOfB (R:Rel C F ρ m s) (ok:FmOk F) {P:Bool→MS→Prop}{v:Value}{s':Shared}(h:OutB s (fun b=>P b m) v s'):∃b,v=.bool b∧∃m',Step F.W ρ s ρ s'∧Rel C F ρ m' s'∧P b m':=by
 obtain ⟨b,t,rfl,rfl,h⟩:=h
 obtain ⟨R',st⟩:=R.tok ok t
 exact ⟨b,rfl,m,st,R',h⟩
theorem const_ok (R:Rel C F ρ m s) (ok:FmOk F) {v:MV}{k:Const}(hc:chkC v k=true) (hq:Q v m) {env:Env}{kd:Nat}{p:Pos}:wpAny (mod C) A (eval (.Constant k kd p) env) (Out C F ρ s Q) E s:=by
 refine Classical.byContradiction fun hn=>?_
 cases v with
 | none=>
  cases k with
  | none=>exact hn (wpAny_Constant_none (outSame R .none hq))
  | _=>exact ff hc
 | bool b=>
  cases k with
  | bool c=>obtain rfl:=eq_of_beq hc;exact hn (wpAny_Constant_bool (outSame R (.bool _) hq))
  | _=>exact ff hc
 | int i=>
  cases k with
  | int j=>obtain rfl:=eq_of_beq hc;exact hn (wpAny_Constant_int (outTok R ok (.int _ _) hq))
  | _=>exact ff hc
 | str s'=>
  cases k with
  | str x=>
   obtain ⟨e,hl⟩:=and_t hc
   obtain rfl:x=str s':=by rw [←eq_of_beq e]
   exact hn (wpAny_Constant_str (outTok R ok (.str _ _ (Nat.le_trans (of_decide_eq_true hl) (by decide))) hq))
  | _=>exact ff hc
 | _=>exact ff hc
theorem at_mem {p:Str × Value}(i:Nat) (h:bltNames[i]?=some p):p∈bltNames:=List.mem_of_getElem? h
theorem bi_mem {b:Bi}{x:Str}{f:Value}(h:biIs b=some (x,f)):(x,f)∈bltNames:=by
 cases b<;>cases h<;>first | exact at_mem 0 rfl | exact at_mem 1 rfl | exact at_mem 2 rfl | exact at_mem 3 rfl | exact at_mem 4 rfl | exact at_mem 5 rfl | exact at_mem 12 rfl | exact at_mem 13 rfl | exact at_mem 14 rfl | exact at_mem 16 rfl | exact at_mem 10 rfl
theorem ts_mem {t:TS}{T:String}(h:tsIs t=some T):(Str.ofString T,Value.type T)∈bltNames:=by
 cases t<;>(first | exact nos1 h | obtain rfl:=Option.some.inj h)<;>first | exact at_mem 1 rfl | exact at_mem 2 rfl | exact at_mem 3 rfl | exact at_mem 4 rfl | exact at_mem 5 rfl | exact at_mem 6 rfl
theorem glName_ok {x:Str}(h:glName c x=true):c.kind x=some .globalImplicit∧dbg x=false:=by
 obtain ⟨h1,h2⟩:=and_t h
 exact ⟨eq_of_beq h1,by cases e:dbg x with
  | true=>rw [e] at h2;exact ff h2
  | false=>rfl⟩
theorem bi_fun {b:Bi}{x:Str}{f:Value}(h:biIs b=some (x,f)):(∃id,f=.builtin id)∨∃T,f=.type T:=by
 cases b<;>cases h<;>first | exact .inl ⟨_,rfl⟩ | exact .inr ⟨_,rfl⟩
theorem trees_plain {es:List ME}{xs:List Expr}(h:chkEs c es xs=true) (pos:Pos) (env:Env):(backTo pos (starEach xs env)).any (·.1)=false:=by
 induction es generalizing xs with
 | nil=>cases xs with
  | nil=>rfl
  | cons=>exact ff h
 | cons e es ih=>
  cases xs with
  | nil=>exact ff h
  | cons x xs=>
   obtain ⟨h1,h2⟩:=Bool.and_eq_true_iff.mp h
   rw [okX_star (Bool.and_eq_true_iff.mp h1).1]
   show (false||(backTo pos (starEach xs env)).any (·.1))=false
   rw [ih h2];rfl
theorem call_args {f:Value}{trees:List (Bool × Sem Value)}{pos:Pos}{s:Shared}{A:Around}{E:Value→Shared→Prop}{P:Value→Shared→Prop}(hf:(∃id,f=.builtin id)∨∃T,f=.type T) (hp:trees.any (·.1)=false) (hne:trees≠[])
  (h:wpAny (mod C) A (spliced trees) (fun vs s₁=>wpAny (mod C) A (call f vs) P E s₁) E s):wpAny (mod C) A (callWith pos f [] trees []) P E s:=by
 obtain ⟨⟨b,t⟩,trees,rfl⟩:=List.exists_cons_of_ne_nil hne
 simp only [List.any_cons,Bool.or_eq_false_iff] at hp
 obtain ⟨rfl,hp⟩:=hp
 rcases hf with ⟨id,rfl⟩ | ⟨T,rfl⟩
 ·exact Calls.callWith_builtin (by simp [hp]) (Calls.evalArgs_plain h)
 ·exact PyProof.Rows.callWith_type (by simp [hp]) (Calls.evalArgs_plain h)
theorem cameBool {v:Value}{s:Shared}{A:Around}{E:Value→Shared→Prop}{P:Bool→Shared→Prop}(h:∃b,v=.bool b∧P b s):wpAny (mod C) A (truthy v) P E s:=by
 obtain ⟨b,rfl,h⟩:=h;exact wpAny_truthy_bool h
end
end Internal
end
section
namespace Internal
open PySem PyProof.Rows
noncomputable def Shp (h:Heap) (a:Addr):Prop:=∃o,h.get? a=some o∧¬ Solid o∧¬ IsD o
noncomputable def Aside (C:Glo) (F:Fm) (ρ:List Addr) (h:Heap) (S:List Addr):Prop:=
 ∀a∈S,a∉ρ∧a∉F.W++F.V∧C.base.get? a=none∧Shp h a
noncomputable def Side (S:List Addr) (s s':Shared):Prop:=(∀b o,b∉S→s.heap.get? b=some o→s'.heap.get? b=some o)∧s'.gens=s.gens∧s'.os=s.os
section
variable {C:Glo}{F:Fm}{X:XM}{c:Cx}{n:Nat}{ρ ρ' ρ₀:List Addr}{m:MS}{s s' s₀:Shared}{S:List Addr}{A:Around}
theorem Side.trans {s'':Shared}(x:Side S s s') (y:Side S s' s''):Side S s s'':=
 ⟨fun b o hb e=>y.1 b o hb (x.1 b o hb e),y.2.1.trans x.2.1,y.2.2.trans x.2.2⟩
theorem Step.side {W:List Addr}(x:Step W ρ₀ s₀ ρ s) (y:Side S s s') (hS:∀a∈S,s₀.heap.get? a=none):Step W ρ₀ s₀ ρ s' where
 pre:=x.pre
 new:=x.new
 keep:=fun a o e h1 h2=>by
  have ha:a∉S:=fun h=>by rw [hS a h] at e;exact nos1 e
  rcases x.keep a o e h1 h2 with e1 | ⟨hc,sl,e1⟩
  ·exact .inl (y.1 a _ ha e1)
  ·exact .inr ⟨hc,sl,y.1 a _ ha e1⟩
 solid:=fun a o e h=>y.1 a o (fun q=>by rw [hS a q] at e;exact nos1 e) (x.solid a o e h)
 alive:=fun a o e=>let ⟨o',e'⟩:=x.alive a o e;⟨o',y.1 a o' (fun q=>by rw [hS a q] at e;exact nos1 e) e'⟩
 gens:=y.2.1.trans x.gens
 os:=y.2.2.trans x.os
theorem shp_solids (x:∀a∈S,Shp s.heap a) (y:Side S s s'):Solids s.heap s'.heap:=fun a o e h=>y.1 a o (fun q=>by
 obtain ⟨o',e',h',_⟩:=x a q
 obtain rfl:=same e e';exact h' h) e
theorem Aside.solids (x:Aside C F ρ s.heap S) (y:Side S s s'):Solids s.heap s'.heap:=shp_solids (fun a ha=>(x a ha).2.2.2) y
theorem Rel.side0 (R:Rel C F ρ m s) (ok:FmOk F) (hs:Solids s.heap s'.heap) (x:∀a∈S,a∉ρ∧a∉F.W++F.V∧C.base.get? a=none) (hout:∀L∈F.frs,L∉S) (y:Side S s s'):Rel C F ρ m s':=
 R.up ok hs (List.prefix_refl _) (R.hp.up hs (fun a ha o e=>y.1 a o (fun q=>(x a q).1 ha) e) fun b o e=>y.1 b o (fun q=>by rw [(x b q).2.2] at e;exact nos1 e) (R.hp.base b o e)) (fun a h=>.inl h)
  (fun a ha o e=>⟨o,y.1 a o (fun q=>(x a q).2.1 ha) e,rfl,rfl⟩) (fun L hL o eo=>⟨o,y.1 L o (hout L hL) eo,rfl,rfl⟩) y.2.1
theorem out_aside (R:Rel C F ρ m s) (x:∀a∈S,Shp s.heap a):∀L∈F.frs,L∉S:=fun L hL q=>by
 obtain ⟨_,_,o,h1,h2⟩:=R.out L hL
 obtain ⟨o2,g1,_,g2⟩:=x L q
 obtain rfl:=same h1 g1
 exact g2 h2
theorem Rel.side (R:Rel C F ρ m s) (ok:FmOk F) (x:Aside C F ρ s.heap S) (y:Side S s s'):Rel C F ρ m s':=
 R.side0 ok (x.solids y) (fun a ha=>⟨(x a ha).1,(x a ha).2.1,(x a ha).2.2.1⟩) (out_aside R fun a ha=>(x a ha).2.2.2) y
theorem Aside.step (x:Aside C F ρ s.heap S) (st:Step F.W ρ s ρ' s'):Aside C F ρ' s'.heap S∧∀a∈S,∀o,s.heap.get? a=some o→s'.heap.get? a=some o:=by
 have keep:∀a∈S,∀o,s.heap.get? a=some o→s'.heap.get? a=some o:=fun a ha o e=>by
  obtain ⟨h1,h2,h3,o',e',h4,h6⟩:=x a ha
  obtain rfl:=same e e'
  rcases st.keep a o e h1 (fun q=>h2 (List.mem_append_left _ q)) with q | ⟨q,_⟩
  ·exact q
  ·exact absurd q h6
 refine ⟨fun a ha=>?_,keep⟩
 obtain ⟨h1,h2,h3,o',e',h4,h6⟩:=x a ha
 refine ⟨fun q=>(st.new a q).elim h1 fun q=>?_,h2,h3,o',keep a ha _ e',h4,h6⟩
 exact nosome q e'
theorem Aside.shape {h h':Heap}(x:Aside C F ρ h S) (y:∀a∈S,Shp h' a):Aside C F ρ h' S:=fun a ha=>⟨(x a ha).1,(x a ha).2.1,(x a ha).2.2.1,y a ha⟩
structure Walk (C:Glo) (A:Around) (target:Expr) (itv:Value) (items:List MV) (g:Option (Nat × List MV)) (S:List Addr) (It:Nat→List Addr→Shared→Prop):Prop where
 shape:∀i ρ s,It i ρ s→∀a∈S,Shp s.heap a
 keep:∀i ρ ρ' s s',It i ρ s→ρ<+:ρ'→Solids s.heap s'.heap→(∀a∈S,∀o,s.heap.get? a=some o→s'.heap.get? a=some o)→It i ρ' s'
 item:∀i ρ hp s x,Hp C ρ hp s.heap→guardOk g hp→It i ρ s→items[i]?=some x→∀(E:Value→Shared→Prop) (N:Shared→Prop) (P:Value→Shared→Prop),
  (∀v s₂,Side S s s₂→It (i+1) ρ s₂→Rep C ρ s₂.heap x v→P v s₂)→
   wpAny (mod C) A (pyNext itv) (fun r s₁=>match r with
    | none=>N s₁
    | some v=>wpAny (mod C) A (letOwnedTupleGo target itv v) (fun _ s₂=>P v s₂) E s₁) E s
 done:∀i ρ hp s,Hp C ρ hp s.heap→guardOk g hp→It i ρ s→items[i]?=none→∀(E:Value→Shared→Prop) (P:Shared→Prop),
  (∀s₂,Side S s s₂→P s₂)→wpAny (mod C) A (pyNext itv) (fun r s₁=>r=none∧P s₁) E s
 self:∀i ρ s,It i ρ s→∀(E:Value→Shared→Prop) (P:Value→Shared→Prop),P itv s→wpAny (mod C) A (pyIter itv) P E s
theorem aside_new {h:Heap}{o:Obj}{a:Addr}(R:Rel C F ρ m s) (ha:s.heap.get? a=none) (e:h.get? a=some o) (h1:¬ Solid o) (h3:¬ IsD o) :
  a∉ρ∧a∉F.W++F.V∧C.base.get? a=none∧Shp h a:=by
 refine ⟨fun q=>?_,fun q=>?_,base_fresh R.hp ha,o,e,h1,h3⟩
 ·obtain ⟨o',e'⟩:=R.hp.there q;exact nosome ha e'
 ·obtain ⟨_,_,o',e',_⟩:=R.w a q;exact nosome ha e'
theorem not_solid_fields {T:String}{o:Obj}(hc:o.cls=.type T) (hT:T≠"tuple"):¬ Solid o:=fun h=>by
 unfold Solid at h
 rw [hc] at h
 have hs:∀d,solidD (.type T) d=true→T="tuple":=fun d h=>by
  cases d with
  | seq=>exact eq_of_beq h
  | _=>exact ff h
 exact hT (hs _ h)
theorem shp_one {h:Heap}{a:Addr}{o:Obj}{T:String}(e:h.get? a=some o) (hc:o.cls=.type T) (hT:T≠"tuple") (hF:¬ IsD o):∀b∈[a],Shp h b:=by
 intro b hb
 have:b=a:=by exact List.mem_singleton.mp hb
 subst this
 exact ⟨o,e,not_solid_fields hc hT,hF⟩
noncomputable def ItList (it l:Addr) (r:Nat):Nat→List Addr→Shared→Prop:=fun i ρ s=>s.heap.IsListIter it l i∧ρ[r]?=some l
theorem side_same {a:Addr}{h':Heap}{t:Nat}(hs:Heap.SameBut a s.heap h'):Side [a] s { s with heap:=h',toks:=t }:=⟨fun b o hb e=>(hs.2 b (by exact fun q=>hb (List.mem_singleton.mpr q))).trans e,rfl,rfl⟩
theorem side_ext {a:Addr}{h':Heap}{t:Nat}(hs:Heap.ExtBut a s.heap h'):Side [a] s { s with heap:=h',toks:=t }:=⟨fun b o hb e=>hs b o (by exact fun q=>hb (List.mem_singleton.mpr q)) e,rfl,rfl⟩
noncomputable def isTarget (e:Expr):Bool:=(xName e).isSome||(xTup e).isSome
theorem letOwned_no {target:Expr}(ht:isTarget target=true) {it:Addr}{v:Value}{o:Obj}{A:Around}{E:Value→Shared→Prop}{P:Unit→Shared→Prop}(e:s.heap.get? it=some o) {T:String}(hc:o.cls=.type T)
  (hT:(["enumerate","zip","dict_itemiterator","dict_reverseitemiterator","odict_iterator","itertools.zip_longest","itertools.pairwise"].contains T)=false) (h:P () s):wpAny (mod C) A (letOwnedTupleGo target (.ref it) v) P E s:=by
 unfold isTarget at ht
 rw [Bool.or_eq_true,Option.isSome_iff_exists,Option.isSome_iff_exists] at ht
 rcases ht with ⟨x,hx⟩ | ⟨xs,hx⟩
 ·obtain ⟨p,rfl⟩:=xName_eq hx
  exact wpAny_pure h
 ·obtain ⟨k,p,rfl⟩:=xTup_eq hx
  unfold letOwnedTupleGo
  cases v with
  | ref a=>
   refine wpAny_bind (wpAny_load e ?_)
   rw [hc]
   cases o.data with
   | fields vs=>
    simp only [hT,Bool.false_and,Bool.false_eq_true,if_false]
    exact wpAny_pure h
   | _=>exact wpAny_pure h
  | _=>exact wpAny_pure h
theorem walk_list (hn:A.handled=none) {target:Expr}(ht:isTarget target=true) {it l:Addr}{r:Nat}{xs:List MV}:Walk C A target (.ref it) xs (some (r,xs)) [it] (ItList it l r) where
 shape:=fun i ρ s h=>by obtain ⟨⟨o,e,hc,hd⟩,_⟩:=h;exact shp_one e hc (by decide) (fun ⟨_,_,q⟩=>by rw [hd] at q;cases q)
 keep:=fun i ρ ρ' s s' h hp hs k=>by
  obtain ⟨⟨o,e,r1,r2⟩,e2⟩:=h
  exact ⟨⟨o,k it (by exact List.mem_singleton.mpr rfl) o e,r1,r2⟩,pre_get hp e2⟩
 item:=fun i ρ hp s x R hg h hx E N P k=>by
  obtain ⟨hit,e2⟩:=h
  obtain ⟨items,c,gi,rl,z⟩:=R.objs _ _ _ hg e2
  obtain ⟨v,hv,rv⟩:=rl.get hx
  have sh:∀a∈[it],Shp s.heap a:=by obtain ⟨o,e,hc,hd⟩:=id hit;exact shp_one e hc (by decide) (fun ⟨_,_,q⟩=>by rw [hd] at q;cases q)
  refine wpAny_pyNext_list_item hit ⟨_,gi,rfl,_,rfl⟩ (by exact (List.getElem?_toArray ..).trans hv) fun h' hit' hs=>?_
  have sd:=side_same (t:=s.toks) hs
  obtain ⟨o,eo,hc,hd⟩:=id hit'
  refine letOwned_no ht (s:={ s with heap:=h' }) eo hc (by decide) (k v _ sd ⟨hit',e2⟩ (rv.up (shp_solids sh sd) (List.prefix_refl _)))
 done:=fun i ρ hp s R hg h hx E P k=>by
  obtain ⟨hit,e2⟩:=h
  obtain ⟨items,c,gi,rl,z⟩:=R.objs _ _ _ hg e2
  refine wpAny_pyNext_list_end hn hit ⟨_,gi,rfl,_,rfl⟩ (i:=i) ?_ fun h' he=>⟨rfl,k _ (side_ext (t:=s.toks) he)⟩
  rw [List.getElem?_eq_none_iff] at hx
  simp [rl.length,hx]
 self:=fun i ρ s h E P hp=>wpAny_pyIter_listiter h.1 hp
noncomputable def ItTup (C:Glo) (it t:Addr) (xs:List MV):Nat→List Addr→Shared→Prop:=
 fun i ρ s=>s.heap.IsTupleIter it t i∧∃items n,s.heap.get? t=some (tupO items n)∧RepL C ρ s.heap xs items
theorem walk_tup (hn:A.handled=none) {target:Expr}(ht:isTarget target=true) {it t:Addr}{xs:List MV}:Walk C A target (.ref it) xs none [it] (ItTup C it t xs) where
 shape:=fun i ρ s h=>by obtain ⟨⟨o,e,hc,hd⟩,_⟩:=h;exact shp_one e hc (by decide) (fun ⟨_,_,q⟩=>by rw [hd] at q;cases q)
 keep:=fun i ρ ρ' s s' h hp hs k=>by
  obtain ⟨⟨o,e,r1,r2⟩,items,n,e2,rl⟩:=h
  exact ⟨⟨o,k it (by exact List.mem_singleton.mpr rfl) o e,r1,r2⟩,items,n,hs _ _ e2 solid_tup,rl.up hs hp⟩
 item:=fun i ρ hp s x R hg h hx E N P k=>by
  obtain ⟨hit,items,n,e2,rl⟩:=h
  obtain ⟨v,hv,rv⟩:=rl.get hx
  have sh:∀a∈[it],Shp s.heap a:=by obtain ⟨o,e,hc,hd⟩:=id hit;exact shp_one e hc (by decide) (fun ⟨_,_,q⟩=>by rw [hd] at q;cases q)
  refine wpAny_pyNext_tuple_item hit ⟨_,e2,rfl,_,rfl⟩ (by exact (List.getElem?_toArray ..).trans hv) fun h' hit' hs=>?_
  have sd:=side_same (t:=s.toks) hs
  have hsol:=shp_solids sh sd
  obtain ⟨o,eo,hc,hd⟩:=id hit'
  refine letOwned_no ht (s:={ s with heap:=h' }) eo hc (by decide) (k v _ sd ⟨hit',items,n,hsol _ _ e2 solid_tup,rl.up hsol (List.prefix_refl _)⟩ (rv.up hsol (List.prefix_refl _)))
 done:=fun i ρ hp s R hg h hx E P k=>by
  obtain ⟨hit,items,n,e2,rl⟩:=h
  refine wpAny_pyNext_tuple_end hn hit ⟨_,e2,rfl,_,rfl⟩ (i:=i) ?_ fun h' he=>⟨rfl,k _ (side_ext (t:=s.toks) he)⟩
  rw [List.getElem?_eq_none_iff] at hx
  simp [rl.length,hx]
 self:=fun i ρ s h E P hp=>wpAny_pyIter_tupleiter h.1 hp
noncomputable def ItRange (it:Addr) (a:Int) (k:Nat):Nat→List Addr→Shared→Prop:=fun i ρ s=>IsRangeIter s.heap it (a+i) ((k:Int)-i) 1
theorem walk_range (hn:A.handled=none) {target:Expr}(ht:isTarget target=true) {it:Addr}{a:Int}{k:Nat}:Walk C A target (.ref it) ((List.range k).map (fun (i:Nat)=>.int (a+i))) none [it] (ItRange it a k) where
 shape:=fun i ρ s h=>shp_one h rfl (by decide) (fun ⟨_,_,q⟩=>by cases q)
 keep:=fun i ρ ρ' s s' h hp hs k=>k it (by exact List.mem_singleton.mpr rfl) _ h
 item:=fun i ρ hp s x R hg hit hx E N P kk=>by
  simp only [List.getElem?_map,Option.map_eq_some_iff] at hx
  obtain ⟨j,hj,rfl⟩:=hx
  obtain ⟨hlt,hj⟩:=List.getElem?_eq_some_iff.mp hj
  simp at hj hlt;subst hj
  refine wpAny_pyNext_range_item hit (by lia) fun h' hit' hs=>?_
  have sd:=side_same (t:=s.toks+1) hs
  have hit'':IsRangeIter h' it (a+((i+1:Nat):Int)) ((k:Int)-((i+1:Nat):Int)) 1:=by
   have e1:a+((i+1:Nat):Int)=a+i+1:=by lia
   have e2:(k:Int)-((i+1:Nat):Int)=k-i-1:=by lia
   rw [e1,e2];exact hit'
  exact letOwned_no ht (s:={ s with heap:=h',toks:=s.toks+1 }) hit' rfl (by decide) (kk _ _ sd hit'' (.int _ _))
 done:=fun i ρ hp s R hg hit hx E P kk=>by
  have hit:IsRangeIter s.heap it (a+i) ((k:Int)-i) 1:=hit
  rw [List.getElem?_eq_none_iff] at hx
  simp at hx
  exact wpAny_pyNext_range_end hn hit (by lia) fun h' he=>⟨rfl,kk _ (side_ext (t:=s.toks) he)⟩
 self:=fun i ρ s h E P hp=>wpAny_pyIter_rangeiter h hp
noncomputable def ItEnum (e it l:Addr) (r:Nat):Nat→List Addr→Shared→Prop:=
 fun i ρ s=>(∃old,IsEnum s.heap e it i old)∧s.heap.IsListIter it l i∧ρ[r]?=some l
theorem shp_two {h':Heap}{e it l:Addr}{i:Nat}{j:Int}{old:Value}(h1:IsEnum h' e it j old) (h2:h'.IsListIter it l i):∀a∈[e,it],Shp h' a:=by
 intro a ha
 have:a=e∨a=it:=by simpa using ha
 rcases this with rfl | rfl
 ·exact shp_one h1 rfl (by decide) (fun ⟨_,_,q⟩=>by cases q) a (by exact List.mem_singleton.mpr rfl)
 ·obtain ⟨o,e1,e2,e3⟩:=h2
  exact shp_one e1 e2 (by decide) (fun ⟨_,_,q⟩=>by rw [e3] at q;cases q) a (by exact List.mem_singleton.mpr rfl)
theorem walk_enum (hn:A.handled=none) {elts:List Expr} {x1}{pos:Pos}{e it l:Addr}{r:Nat}{xs:List MV}(hne:e≠it):Walk C A (.Tuple elts x1 pos) (.ref e) (xs.zipIdx.map (fun p=>.tup [.int p.2,p.1])) (some (r,xs)) [e,it] (ItEnum e it l r) where
 shape:=fun i ρ s h=>by obtain ⟨⟨old,h1⟩,h2,_⟩:=h;exact shp_two h1 h2
 keep:=fun i ρ ρ' s s' h hp hs k=>by
  obtain ⟨⟨old,h1⟩,⟨o,e',r1,r2⟩,e2⟩:=h
  exact ⟨⟨old,k e (by exact List.mem_cons_self ..) _ h1⟩,⟨o,k it (by exact List.mem_cons_of_mem _ (List.mem_cons_self ..)) o e',r1,r2⟩,pre_get hp e2⟩
 item:=fun i ρ hp s x R hg h hx E N P kk=>by
  obtain ⟨⟨old,h1⟩,hit,e2⟩:=h
  have sh:=shp_two h1 hit
  obtain ⟨items,c,gi,rl,z⟩:=R.objs _ _ _ hg e2
  simp only [List.getElem?_map,Option.map_eq_some_iff] at hx
  obtain ⟨⟨y,j⟩,hj,rfl⟩:=hx
  rw [List.getElem?_zipIdx] at hj
  simp only [Option.map_eq_some_iff,Nat.zero_add] at hj
  obtain ⟨y',hy,hj⟩:=hj
  cases hj
  obtain ⟨v,hv,rv⟩:=rl.get hy
  refine wpAny_pyNext_enum_item h1 hit ⟨_,gi,rfl,_,rfl⟩ (by exact (List.getElem?_toArray ..).trans hv) hne fun h' he hit' ht hsz hk=>?_
  refine wpAny_letOwnedTupleGo_enum (s:={ s with heap:=h',toks:=s.toks+1 }) he fun h2 he2 hs2=>?_
  have hlt:s.heap.objs.size≠e:=fun q=>absurd (Heap.lt_size h1) (by rw [←q];exact Nat.lt_irrefl _)
  have ht2:h2.get? s.heap.objs.size=some (tupO [.int i s.toks,v] 0):=(hs2.2 _ hlt).trans ht
  have hit2:h2.IsListIter it l (i+1):=by
   obtain ⟨o,e1,r⟩:=hit'
   exact ⟨o,(hs2.2 it (fun q=>hne q.symm)).trans e1,r⟩
  have sd:Side [e,it] s { s with heap:=h2,toks:=s.toks+1 }:=⟨fun b o hb eb=>by
   simp at hb
   exact (hs2.2 b hb.1).trans (hk b o hb.1 hb.2 eb),rfl,rfl⟩
  refine kk _ _ sd ⟨⟨v,?_⟩,hit2,e2⟩ (.tup ht2 (.cons (.int _ _) (.cons (rv.up (shp_solids sh sd) (List.prefix_refl _)) .nil)) (by unfold line;simp))
  have:(((i+1:Nat)):Int)=(i:Int)+1:=rfl
  rw [this];exact he2
 done:=fun i ρ hp s R hg h hx E P kk=>by
  obtain ⟨⟨old,h1⟩,hit,e2⟩:=h
  obtain ⟨items,c,gi,rl,z⟩:=R.objs _ _ _ hg e2
  rw [List.getElem?_eq_none_iff] at hx
  simp at hx
  refine wpAny_pyNext_enum_end hn h1 hit ⟨_,gi,rfl,_,rfl⟩ (by simp [rl.length,hx]) fun h' he=>⟨rfl,kk _ ⟨fun b o hb eb=>he b o (by simp at hb;exact hb.2) eb,rfl,rfl⟩⟩
 self:=fun i ρ s h E P hp=>by obtain ⟨⟨old,h1⟩,_⟩:=h;exact wpAny_pyIter_enum h1 hp
noncomputable def ItStr (it:Addr) (x:List Nat) (t:Tok):Nat→List Addr→Shared→Prop:=fun i ρ s=>s.heap.IsStrIter it "str_ascii_iterator" (str x) t i
theorem walk_str (hn:A.handled=none) {target:Expr}(ht:isTarget target=true) {it:Addr}{x:List Nat}{t:Tok}:Walk C A target (.ref it) (x.map (fun c=>.str [c])) none [it] (ItStr it x t) where
 shape:=fun i ρ s h=>by obtain ⟨o,e,hc,hd⟩:=h;exact shp_one e hc (by decide) (fun ⟨_,_,q⟩=>by rw [hd] at q;cases q)
 keep:=fun i ρ ρ' s s' h hp hs k=>by
  obtain ⟨o,e,r⟩:=h
  exact ⟨o,k it (by exact List.mem_singleton.mpr rfl) _ e,r⟩
 item:=fun i ρ hp s y R hg hit hx E N P kk=>by
  simp only [List.getElem?_map,Option.map_eq_some_iff] at hx
  obtain ⟨j,hj,rfl⟩:=hx
  refine wpAny_pyNext_ascii_item hit (c:=j) (by exact (List.getElem?_toArray ..).trans hj) fun h' hit' hs=>?_
  have sd:=side_same (t:=s.toks+1) hs
  obtain ⟨o,eo,hc,hd⟩:=id hit'
  exact letOwned_no ht (s:={ s with heap:=h',toks:=s.toks+1 }) eo hc (by decide) (kk _ _ sd hit' (.str [j] _ (by unfold line;simp)))
 done:=fun i ρ hp s R hg hit hx E P kk=>by
  rw [List.getElem?_eq_none_iff] at hx
  simp at hx
  exact wpAny_pyNext_ascii_end hn hit (by simp [hx]) fun h' he=>⟨rfl,kk _ (side_ext (t:=s.toks) he)⟩
 self:=fun i ρ s h E P hp=>wpAny_pyIter_striter_ascii h hp
end
end Internal
end
section
namespace Internal
open PySem PyProof.Rows
noncomputable def SV (C:Glo) (X:XM) (n:Nat) (c:Cx) (F:Fm) (me:ME):Prop:=
 ∀(e:Expr),chkE c me e=true→∀(Q:PQ) (m:MS),wpE (Call C) n me Q X m→WPv C F X (eval e F.env) Q m
section
variable {C:Glo}{F:Fm}{X:XM}{c:Cx}{n:Nat}{ρ ρ' ρ₀:List Addr}{m:MS}{s s' s₀:Shared}{A:Around}{E:Value→Shared→Prop}
theorem chkT_target {t:List Nat}{many:Bool}{e:Expr}(h:chkT c t many e=true):isTarget e=true:=by
 unfold isTarget
 cases many with
 | false=>obtain ⟨x,hx,_⟩:=onSome_true h;rw [hx];rfl
 | true=>obtain ⟨x,hx,_⟩:=onSome_true h;rw [hx];exact Bool.or_true _
theorem chkT_many {t:List Nat}{e:Expr}(h:chkT c t true e=true):∃elts k p,e=.Tuple elts k p∧chkNames c t elts=true:=by
 obtain ⟨elts,hx,h⟩:=onSome_true h
 obtain ⟨k,p,e⟩:=xTup_eq hx
 exact ⟨elts,k,p,e,h⟩
theorem chkT_one {t:List Nat}{e:Expr}(h:chkT c t false e=true):∃i x p,t=[i]∧e=.Name x p∧c.nm i=some x∧setOk c x=true:=by
 obtain ⟨x,hx,h⟩:=onSome_true h
 obtain ⟨i,hi,h⟩:=onSome_true h
 obtain ⟨p,e⟩:=xName_eq hx
 rw [Bool.and_eq_true,beq_iff_eq] at h
 exact ⟨i,x,p,one_eq hi,e,h.1,h.2⟩
inductive OutI (C:Glo) (F:Fm) (target:Expr) (ρ:List Addr) (s:Shared) (P:List MV→Option (Nat × List MV)→MS→Prop) (itv:Value) (s₂:Shared):Prop
 | mk (ρ₂:List Addr) (m₂:MS) (items:List MV) (g:Option (Nat × List MV)) (S:List Addr) (It:Nat→List Addr→Shared→Prop) (st:Step F.W ρ s ρ₂ s₂) (R:Rel C F ρ₂ m₂ s₂) (wk:Walk C F.A target itv items g S It) (h0:It 0 ρ₂ s₂) (as:Aside C F ρ₂ s₂.heap S) (hS:∀a∈S,s.heap.get? a=none) (hl:items.length≤line) (hp:P items g m₂):OutI C F target ρ s P itv s₂
theorem none_back {W:List Addr}(st:Step W ρ s ρ' s') {a:Addr}(h:s'.heap.get? a=none):s.heap.get? a=none:=by
 cases e:s.heap.get? a with
 | none=>rfl
 | some o=>obtain ⟨o',e'⟩:=st.alive a o e;exact nosome h e'
theorem outI {target:Expr}{P:List MV→Option (Nat × List MV)→MS→Prop}{o:Obj}{items:List MV}{g:Option (Nat × List MV)}{It:Nat→List Addr→Shared→Prop}{T:String}(cx:CxOk C c F n) (R:Rel C F ρ m s) (st₀:Step F.W ρ₀ s₀ ρ s)
  (hc:o.cls=.type T) (hT:T≠"tuple") (hF:¬ IsD o) (hf:o.isFreed=false) (wk:Walk C F.A target (.ref s.heap.objs.size) items g [s.heap.objs.size] It) (h0:∀s₂:Shared,s₂.heap=s.heap.push o→It 0 ρ s₂) (hl:items.length≤line) (hp:P items g m) {tk:Nat} :
  OutI C F target ρ₀ s₀ P (.ref s.heap.objs.size) { s with heap:=s.heap.push o,toks:=tk }:=by
 have hk:∀q ob,s.heap.get? q=some ob→(s.heap.push o).get? q=some ob:=fun q ob e=>Heap.get?_push_of_some _ e
 obtain ⟨R',st⟩:=R.grow (s':={ s with heap:=s.heap.push o,toks:=tk }) cx.fm hk rfl rfl
 have hnew:s.heap.get? s.heap.objs.size=none:=fresh_at (Nat.le_refl _)
 refine ⟨ρ,m,items,g,_,It,st₀.trans st,R',wk,h0 _ rfl,?_,fun q hq=>?_,hl,hp⟩
 ·intro q hq
  have:q=s.heap.objs.size:=by exact List.mem_singleton.mp hq
  subst this
  exact aside_new R hnew (Heap.get?_push_size _ hf) (not_solid_fields hc hT) hF
 ·have:q=s.heap.objs.size:=by exact List.mem_singleton.mp hq
  subst this
  exact none_back st₀ hnew
theorem range_it (cx:CxOk C c F n) (hnh:c.nh=true) (R:Rel C F ρ m s) (st₀:Step F.W ρ₀ s₀ ρ s) {target:Expr}(ht:isTarget target=true) {a b:Int}{r:Addr}{t u v:Tok}(hr:IsRange s.heap r a b 1 t u v)
  (h1:-16777216≤a) (h2:a≤16777216) (h3:-16777216≤b) (h4:b≤16777216) (h5:(b-a).toNat≤line) {P:List MV→Option (Nat × List MV)→MS→Prop}(h:P ((List.range (b-a).toNat).map (fun (i:Nat)=>.int (a+i))) none m) :
  wpAny (mod C) A (pyIter (.ref r)) (OutI C F target ρ₀ s₀ P) E s:=by
 refine wpAny_pyIter_range hr (small_one (by lia) (by lia) (by lia) (by lia)) ?_
 refine outI cx R st₀ (T:="range_iterator") rfl (by decide) (fun ⟨_,_,q⟩=>by cases q) rfl (walk_range (a:=a) (k:=(b-a).toNat) (cx.hn hnh) ht) (fun s₂ e=>?_) (by simpa using h5) h
 have e1:a+((0:Nat):Int)=a:=by lia
 have e2:(((b-a).toNat:Nat):Int)-((0:Nat):Int)=Builtin.Range.rangeSize a b 1:=by rw [rangeSize_one];split<;>lia
 show IsRangeIter _ _ _ _ _
 rw [e1,e2,e]
 exact Heap.get?_push_size _ rfl
theorem chkEs_cons {e:ME}{es:List ME}{x:Expr}{xs:List Expr}(h:chkEs c (e::es) (x::xs)=true):(okX x=true∧chkE c e x=true)∧chkEs c es xs=true:=by
 have h:(okX x&&chkE c e x&&chkEs c es xs)=true:=h
 rwa [Bool.and_eq_true,Bool.and_eq_true] at h
theorem one_of {src:List ME}{y:Expr}(h:chkEs c src [y]=true):∃a,src=[a]∧okX y=true∧chkE c a y=true:=by
 cases src with
 | nil=>exact ff h
 | cons a r=>
  have h:=chkEs_cons h
  cases r with
  | nil=>exact ⟨a,rfl,h.1⟩
  | cons=>cases h.2
theorem two_of {src:List ME}{y z:Expr}(h:chkEs c src [y,z]=true):∃a b,src=[a,b]∧(okX y=true∧chkE c a y=true)∧okX z=true∧chkE c b z=true:=by
 cases src with
 | nil=>exact ff h
 | cons a r=>
  have h:=chkEs_cons h
  obtain ⟨b,rfl,hb⟩:=one_of h.2
  exact ⟨a,b,rfl,h.1,hb⟩
theorem svEs (G:GOk C) (cx:CxOk C c F n):∀{es:List ME},(∀a∈es,SV C X n c F a)→∀(xs:List Expr),chkEs c es xs=true→∀(Q:List MV→MS→Prop) (m:MS),wpEs (Call C) n es Q X m→∀pos,WPl C F X es.length (spliced (backTo pos (starEach xs F.env))) Q m
 | [],ih,xs,hc,Q,m,h,pos=>by
  cases xs with
  | nil=>intro s ρ R;exact wpAny_items_nil ⟨_,_,_,.refl _ _ _,R,.nil,rfl,h⟩
  | cons=>exact ff hc
 | e::es,ih,xs,hc,Q,m,h,pos=>by
  cases xs with
  | nil=>exact ff hc
  | cons x xs=>
   obtain ⟨⟨hx,he⟩,hes⟩:=chkEs_cons hc
   intro s ρ R
   refine wpAny_items_cons ((ih e (by exact List.mem_cons_self ..) x he _ m h).go R (.refl _ _ _) fun ρ₁ s₁ m₁ x v st t1 R₁ rx h₁=>?_) (okX_star hx _ _)
   refine (svEs G cx (fun a ha=>ih a (List.mem_cons_of_mem _ ha)) xs hes _ m₁ h₁ pos).go R₁ t1 fun ρ₂ s₂ m₂ ys vs st2 t2 R₂ rl el h₂=>?_
   exact ⟨_,_,_,t2,R₂,.cons (rx.step st2) rl,by simp [el],h₂⟩
theorem okX_first {es:List ME}{xs:List Expr}(h:chkEs c es xs=true) (hn:xs.isEmpty=false) (pos:Pos) (env:Env):backTo pos (starEach xs env)≠[]:=by
 cases xs with
 | nil=>exact tf hn
 | cons x xs=>
  cases es with
  | nil=>exact ff h
  | cons e es=>
   rw [okX_star (chkEs_cons h).1.1]
   exact List.cons_ne_nil _ _
theorem heap_list {hp:List MO}{r:Nat}{f:List MV→Its}{q:List MV × Option (Nat × List MV)}(h:(match hp[r]? with
  | some (.list xs)=>f xs
  | _=>none)=some q):∃xs,hp[r]?=some (.list xs)∧f xs=some q:=by
 cases e:hp[r]? with
 | none=>rw [e] at h;exact nos1 h
 | some o=>
  rw [e] at h
  cases o with
  | list xs=>exact ⟨xs,rfl,h⟩
  | _=>exact nos1 h
theorem when_some {α:Type}{b:Bool}{x y:α}(h:(match b with
  | true=>some x
  | false=>none)=some y):b=true∧x=y:=by
 cases b with
 | true=>exact ⟨rfl,Option.some.inj h⟩
 | false=>exact nos1 h
theorem itVal_ok (cx:CxOk C c F n) (hnh:c.nh=true) (R:Rel C F ρ m s) (st₀:Step F.W ρ₀ s₀ ρ s) {target:Expr}(ht:isTarget target=true) {x:MV}{v:Value}(rx:Rep C ρ s.heap x v) {items:List MV}{g:Option (Nat × List MV)}(hi:itVal m.heap x=some (items,g))
  {P:List MV→Option (Nat × List MV)→MS→Prop}(h:P items g m):wpAny (mod C) A (pyIter v) (OutI C F target ρ₀ s₀ P) E s:=by
 have noD:∀{o:Obj} {vs:Array Value},o.data=.fields vs→¬ IsD o:=fun e ⟨_,_,q⟩=>nomatch e.symm.trans q
 refine Classical.byContradiction fun hn=>?_
 cases x with
 | ref r=>
  obtain ⟨la,rfl,gr⟩:=rx.inv
  obtain ⟨xs,hj,e⟩:=heap_list (r:=r) (f:=fun xs=>some (xs,some (r,xs))) hi
  cases e
  obtain ⟨items,n',gi,rl,z⟩:=R.hp.objs _ _ _ hj gr
  refine hn (wpAny_pyIter_list ⟨_,gi,rfl,_,rfl⟩ ?_)
  exact outI cx R st₀ (T:="list_iterator") rfl (by decide) (noD rfl) rfl (walk_list (cx.hn hnh) ht) (fun s₂ e=>⟨⟨_,by rw [e];exact Heap.get?_push_size _ rfl,rfl,rfl⟩,gr⟩) z h
 | tup xs=>
  obtain ⟨ta,k,its,rfl,gi,rl,z⟩:=rx.inv
  cases hi
  refine hn (wpAny_pyIter_tuple ⟨_,gi,rfl,_,rfl⟩ ?_)
  have hk:∀q ob,s.heap.get? q=some ob→(s.heap.push { cls:=.type "tuple_iterator",data:=.fields #[.ref ta,.int 0 0] }).get? q=some ob:=fun q o e=>Heap.get?_push_of_some _ e
  exact outI cx R st₀ (T:="tuple_iterator") rfl (by decide) (noD rfl) rfl (walk_tup (cx.hn hnh) ht) (fun s₂ e=>⟨⟨_,by rw [e];exact Heap.get?_push_size _ rfl,rfl,rfl⟩,_,_,by rw [e];exact hk _ _ gi,by rw [e];exact rl.up (fun a o e _=>hk a o e) (List.prefix_refl _)⟩) z h
 | str y=>
  obtain ⟨u,rfl,z⟩:=rx.inv
  obtain ⟨ha,e⟩:=when_some hi
  cases e
  refine hn (wpAny_pyIter_ascii (by rw [←ha];simp) ?_)
  exact outI cx R st₀ (T:="str_ascii_iterator") rfl (by decide) (noD rfl) rfl (walk_str (cx.hn hnh) ht) (fun s₂ e=>⟨_,by rw [e];exact Heap.get?_push_size _ rfl,rfl,rfl⟩) (by rw [List.length_map];exact z) h
 | _=>exact nos1 hi
noncomputable def itType:IK→Value
 | .enum=>.type "enumerate"
 | _=>.type "range"
theorem itR1_int {x:MV}{q:List MV × Option (Nat × List MV)}(h:itR1 x=some q):∃i,x=.int i:=by
 cases x with
 | int i=>exact ⟨i,rfl⟩
 | _=>exact nos1 h
theorem itR1_ok (cx:CxOk C c F n) (hnh:c.nh=true) (R:Rel C F ρ m s) (st₀:Step F.W ρ₀ s₀ ρ s) {target:Expr}(ht:isTarget target=true) {x:MV}{v:Value}(rx:Rep C ρ s.heap x v) {items:List MV}{g:Option (Nat × List MV)}(hi:itR1 x=some (items,g))
  {P:List MV→Option (Nat × List MV)→MS→Prop}(h:P items g m):wpAny (mod C) A (call (.type "range") [v]) (fun xv s₁=>wpAny (mod C) A (pyIter xv) (OutI C F target ρ₀ s₀ P) E s₁) E s:=by
 obtain ⟨i,rfl⟩:=itR1_int hi
 obtain ⟨t,rfl⟩:=rx.inv
 obtain ⟨hd,e⟩:=when_some hi
 cases e
 have hd:=of_decide_eq_true hd
 refine call_range_1 ?_
 have hk:∀q o,s.heap.get? q=some o→(s.heap.push { cls:=.type "range",data:=.fields #[.int 0 s.toks,.int i t,.int 1 (s.toks+1)] }).get? q=some o:=fun q o e=>Heap.get?_push_of_some _ e
 obtain ⟨R',st'⟩:=R.grow (s':={ s with heap:=s.heap.push { cls:=.type "range",data:=.fields #[.int 0 s.toks,.int i t,.int 1 (s.toks+1)] },toks:=s.toks+1+1 }) cx.fm hk rfl rfl
 refine range_it cx hnh R' (st₀.trans st') ht (IsRange.new _ _ _ _ _ _ _) (by decide) (by decide) hd.1 hd.2 (by unfold line;lia) ?_
 simpa using h
theorem itEnum_ref {hp:List MO}{x:MV}{q:List MV × Option (Nat × List MV)}(h:itEnum hp x=some q):∃i,x=.ref i:=by
 cases x with
 | ref i=>exact ⟨i,rfl⟩
 | _=>exact nos1 h
theorem itEnum_ok (cx:CxOk C c F n) (hnh:c.nh=true) (R:Rel C F ρ m s) (st₀:Step F.W ρ₀ s₀ ρ s) {elts:List Expr}{k':Nat}{p':Pos}{x:MV}{v:Value}(rx:Rep C ρ s.heap x v) {items:List MV}{g:Option (Nat × List MV)}(hi:itEnum m.heap x=some (items,g))
  {P:List MV→Option (Nat × List MV)→MS→Prop}(h:P items g m):wpAny (mod C) A (call (.type "enumerate") [v]) (fun xv s₁=>wpAny (mod C) A (pyIter xv) (OutI C F (.Tuple elts k' p') ρ₀ s₀ P) E s₁) E s:=by
 have hnew:s.heap.get? s.heap.objs.size=none:=fresh_at (Nat.le_refl _)
 have hnew':s.heap.get? (s.heap.objs.size+1)=none:=fresh_at (Nat.le_succ _)
 obtain ⟨r,rfl⟩:=itEnum_ref hi
 obtain ⟨la,rfl,gr⟩:=rx.inv
 obtain ⟨xs,hj,e⟩:=heap_list (r:=r) (f:=fun xs=>some (xs.zipIdx.map (fun (p:MV × Nat)=>.tup [.int p.2,p.1]),some (r,xs))) hi
 cases e
 obtain ⟨items,n',gi,rl,z⟩:=R.hp.objs _ _ _ hj gr
 refine call_enumerate_1 gi fun h' he hit hsz hk=>?_
 obtain ⟨R',st'⟩:=R.grow (s':={ s with heap:=h' }) cx.fm hk rfl rfl
 refine wpAny_pyIter_enum he ?_
 have hne:s.heap.objs.size+1≠s.heap.objs.size:=Nat.succ_ne_self _
 have hmem:∀q∈[s.heap.objs.size+1,s.heap.objs.size],s.heap.get? q=none:=fun q hq=>by
  rcases List.mem_cons.mp hq with rfl | hq
  ·exact hnew'
  ·rw [List.mem_singleton.mp hq];exact hnew
 refine ⟨ρ,m,_,_,_,_,st₀.trans st',R',walk_enum (e:=s.heap.objs.size+1) (it:=s.heap.objs.size) (cx.hn hnh) hne,⟨⟨_,he⟩,hit,gr⟩,fun q hq=>?_,fun q hq=>none_back st₀ (hmem q hq),by rw [List.length_map,List.length_zipIdx];exact z,h⟩
 obtain ⟨o,e1,e2,e3⟩:=shp_two he hit q hq
 exact aside_new R (hmem q hq) e1 e2 e3
end
end Internal
end
section
namespace Internal
open PySem PyProof.Rows
section
variable {C:Glo}{F:Fm}{X:XM}{c:Cx}{n:Nat}{ρ ρ' ρ₀:List Addr}{m:MS}{s s' s₀:Shared}{A:Around}{E:Value→Shared→Prop}
theorem itR2_ok (cx:CxOk C c F n) (hnh:c.nh=true) (R:Rel C F ρ m s) (st₀:Step F.W ρ₀ s₀ ρ s) {target:Expr}(ht:isTarget target=true) {x y:MV}{v w:Value}(rx:Rep C ρ s.heap x v) (ry:Rep C ρ s.heap y w) {items:List MV}{g:Option (Nat × List MV)}(hi:itB2 x y=some (items,g))
  {P:List MV→Option (Nat × List MV)→MS→Prop}(h:P items g m):wpAny (mod C) A (call (.type "range") [v,w]) (fun xv s₁=>wpAny (mod C) A (pyIter xv) (OutI C F target ρ₀ s₀ P) E s₁) E s:=by
 exact nos1 hi
end
end Internal
end
section
namespace Internal
open PySem PyProof.Rows
section
variable {C:Glo}{F:Fm}{X:XM}{c:Cx}{n:Nat}{ρ ρ' ρ₀:List Addr}{m:MS}{s s' s₀:Shared}{A:Around}{E:Value→Shared→Prop}
theorem itMade_ok (cx:CxOk C c F n) (hnh:c.nh=true) (R:Rel C F ρ m s) (st₀:Step F.W ρ₀ s₀ ρ s) {k:IK}(hk:isVal k=false) {target:Expr}(ht:isTarget target=true) (hm:isEnum k=true→∃elts k p,target=.Tuple elts k p∧True) {xs:List MV}{vs:List Value}(rl:RepL C ρ s.heap xs vs) {items:List MV}{g:Option (Nat × List MV)}
  (hi:iterOf k xs m.heap=some (items,g)) {P:List MV→Option (Nat × List MV)→MS→Prop}(h:P items g m):wpAny (mod C) A (call (itType k) vs) (fun xv s₁=>wpAny (mod C) A (pyIter xv) (OutI C F target ρ₀ s₀ P) E s₁) E s:=by
 refine Classical.byContradiction fun hn=>?_
 rcases xs with _ | ⟨x,_ | ⟨y,_ | ⟨z,r⟩⟩⟩
 ·exact nos1 hi
 ·obtain ⟨v,rfl,rx⟩:=rl.one
  cases k with
  | val=>exact tf hk
  | range1=>exact hn (itR1_ok cx hnh R st₀ ht rx hi h)
  | range2=>exact nos1 hi
  | enum=>obtain ⟨_,_,_,rfl,_⟩:=hm rfl;exact hn (itEnum_ok cx hnh R st₀ rx hi h)
 ·obtain ⟨v,w,rfl,rx,ry⟩:=rl.two
  cases k with
  | range2=>exact hn (itR2_ok cx hnh R st₀ ht rx ry hi h)
  | _=>exact nos1 hi
 ·exact nos1 hi
theorem it_mem {k:IK}(hk:isVal k=false):(itName k,itType k)∈bltNames:=by
 cases k with
 | val=>exact tf hk
 | range1=>exact at_mem 8 rfl
 | range2=>exact at_mem 8 rfl
 | enum=>exact at_mem 9 rfl
theorem it_type (k:IK):∃T,itType k=.type T:=by
 cases k<;>exact ⟨_,rfl⟩
set_option tactic.hygienic true in
theorem soundIt (G:GOk C) (cx:CxOk C c F n) (hnh:c.nh=true) {k:IK}{src:List ME}{e target:Expr}(hsrc:∀a∈src,SV C X n c F a) {xs:List Expr}(hxs:itArgs c k e=some xs) (hc:chkEs c src xs=true) (htt:isTarget target=true)
  (hm:isEnum k=true→∃elts k p,target=.Tuple elts k p∧True)
  {P:List MV→Option (Nat × List MV)→MS→Prop}(h:wpEs (Call C) n src (fun vs m=>onIt (iterOf k vs m.heap) fun items g=>P items g m) X m) (R:Rel C F ρ m s) :
  wpAny (mod C) F.A (eval e F.env) (fun xv s₁=>wpAny (mod C) F.A (pyIter xv) (OutI C F target ρ s P) (Er C F X ρ s) s₁) (Er C F X ρ s) s:=by
 unfold itArgs at hxs
 cases hv:isVal k with
 | true=>
  have hk:k=.val:=by cases k<;>first | rfl | exact ff hv
  subst hk
  obtain rfl:=Option.some.inj hxs
  obtain ⟨a,rfl,hx,hc⟩:=one_of hc
  refine (hsrc a (.head _) e hc _ m h).go R (.refl _ _ _) fun ρ₁ s₁ m₁ x v st t1 R₁ rx h₁=>?_
  obtain ⟨items,g,hi,hp⟩:=onIt_inv h₁
  exact itVal_ok cx hnh R₁ t1 htt rx hi hp
 | false=>
  rw [hv] at hxs
  obtain ⟨⟨x,ys,pos⟩,hx,hq⟩:=Option.bind_eq_some_iff.mp hxs
  obtain ⟨px,rfl⟩:=xFn_eq hx
  split at hq
  ·rename_i hg
   obtain rfl:=Option.some.inj hq
   simp only [Bool.and_eq_true,beq_iff_eq,Bool.not_eq_true'] at hg
   obtain ⟨⟨hg,rfl⟩,hne⟩:=hg
   refine PyProof.Rows.Call_Name rfl (load_blt cx R (it_mem hv) (glName_ok hg).1 (glName_ok hg).2 ?_)
   refine call_args (.inr (it_type k)) (trees_plain hc _ _) (okX_first hc hne _ _) ?_
   refine (svEs G cx hsrc _ hc _ m h pos).go R (.refl _ _ _) fun ρ₁ s₁ m₁ xs vs st t1 R₁ rl el h₁=>?_
   obtain ⟨items,g,hi,hp⟩:=onIt_inv h₁
   exact itMade_ok cx hnh R₁ t1 hv htt hm rl hi hp
  ·exact nos1 hq
end
end Internal
end
section
set_option backward.match.sparseCases true
namespace Internal
open PySem PyProof.Rows
section
variable {C:Glo}{F:Fm}{X:XM}{c:Cx}{n:Nat}
theorem ofBool_inv {Q:Bool→MS→Prop}{x:MV}{m:MS}(h:ofBool Q x m):∃b,x=.bool b∧Q b m:=by
 cases x with
 | bool b=>exact ⟨b,rfl,h⟩
 | _=>exact h.elim
theorem var_inv {K:KT}{i:Nat}{Q:PQ}{m:MS}(h:wpE K n (.var i) Q X m):∃v,m.get i=some v∧Q v m:=by
 have h:(match m.get i with | some v=>Q v m | none=>False):=h
 cases hv:m.get i with
 | some v=>rw [hv] at h;exact ⟨v,rfl,h⟩
 | none=>rw [hv] at h;exact h.elim
theorem svO (G:GOk C) (cx:CxOk C c F n):∀{o:Option ME},(∀a,o=some a→SV C X n c F a)→∀(x:Option Expr),chkO c o x=true→∀(Q:Option MV→MS→Prop) (m:MS),wpO (Call C) n o Q X m→∀(s:Shared) (ρ:List Addr),Rel C F ρ m s→
  ∀(s₀:Shared) (ρ₀:List Addr) (P:Value→Shared→Prop),Step F.W ρ₀ s₀ ρ s→(∀ρ₁ s₁ m₁ x v,Step F.W ρ s ρ₁ s₁→Step F.W ρ₀ s₀ ρ₁ s₁→Rel C F ρ₁ m₁ s₁→PartRep C ρ₁ s₁.heap x v→Q x m₁→P v s₁)→
   wpAny (mod C) F.A (evalPart x F.env) P (Er C F X ρ₀ s₀) s
 | none,ih,x,hc,Q,m,h,s,ρ,R,s₀,ρ₀,P,st,k=>by
  cases x with
  | none=>rw [evalPart_none];exact wpAny_pure (k ρ s m none .none (.refl _ _ _) st R rfl h)
  | some=>exact ff hc
 | some e,ih,x,hc,Q,m,h,s,ρ,R,s₀,ρ₀,P,st,k=>by
  cases x with
  | some x=>
   rw [evalPart_some]
   exact (ih e rfl _ hc _ m h).go R st fun ρ₁ s₁ m₁ x v st1 t1 R₁ rx h₁=>k ρ₁ s₁ m₁ (some x) v st1 t1 R₁ rx h₁
  | none=>exact ff hc
theorem svAnd (G:GOk C) (cx:CxOk C c F n):∀{es:List ME},(∀a∈es,SV C X n c F a)→∀(xs:List Expr),chkEs c es xs=true→∀(Q:PQ) (m:MS),wpAnd (Call C) n es Q X m→∀pos,WPv C F X (boolOp pos .And (evalEach xs F.env)) Q m
 | [],ih,xs,hc,Q,m,h,pos=>h.elim
 | [e],ih,xs,hc,Q,m,h,pos=>by
  cases xs with
  | nil=>exact ff hc
  | cons x xs=>
   replace hc:=chkEs_cons hc
   cases xs with
   | nil=>exact ih e (by simp) x hc.1.2 Q m h
   | cons=>cases hc.2
 | e::e'::es,ih,xs,hc,Q,m,h,pos=>by
  cases xs with
  | nil=>exact ff hc
  | cons x xs=>
   replace hc:=chkEs_cons hc
   cases xs with
   | nil=>cases hc.2
   | cons x' xs=>
    intro s ρ R
    show wpAny (mod C) F.A (do let v ←eval x F.env;standAt pos;let t ←holding [v] (truthy v);match BoolOp.And,t with | .And,false | .Or,true=>pure v | _,_=>boolOp pos .And (evalEach (x'::xs) F.env)) _ _ s
    refine wpAny_bind ((ih e (by simp) x hc.1.2 _ m h).go R (.refl _ _ _) fun ρ₁ s₁ m₁ y v st t1 R₁ rx h₁=>?_)
    obtain ⟨b,rfl,h₁⟩:=ofBool_inv h₁
    ·obtain rfl:=rx.inv
     refine wpAny_bind (wpAny_standAt (wpAny_bind (wpAny_holding (wpAny_truthy_bool ?_))))
     cases b with
     | true=>exact wpAny_mono (svAnd G cx (fun a ha=>ih a (List.mem_cons_of_mem _ ha)) (x'::xs) hc.2 Q m₁ h₁ pos s₁ ρ₁ R₁) (Out.back t1) (Er.back t1)
     | false=>exact wpAny_pure (Out.back t1 _ _ (outSame R₁ (.bool _) h₁))
theorem svOr (G:GOk C) (cx:CxOk C c F n):∀{es:List ME},(∀a∈es,SV C X n c F a)→∀(xs:List Expr),chkEs c es xs=true→∀(Q:PQ) (m:MS),wpOr (Call C) n es Q X m→∀pos,WPv C F X (boolOp pos .Or (evalEach xs F.env)) Q m
 | [],ih,xs,hc,Q,m,h,pos=>h.elim
 | [e],ih,xs,hc,Q,m,h,pos=>by
  cases xs with
  | nil=>exact ff hc
  | cons x xs=>
   replace hc:=chkEs_cons hc
   cases xs with
   | nil=>exact ih e (by simp) x hc.1.2 Q m h
   | cons=>cases hc.2
 | e::e'::es,ih,xs,hc,Q,m,h,pos=>by
  cases xs with
  | nil=>exact ff hc
  | cons x xs=>
   replace hc:=chkEs_cons hc
   cases xs with
   | nil=>cases hc.2
   | cons x' xs=>
    intro s ρ R
    show wpAny (mod C) F.A (do let v ←eval x F.env;standAt pos;let t ←holding [v] (truthy v);match BoolOp.Or,t with | .And,false | .Or,true=>pure v | _,_=>boolOp pos .Or (evalEach (x'::xs) F.env)) _ _ s
    refine wpAny_bind ((ih e (by simp) x hc.1.2 _ m h).go R (.refl _ _ _) fun ρ₁ s₁ m₁ y v st t1 R₁ rx h₁=>?_)
    obtain ⟨b,rfl,h₁⟩:=ofBool_inv h₁
    ·obtain rfl:=rx.inv
     refine wpAny_bind (wpAny_standAt (wpAny_bind (wpAny_holding (wpAny_truthy_bool ?_))))
     cases b with
     | false=>exact wpAny_mono (svOr G cx (fun a ha=>ih a (List.mem_cons_of_mem _ ha)) (x'::xs) hc.2 Q m₁ h₁ pos s₁ ρ₁ R₁) (Out.back t1) (Er.back t1)
     | true=>exact wpAny_pure (Out.back t1 _ _ (outSame R₁ (.bool _) h₁))
theorem sv_cst (G:GOk C) (cx:CxOk C c F n) {v:MV} :SV C X n c F (.cst v):=by
 intro e hc Q m h
 replace hc:=onSome_true hc
 obtain ⟨k,hx,hc⟩:=hc
 obtain ⟨_,_,rfl⟩:=xConst_eq hx
 intro s ρ R;exact const_ok R cx.fm hc h
theorem sv_var (G:GOk C) (cx:CxOk C c F n) {i:Nat} :SV C X n c F (.var i):=by
 intro e hc Q m h
 replace hc:=onSome_true hc
 obtain ⟨x,hx,hc⟩:=hc
 obtain ⟨_,rfl⟩:=xName_eq hx
 simp only [Bool.and_eq_true,beq_iff_eq,Bool.not_eq_true'] at hc
 obtain ⟨v,hv,h⟩:=var_inv h
 intro s ρ R;exact load_var cx R hc.1 hv hc.2 h
theorem sv_glob (G:GOk C) (cx:CxOk C c F n) {g:Nat}{v:MV} :SV C X n c F (.glob g v):=by
 intro e hc Q m h
 replace hc:=onSome_true hc
 obtain ⟨x,hx,hc⟩:=hc
 obtain ⟨_,rfl⟩:=xName_eq hx
 simp only [Bool.and_eq_true] at hc
 obtain ⟨h1,h2⟩:=hc
 unfold chkG at h2
 replace h2:=onSome_true h2
 obtain ⟨⟨y,w⟩,hg,h2⟩:=h2
 rw [Bool.and_eq_true] at h2
 obtain ⟨h3,h4⟩:=h2
 obtain ⟨a,ha,h4⟩:=onSome_true h4
 cases eq_of_beq h3
 have e:v=w:=(mvC_back (eq_of_beq h4)).trans (mvC_back ha).symm
 subst e
 intro s ρ R;exact load_gl cx R hg (glName_ok h1).1 (glName_ok h1).2 h
theorem sv_bin (G:GOk C) (cx:CxOk C c F n) {op:Op}{a:ME}{b:ME}(ia:SV C X n c F a) (ib:SV C X n c F b):SV C X n c F (.bin op a b):=by
 intro e hc Q m h
 replace hc:=onSome_true hc
 obtain ⟨⟨l,o,r⟩,hx,hc⟩:=hc
 obtain ⟨p,rfl⟩:=xBin_eq hx
 simp only [Bool.and_eq_true,beq_iff_eq] at hc
 obtain ⟨⟨rfl,ha⟩,hb⟩:=hc
 intro s ρ R
 refine wpAny_BinOp ((ia l ha _ m h).go R (.refl _ _ _) fun ρ₁ s₁ m₁ x v st t1 R₁ rx h₁=>?_)
 refine (ib r hb _ m₁ h₁).go R₁ t1 fun ρ₂ s₂ m₂ y w st' t2 R₂ ry h₂=>?_
 exact wpAny_mono (bin_ok R₂ cx.fm (rx.step st') ry h₂) (Out.back t2) fun _ _ x=>x
theorem sv_neg (G:GOk C) (cx:CxOk C c F n) {a:ME}(ia:SV C X n c F a):SV C X n c F (.neg a):=by
 intro e hc Q m h
 replace hc:=onSome_true hc
 obtain ⟨⟨o,x⟩,hx,hc⟩:=hc
 obtain ⟨p,rfl⟩:=xUn_eq hx
 simp only [Bool.and_eq_true,beq_iff_eq] at hc
 obtain ⟨rfl,hc⟩:=hc
 intro s ρ R
 refine wpAny_UnaryOp ((ia _ hc _ m h).go R (.refl _ _ _) fun ρ₁ s₁ m₁ x v st t1 R₁ rx h₁=>?_)
 obtain ⟨i,rfl,h₁⟩:=onI_inv h₁
 obtain ⟨t,rfl⟩:=rx.inv
 exact PyProof.Rows.neg_int (Out.back t1 _ _ (outTok R₁ cx.fm (.int _ _) h₁))
theorem sv_not (G:GOk C) (cx:CxOk C c F n) {a:ME}(ia:SV C X n c F a):SV C X n c F (.not a):=by
 intro e hc Q m h
 replace hc:=onSome_true hc
 obtain ⟨⟨o,x⟩,hx,hc⟩:=hc
 obtain ⟨p,rfl⟩:=xUn_eq hx
 simp only [Bool.and_eq_true,beq_iff_eq] at hc
 obtain ⟨rfl,hc⟩:=hc
 intro s ρ R
 refine wpAny_UnaryOp ((ia _ hc _ m h).go R (.refl _ _ _) fun ρ₁ s₁ m₁ x v st t1 R₁ rx h₁=>?_)
 obtain ⟨b,rfl,h₁⟩:=ofBool_inv h₁
 obtain rfl:=rx.inv
 exact not_value (wpAny_truthy_bool (Out.back t1 _ _ (outSame R₁ (.bool _) h₁)))
theorem sv_and (G:GOk C) (cx:CxOk C c F n) {es:List ME}(ies:∀a∈es,SV C X n c F a):SV C X n c F (.and es):=by
 intro e hc Q m h
 replace hc:=onSome_true hc
 obtain ⟨⟨o,xs⟩,hx,hc⟩:=hc
 obtain ⟨p,rfl⟩:=xBool_eq hx
 simp only [Bool.and_eq_true,beq_iff_eq] at hc
 obtain ⟨rfl,hc⟩:=hc
 exact svAnd G cx ies _ hc Q m h _
theorem sv_or (G:GOk C) (cx:CxOk C c F n) {es:List ME}(ies:∀a∈es,SV C X n c F a):SV C X n c F (.or es):=by
 intro e hc Q m h
 replace hc:=onSome_true hc
 obtain ⟨⟨o,xs⟩,hx,hc⟩:=hc
 obtain ⟨p,rfl⟩:=xBool_eq hx
 simp only [Bool.and_eq_true,beq_iff_eq] at hc
 obtain ⟨rfl,hc⟩:=hc
 exact svOr G cx ies _ hc Q m h _
theorem cmp_two (G:GOk C) (cx:CxOk C c F n) {op:Cmp}{x y:MV}{v w:Value}{ρ ρ₀:List Addr}{s s₀:Shared}{m:MS}{A:Around}(hA:A.units+1001<cLine) {E:Value→Shared→Prop}{P:Bool→MS→Prop}{Q:Value→Shared→Prop}(R:Rel C F ρ m s) (t:Step F.W ρ₀ s₀ ρ s) (rx:Rep C ρ s.heap x v) (ry:Rep C ρ s.heap y w) (h:wpCmp op x y P m)
  (k:∀b ρ' m' s',Step F.W ρ s ρ' s'→Step F.W ρ₀ s₀ ρ' s'→Rel C F ρ' m' s'→P b m'→Q (.bool b) s'):wpAny (mod C) A (compareOp (cmpIs op) v w) Q E s:=
 wpAny_mono (cmp_ok G R.hp rx ry hA h) (fun v s' hv=>by
  obtain ⟨b,rfl,m',st,R',hq⟩:=outOfB R cx.fm hv
  exact k b _ m' s' st (t.trans st) R' hq) fun _ _ x=>x
theorem cmp_trees (G:GOk C) (cx:CxOk C c F n) {op:Cmp}{a b:ME}(ia:SV C X n c F a) (ib:SV C X n c F b) {l r:Expr}(ha:chkE c a l=true) (hb:chkE c b r=true) {P:Bool→MS→Prop}{m:MS}{s:Shared}{ρ:List Addr}(R:Rel C F ρ m s)
  (h:wpE (Call C) n a (fun x m=>wpE (Call C) n b (fun y m=>wpCmp op x y P m) X m) X m) {Q:Value→Shared→Prop}(k:∀b ρ' m' s',Step F.W ρ s ρ' s'→Rel C F ρ' m' s'→P b m'→Q (.bool b) s') :
  wpAny (mod C) F.A (eval l F.env) (fun v s₁=>wpAny (mod C) F.A (eval r F.env) (fun w s₂=>wpAny (mod C) F.A (compareOp (cmpIs op) v w) Q (Er C F X ρ s) s₂) (Er C F X ρ s) s₁) (Er C F X ρ s) s:=by
 refine (ia l ha _ m h).go R (.refl _ _ _) fun ρ₁ s₁ m₁ x v st t1 R₁ rx h₁=>?_
 refine (ib r hb _ m₁ h₁).go R₁ t1 fun ρ₂ s₂ m₂ y w st' t2 R₂ ry h₂=>?_
 exact cmp_two G cx cx.u R₂ t2 (rx.step st') ry h₂ fun b ρ' m' s' _ st R' hq=>k b ρ' m' s' st R' hq
theorem sv_cmp (G:GOk C) (cx:CxOk C c F n) {op:Cmp}{a:ME}{b:ME}(ia:SV C X n c F a) (ib:SV C X n c F b):SV C X n c F (.cmp op a b):=by
 intro e hc Q m h
 replace hc:=onSome_true hc
 obtain ⟨⟨l,os,rs⟩,hxx,hc⟩:=hc
 replace hc:=onSome_true hc
 obtain ⟨o,ho,hc⟩:=hc
 replace hc:=onSome_true hc
 obtain ⟨r,hr,hc⟩:=hc
 cases one_eq ho
 cases one_eq hr
 obtain ⟨p,rfl⟩:=xCmp_eq hxx
 simp only [Bool.and_eq_true,beq_iff_eq] at hc
 obtain ⟨⟨⟨rfl,hx⟩,ha⟩,hb⟩:=hc
 intro s ρ R
 exact wpAny_Compare1 (cmp_trees G cx ia ib ha hb R h fun b ρ' m' s' st R' hq=>⟨_,_,_,st,R',.bool b,hq⟩) (okX_marks hx _)
theorem isNn_eq {p:Bool}{ρ:List Addr}{h:Heap}{x:MV}{v:Value}(rx:Rep C ρ h x v):isNn p x=(if p then (v==Value.none) else !(v==Value.none)):=by
 cases p with
 | true=>exact Rep.casesOn (motive_1:=fun x v _=>isNn true x=(v==Value.none)) rx rfl (fun _=>rfl) (fun _ _=>rfl) (fun _ _ _=>rfl) (fun _ _ _=>rfl) (fun _=>rfl) (fun _ _ _=>rfl) (fun _ _ _ _=>rfl) (fun _ _ _=>rfl) (fun _ _ _=>rfl)
 | false=>exact Rep.casesOn (motive_1:=fun x v _=>isNn false x=!(v==Value.none)) rx rfl (fun _=>rfl) (fun _ _=>rfl) (fun _ _ _=>rfl) (fun _ _ _=>rfl) (fun _=>rfl) (fun _ _ _=>rfl) (fun _ _ _ _=>rfl) (fun _ _ _=>rfl) (fun _ _ _=>rfl)
theorem isN_tree (G:GOk C) (cx:CxOk C c F n) {p:Bool}{a:ME}(ia:SV C X n c F a) {l:Expr}(ha:chkE c a l=true) {P:Bool→MS→Prop}{m:MS}{s:Shared}{ρ:List Addr}(R:Rel C F ρ m s) (h:wpE (Call C) n a (fun x m=>P (isNn p x) m) X m) {Q:Value→Shared→Prop}
  (k:∀b ρ' m' s',Step F.W ρ s ρ' s'→Rel C F ρ' m' s'→P b m'→Q (.bool b) s') {j:Nat}{q:Pos} :
  wpAny (mod C) F.A (eval l F.env) (fun v s₁=>wpAny (mod C) F.A (eval (.Constant .none j q) F.env) (fun w s₂=>wpAny (mod C) F.A (compareOp (if p then .Is else .IsNot) v w) Q (Er C F X ρ s) s₂) (Er C F X ρ s) s₁) (Er C F X ρ s) s:=by
 refine (ia l ha _ m h).go R (.refl _ _ _) fun ρ₁ s₁ m₁ x v st t1 R₁ rx h₁=>wpAny_Constant_none ?_
 rw [isNn_eq rx] at h₁
 have h₂:=k _ ρ₁ m₁ s₁ t1 R₁ h₁
 cases p with
 | true=>exact is_none h₂
 | false=>exact isNot_none h₂
theorem sv_isN (G:GOk C) (cx:CxOk C c F n) {p:Bool}{a:ME}(ia:SV C X n c F a):SV C X n c F (.isN p a):=by
 intro e hc Q m h
 replace hc:=onSome_true hc
 obtain ⟨⟨l,os,rs⟩,hxx,hc⟩:=hc
 replace hc:=onSome_true hc
 obtain ⟨o,ho,hc⟩:=hc
 replace hc:=onSome_true hc
 obtain ⟨r,hr,hc⟩:=hc
 cases one_eq ho
 cases one_eq hr
 obtain ⟨p2,rfl⟩:=xCmp_eq hxx
 simp only [Bool.and_eq_true,beq_iff_eq] at hc
 obtain ⟨⟨rfl,hn⟩,ha⟩:=hc
 obtain ⟨_,_,rfl⟩:=xConst_eq hn
 intro s ρ R
 exact wpAny_Compare1 (isN_tree (P:=fun b m=>Q (.bool b) m) G cx ia ha R h fun b ρ' m' s' st R' hq=>⟨_,_,_,st,R',.bool b,hq⟩) rfl
theorem sv_call (G:GOk C) (cx:CxOk C c F n) {f:Nat}{args:List ME}(iargs:∀a∈args,SV C X n c F a):SV C X n c F (.call f args):=by
 intro e hc Q m h
 replace hc:=onSome_true hc
 obtain ⟨⟨x,ys,pos⟩,hx,hc⟩:=hc
 obtain ⟨px,rfl⟩:=xFn_eq hx
 simp only [Bool.and_eq_true,beq_iff_eq,Bool.not_eq_true'] at hc
 obtain ⟨⟨⟨⟨hg,hf⟩,hne⟩,hnh⟩,ha⟩:=hc
 have hh:F.A.handled=none∨C.hf f=true:=by
  rcases Bool.or_eq_true_iff.mp hnh with q | q
  ·exact .inl (cx.hn q)
  ·exact .inr (cx.hf▸q)
 intro s ρ R
 refine PyProof.Rows.Call_Name rfl (load_fn cx R hf (glName_ok hg).1 (glName_ok hg).2 fun a hfa=>?_)
 have ha':=svEs G cx iargs ys ha _ m h pos
 have hp:=trees_plain ha pos F.env
 have hn:=okX_first ha hne pos F.env
 obtain ⟨⟨b,t⟩,trees,et⟩:=List.exists_cons_of_ne_nil hn
 rw [et] at ha' hp ⊢
 simp only [List.any_cons,Bool.or_eq_false_iff] at hp
 obtain ⟨rfl,hp⟩:=hp
 obtain ⟨o,fd,ho,hd⟩:=G.fns f a hfa
 refine Calls.callWith_function (o:=o) (fd:=fd) (Calls.evalArgs_plain (ha'.go R (.refl _ _ _) fun ρ₁ s₁ m₁ xs vs st t1 R₁ rl el h₁=>⟨⟨R₁.hp.base _ _ ho,hd⟩,?_⟩))
 refine wpAny_mono (h₁ F m₁ s₁ ρ₁ vs a cx.fm hh rfl R₁ rl cx.room cx.units hfa) (fun v s₂ hv=>?_) fun e s' x=>Er.back t1 e s' (Er.mono (fun k m' ⟨q1,q2⟩=>by rw [←q1] at q2;exact q2) e s' x)
 obtain ⟨ρ₂,m₂,x,st2,R₂,rx,e,hq⟩:=hv
 refine ⟨ρ₂,m₂,x,t1.trans st2,R₂,rx,?_⟩
 rw [←e] at hq;exact hq
theorem sv_mth (G:GOk C) (cx:CxOk C c F n) {k:Me}{o:ME}{args:List ME}(io:SV C X n c F o) (iargs:∀a∈args,SV C X n c F a):SV C X n c F (.mth k o args):=by
 intro e hc Q m h
 replace hc:=onSome_true hc
 obtain ⟨⟨⟨ov,name,apos⟩,ys,pos⟩,hx,hc⟩:=hc
 have ee:=xMeth_eq hx
 subst ee
 simp only [Bool.and_eq_true,beq_iff_eq,decide_eq_true_eq] at hc
 obtain ⟨⟨⟨⟨⟨hn,h0⟩,hl⟩,hz⟩,ho⟩,ha⟩:=hc
 intro s ρ R
 have hp:=trees_plain ha pos F.env
 refine wpAny_Call_method_late (notCall0_base h0 _ _) ?_ (by simp [hl]) rfl ((io ov ho _ m h).go R (.refl _ _ _) fun ρ₁ s₁ m₁ x v st t1 R₁ rx h₁=>?_)
 ·rw [Bool.and_eq_true,Bool.and_eq_true]
  refine ⟨⟨?_,rfl⟩,?_⟩
  ·rw [List.all_eq_true];intro q hq
   rw [List.any_eq_false] at hp
   simpa using hp q hq
  ·simp;exact Nat.le_trans hz (nb rfl)
 ·obtain ⟨hm,h₁⟩:=onT_inv h₁
  refine mth_ok G cx.fm hn t1 R₁ rx hm hp ?_
  exact (svEs G cx iargs ys ha _ m₁ h₁ pos).go R₁ t1 fun ρ₂ s₂ m₂ xs vs st2 t2 R₂ rl _ h₂=>⟨ρ₂,m₂,xs,st2,R₂,rl,h₂⟩
theorem sv_idx (G:GOk C) (cx:CxOk C c F n) {o:ME}{i:ME}(io:SV C X n c F o) (ii:SV C X n c F i):SV C X n c F (.idx o i):=by
 intro e hc Q m h
 replace hc:=onSome_true hc
 obtain ⟨⟨v,sl⟩,hxx,hc⟩:=hc
 obtain ⟨p,rfl⟩:=xSub_eq hxx
 simp only [Bool.and_eq_true] at hc
 obtain ⟨⟨hx,ho⟩,hi⟩:=hc
 intro s ρ R
 refine PyProof.Rows.Subscript_ ((io v ho _ m h).go R (.refl _ _ _) fun ρ₁ s₁ m₁ x v st t1 R₁ rx h₁=>?_)
 refine (ii sl hi _ m₁ h₁).go R₁ t1 fun ρ₂ s₂ m₂ y w st' t2 R₂ ry h₂=>?_
 exact wpAny_mono (idx_ok G R₂ cx.fm (rx.step st') ry hx h₂) (Out.back t2) fun _ _ x=>x
theorem sv_sl (G:GOk C) (cx:CxOk C c F n) {o:ME}{lo:Option ME}{hi:Option ME}(io:SV C X n c F o) (ilo:∀a,lo=some a→SV C X n c F a) (ihi:∀a,hi=some a→SV C X n c F a):SV C X n c F (.sl o lo hi):=by
 intro e hc Q m h
 replace hc:=onSome_true hc
 obtain ⟨⟨v,sl⟩,hxx,hc⟩:=hc
 replace hc:=onSome_true hc
 obtain ⟨⟨l,u,stp⟩,hx,hc⟩:=hc
 obtain ⟨p1,rfl⟩:=xSlice_eq hx
 obtain ⟨p2,rfl⟩:=xSub_eq hxx
 simp only [Bool.and_eq_true] at hc
 obtain ⟨⟨⟨hs,ho⟩,hlo⟩,hhi⟩:=hc
 cases stp with
 | some=>exact ff hs
 | none=>
 intro s ρ R
 refine PyProof.Rows.Subscript_ ((io v ho _ m h).go R (.refl _ _ _) fun ρ₁ s₁ m₁ x v st t1 R₁ rx h₁=>?_)
 refine wpAny_Slice ?_
 refine (svO G cx ilo l hlo _ m₁ h₁) s₁ ρ₁ R₁ _ _ _ t1 fun ρ₂ s₂ m₂ a va st2 t2 R₂ ra h₂=>?_
 refine (svO G cx ihi u hhi _ m₂ h₂) s₂ ρ₂ R₂ _ _ _ t2 fun ρ₃ s₃ m₃ b vb st3 t3 R₃ rb h₃=>?_
 rw [evalPart_none]
 refine wpAny_pure ?_
 have ra':PartRep C ρ₃ s₃.heap a va:=by
  cases a with
  | none=>exact ra
  | some a=>exact ra.step st3
 exact wpAny_mono (sl_ok R₃ cx.fm ((rx.step st2).step st3) ra' rb h₃) (Out.back t3) fun _ _ x=>x
theorem sv_list (G:GOk C) (cx:CxOk C c F n) {es:List ME}(ies:∀a∈es,SV C X n c F a):SV C X n c F (.list es):=by
 intro e hc Q m h
 replace hc:=onSome_true hc
 obtain ⟨xs,hxx,hc⟩:=hc
 obtain ⟨p,rfl⟩:=xList_eq hxx
 simp only [Bool.and_eq_true,decide_eq_true_eq] at hc
 intro s ρ R
 refine wpAny_List ((svEs G cx ies xs hc.2 _ m h _).go R (.refl _ _ _) fun ρ₁ s₁ m₁ xs vs st t1 R₁ rl el h₁=>?_)
 have hz:xs.length≤line:=el▸Nat.le_trans hc.1 (by decide)
 exact ⟨by rw [rl.length];exact hz,Out.back t1 _ _ (outList R₁ cx.fm rl hz h₁)⟩
theorem sv_tup (G:GOk C) (cx:CxOk C c F n) {es:List ME}(ies:∀a∈es,SV C X n c F a):SV C X n c F (.tup es):=by
 intro e hc Q m h
 replace hc:=onSome_true hc
 obtain ⟨xs,hxx,hc⟩:=hc
 obtain ⟨k,p,rfl⟩:=xTup_eq hxx
 simp only [Bool.and_eq_true,decide_eq_true_eq] at hc
 intro s ρ R
 refine wpAny_Tuple ((svEs G cx ies xs hc.2 _ m h _).go R (.refl _ _ _) fun ρ₁ s₁ m₁ xs vs st t1 R₁ rl el h₁=>?_)
 have hz:xs.length≤line:=el▸Nat.le_trans hc.1 (by decide)
 exact ⟨by rw [rl.length];exact hz,Out.back t1 _ _ (outTup R₁ cx.fm rl hz h₁)⟩
theorem sv_dict0 (G:GOk C) (cx:CxOk C c F n)  :SV C X n c F (.dict0):=by
 intro e hc Q m h
 replace hc:=onSome_true hc
 obtain ⟨⟨ks,vs⟩,hxx,hc⟩:=hc
 obtain ⟨p,rfl⟩:=xDict_eq hxx
 simp only [Bool.and_eq_true,List.isEmpty_iff] at hc
 obtain ⟨rfl,rfl⟩:=hc
 intro s ρ R
 refine wpAny_Dict_empty ?_
 have hk:∀a o,s.heap.get? a=some o→(s.heap.push { cls:=.type "dict",data:=.dict #[] }).get? a=some o:=fun a o e=>Heap.get?_push_of_some _ e
 obtain ⟨R',st⟩:=R.alloc (s':={ s with heap:=s.heap.push { cls:=.type "dict",data:=.dict #[] } }) cx.fm hk rfl rfl (o:=.dict []) (a:=s.heap.objs.size) (fresh_at (Nat.le_refl _))
  ⟨[],Heap.DictOf.new _,.nil,Nat.zero_le _⟩
 exact ⟨_,_,_,st,R',.ref (i:=m.heap.length) (by rw [←R.hp.len,List.getElem?_append_right (Nat.le_refl _)];simp),h⟩
end
end Internal
end
section
namespace Internal
open PySem PyProof.Rows
theorem xSS_no {c:Cx}{b:Bi}{e z:Expr}(hb:∀x y,ssIs b x y=false) {P:Prop}(h:xSS c b e=some z):P:=by
 obtain ⟨q,_,h⟩:=Option.bind_eq_some_iff.mp h
 obtain ⟨y,_,h⟩:=Option.bind_eq_some_iff.mp h
 obtain ⟨r,_,h⟩:=Option.bind_eq_some_iff.mp h
 rw [hb] at h
 exact nos1 h
section
variable {C:Glo}{F:Fm}{X:XM}{ρ:List Addr}{m:MS}{s:Shared}{Q:PQ}{E:Value→Shared→Prop}{A:Around}{h:Heap}{c:Cx}{n:Nat}
theorem ss_ok (G:GOk C) (cx:CxOk C c F n) {args:List ME}(iargs:∀a∈args,SV C X n c F a) {e z:Expr}(hz:xSS c .sortedSet e=some z) (hnh:c.nh=true) (hc:chkEs c args [z]=true) {Q:PQ}{m:MS}(h:wpEs (Call C) n args (fun vs m=>wpBlt .sortedSet vs Q m) X m):WPv C F X (eval e F.env) Q m:=xSS_no (fun _ _=>rfl) hz
theorem rev_ok (cx:CxOk C c F n) {args:List ME}(iargs:∀a∈args,SV C X n c F a) {e z:Expr}(hz:xSS c .listRev e=some z) (hnh:c.nh=true) (hc:chkEs c args [z]=true) {Q:PQ}{m:MS}(h:wpEs (Call C) n args (fun vs m=>wpBlt .listRev vs Q m) X m):WPv C F X (eval e F.env) Q m:=xSS_no (fun _ _=>rfl) hz
theorem blt_all (G:GOk C) (R:Rel C F ρ m s) (ok:FmOk F) {b:Bi}(hh:quietBi b=true∨A.handled=none) {xs:List MV}{vs:List Value}(hl:RepL C ρ s.heap xs vs) {n:Str}{f:Value}(hb:biIs b=some (n,f)) (h:wpBlt b xs Q m):wpAny (mod C) A (call f vs) (Out C F ρ s Q) E s:=by
 by_cases q:b=.sorted
 ·subst q;exact nos1 hb
 ·exact blt_ok G R ok hh hl hb q h
end
end Internal
end
section
namespace Internal
open PySem PyProof.Rows
theorem sv_blt {C:Glo}{F:Fm}{X:XM}{c:Cx}{n:Nat}(G:GOk C) (cx:CxOk C c F n) {b:Bi}{args:List ME}(iargs:∀a∈args,SV C X n c F a):SV C X n c F (.blt b args):=by
 intro e hc Q m h
 cases hb:isSS b with
 | true=>
  have hb':b=.sortedSet∨b=.listRev:=by cases b<;>first | exact .inl rfl | exact .inr rfl | exact ff hb
  rcases hb' with rfl | rfl
  ·replace hc:=onSome_true hc
   obtain ⟨z,hz,hc⟩:=hc
   obtain ⟨hnh,hc⟩:=Bool.and_eq_true_iff.mp hc
   exact ss_ok G cx iargs hz hnh hc h
  ·replace hc:=onSome_true hc
   obtain ⟨z,hz,hc⟩:=hc
   obtain ⟨hnh,hc⟩:=Bool.and_eq_true_iff.mp hc
   exact rev_ok cx iargs hz hnh hc h
 | false=>
  replace hc:(if isSS b=true then _ else _)=true:=hc
  rw [hb] at hc
  replace hc:=onSome_true hc
  obtain ⟨⟨x,ys,pos⟩,hx,hc⟩:=hc
  obtain ⟨px,rfl⟩:=xFn_eq hx
  simp only [Bool.and_eq_true,Bool.not_eq_true'] at hc
  obtain ⟨⟨⟨⟨hnh,hg⟩,hf⟩,hne⟩,ha⟩:=hc
  have hh:quietBi b=true∨F.A.handled=none:=by
   rcases Bool.or_eq_true_iff.mp hnh with q | q
   ·exact .inr (cx.hn q)
   ·exact .inl q
  replace hf:=onSome_true hf
  obtain ⟨⟨z,f⟩,hb,hf⟩:=hf
  cases eq_of_beq hf
  intro s ρ R
  refine PyProof.Rows.Call_Name rfl (load_blt cx R (bi_mem hb) (glName_ok hg).1 (glName_ok hg).2 ?_)
  refine call_args (bi_fun hb) (trees_plain ha _ _) (okX_first ha hne _ _) ?_
  refine (svEs G cx iargs ys ha _ m h pos).go R (.refl _ _ _) fun ρ₁ s₁ m₁ xs vs st t1 R₁ rl el h₁=>?_
  exact wpAny_mono (blt_all G R₁ cx.fm hh rl hb h₁) (Out.back t1) fun _ _ x=>x
end Internal
end
section
namespace Internal
open PySem PyProof.Rows
theorem obj_attr {x:Str}(h:attrNames.contains x=true):typeLookup (.type "object") x=pure none:=by
 have key:∀y∈attrNames,typeLookup (.type "object") y=pure none:=by
  intro y hy
  simp only [attrNames,List.mem_cons,List.not_mem_nil,or_false] at hy
  rcases hy with rfl | rfl | rfl | rfl | rfl | rfl<;>(rw [typeLookup_type,builtinLookup_eq_fast];kernel_rfl)
 exact key x (by simpa using h)
theorem obj_meth {x:Str}(h:methNames.contains x=true):typeLookup (.type "object") x=pure none:=by
 have key:∀y∈methNames,typeLookup (.type "object") y=pure none:=by
  intro y hy
  simp only [methNames,List.mem_cons,List.not_mem_nil,or_false] at hy
  rcases hy with rfl | rfl | rfl | rfl | rfl | rfl | rfl | rfl<;>(rw [typeLookup_type,builtinLookup_eq_fast];kernel_rfl)
 exact key x (by simpa using h)
theorem str_of {x:Str}{y:List Nat}(h:(x.cps.toList==y)=true):x=str y:=by
 rw [←eq_of_beq h]
section
variable {C:Glo}{F:Fm}{X:XM}{c:Cx}{n:Nat}{ρ:List Addr}{m:MS}{s:Shared}{E:Value→Shared→Prop}{A:Around}
inductive ClsO (h:Heap) (K N:Addr):Prop
 | mk (nm q:Str) (bs:List Value) (sn:List Str) (sub:List Value) (col:Option Bool) (dd:Option Addr) (k0 k1 k2 k3 k5:Option Value) (e:h.get? K=some (excClassObj nm q K N bs [.type "object"] true sn sub false col dd k0 k1 k2 k3 k5 "object.__new__"))
theorem cls_o {h:Heap}{K N:Addr}{m:Str→Option Value}(x:ClsAt h K N m):ClsO h K N:=by
 obtain ⟨nm,q,bs,sn,sub,col,dd,k0,k1,k2,k3,k5,e⟩:=x.obj
 exact ⟨nm,q,bs,sn,sub,col,dd,k0,k1,k2,k3,k5,e⟩
inductive InstR (C:Glo) (ρ:List Addr) (h:Heap) (k i:Nat) (es:List (List Nat × MV)) (v:Value):Prop
 | mk (a K N d:Addr) (mA:Str→Option Value) (ev:v=.ref a) (hc:C.ca k=some K) (hN:ClsAt h K N (C.cm k)) (hao:h.get? a=some (instO K d)) (hρ:ρ[i]?=some d) (hns:h.Ns1 d mA) (I:h.Inst a K mA) (had:a≠d) (haK:a≠K)
   (h1:∀x v,dget es x=some v→∃w,mA (str x)=some w∧Rep C ρ h v w) (h2:∀x,dget es x=none→mA (str x)=none)
theorem inst_rep (G:GOk C) (R:Rel C F ρ m s) {k i:Nat}{v:Value}(hx:Rep C ρ s.heap (.inst k i) v) {es:List (List Nat × MV)}(hi:m.heap[i]?=some (.attrs es)):InstR C ρ s.heap k i es v:=by
 obtain ⟨a,K,d,rfl,hc,hd,ha⟩:=hx.inv
 obtain ⟨mA,hn,h1,h2,h3⟩:=R.hp.objs _ _ _ hi hd
 obtain ⟨N,hN⟩:=G.cls k K hc
 have hN':=hN.keeps fun b o e=>R.hp.base b o e
 have had:a≠d:=fun q=>by
  subst q
  obtain ⟨o,es',ep,e,hdat,_⟩:=hn
  obtain rfl:=same ha e
  exact nomatch hdat
 have haK:a≠K:=fun q=>by
  subst q
  obtain ⟨nm,q,bs,sn,sub,col,dd,k0,k1,k2,k3,k5,e⟩:=cls_o hN'
  exact nomatch congrArg Obj.data (same ha e)
 exact ⟨a,K,N,d,mA,rfl,hc,hN',ha,hd,hn,⟨_,ha,rfl,fun c=>by simp,.inr ⟨d,rfl,Ne.symm had,hn⟩⟩,had,haK,h1,h2⟩
theorem handed {x:MV}{v:Value}{ρ:List Addr}{h:Heap}(r:Rep C ρ h x v):handedOut v=pure v:=
 Rep.casesOn (motive_1:=fun x v _=>handedOut v=pure v) r rfl (fun _=>rfl) (fun _ _=>rfl) (fun _ _ _=>rfl) (fun _ _ _=>rfl) (fun _=>rfl) (fun _ _ _=>rfl) (fun _ _ _ _=>rfl) (fun _ _ _=>rfl) (fun _ _ _=>rfl)
theorem attr_ok (G:GOk C) (cx:CxOk C c F n) (R:Rel C F ρ m s) {k:Nat}{x:List Nat}{y:Str}{v:MV}{w:Value}(hx:Rep C ρ s.heap v w) (hy:y=str x) (hno:attrNames.contains y=true) (ha:c.at_ k y=true) {Q:PQ}(h:wpAttr k x v Q m) :
  wpAny (mod C) A (getAttr w y true) (Out C F ρ s Q) E s:=by
 obtain ⟨i,rfl,h3⟩:=onIn_inv h
 obtain ⟨es,hi,h3⟩:=onAs_inv h3
 obtain ⟨u,hg,h3⟩:=onO_inv h3
 obtain ⟨a,K,N,da,mA,rfl,hc,hN,_,_,_,I,_,_,h1,_⟩:=inst_rep G R hx hi
 obtain ⟨z,hz,rz⟩:=h1 x u hg
 obtain ⟨q1,q2,q3⟩:=G.quiet _ _ hc
 obtain ⟨nm,q,bs,sn,sub,col,dd,k0,k1,k2,k3,k5,e⟩:=cls_o hN
 obtain ⟨hp,gg,dr,t,os⟩:=s
 subst hy
 exact load_attr e hN.ns q2 (cx.attr _ _ ha) (obj_attr hno) I hz (handed rz) (outTok R cx.fm rz h3)
theorem sv_attr (G:GOk C) (cx:CxOk C c F n) {k:Nat}{o:ME}{x:List Nat}(io:SV C X n c F o):SV C X n c F (.attr k o x):=by
 intro e hc Q m h
 replace hc:=onSome_true hc
 obtain ⟨⟨ov,name,apos⟩,hx,hc⟩:=hc
 have ee:=xAttr_eq hx
 subst ee
 dsimp only at hc
 obtain ⟨hc,ho⟩:=and_t hc
 obtain ⟨hc,h0⟩:=and_t hc
 obtain ⟨hc,hat⟩:=and_t hc
 obtain ⟨hn,hno⟩:=and_t hc
 have hn:=eq_of_beq hn
 have e0:=view_at (eq_of_beq h0) rfl
 rw [e0] at ho ⊢
 intro s ρ R
 refine Attribute_Name_ ((io _ ho _ m h).go R (.refl _ _ _) fun ρ₁ s₁ m₁ x v st t1 R₁ rx h₁=>?_)
 exact wpAny_mono (attr_ok G cx R₁ rx (str_of (by rw [hn];exact beq_self_eq_true _)) hno hat h₁) (Out.back t1) fun _ _ x=>x
end
end Internal
end
section
set_option maxRecDepth 100000
namespace Internal
open PySem PyProof.Rows
section
variable {prog:Program}{w:World}{A:Around}{E:Value→Shared→Prop}{h:Heap}{g:Array GenState}{d:Drawn}{t:Nat}{os:OsState}
variable {nm q:Str}{K N:Addr}{bs:List Value}{sn:List Str}{sub:List Value}{col:Option Bool}{dd:Option Addr}{k0 k1 k2 k3 k5:Option Value}
noncomputable abbrev withInst (h:Heap) (K:Addr):Heap:=(h.push { cls:=.type "dict",data:=.dict #[] }).push (instO K h.objs.size)
theorem make_inst {mN:Str→Option Value}{rest:List Value}{fI:Addr}{oI:Obj}{Q:Fin→Shared→Prop}
  (hC:h.get? K=some (excClassObj nm q K N bs [.type "object"] true sn sub false col dd k0 k1 k2 k3 k5 "object.__new__")) (hn:h.Ns N mN) (hi:mN "__init__"=some (.ref fI)) (hfI:h.get? fI=some oI) (hfc:oI.cls=.type "function")
  (hq:wpAny (model prog w) A (call (.ref fI) (.ref (h.objs.size+1)::rest)) (fun r s'=>r=.none∧Q (.done (.ret (.ref (h.objs.size+1)))) s') E ⟨withInst h K,g,d,t,os⟩) :
  wpAny (model prog w) A (Builtin.«type.__call__» ⟨.ref K::rest,[]⟩) Q E ⟨h,g,d,t,os⟩:=by
 have hmro:=F.mro_object
 have hlk:typeLookup (.type "object") "__init__"=pure (some (.builtin "object.__init__")):=by rw [typeLookup_type,builtinLookup_eq_fast];kernel_rfl
 repeat (first | with_reducible refine wpAny_loadPart_at hC ?_ | with_reducible refine wpAny_madeBy_exc hC ?_ | wp_step)
 refine codeAny_call_builtin_code (Code.quiet_builtin _ F.objNew.quiet) (wpAny_check_obj_new F.objNew hC (codeAny_obj_new F.objNew hC hn hi ?_))
 show wpAny _ _ _ _ _ _
 have up:∀{b o},h.get? b=some o→(withInst h K).get? b=some o:=fun e=>Heap.get?_push_of_some _ (Heap.get?_push_of_some _ e)
 have hn₁:(withInst h K).Ns N mN:=let ⟨o,es,ep,e,r⟩:=hn;⟨o,es,ep,up e,r⟩
 have hget:(withInst h K).get? (h.objs.size+1)=some (instO K h.objs.size):=by heap_get
 have hcC:(Value.ref K::[Value.type "object"]).contains (.ref K)=true:=by simp
 unfold isInstance
 repeat (first | with_reducible refine wpAny_loadPart_at hget ?_ | (with_reducible refine wpAny_isSubtype_exc (up hC) ?_;rw [hcC]) | wp_step)
 show wpAny _ _ (typeLookup (.ref K) _) _ _ _
 refine wpAny_typeLookup_exc (up hC) hn₁ hmro hlk ?_
 rw [hi]
 refine wpAny_holding (wpAny_bind ?_)
 unfold bindSpecial
 refine wpAny_bind (wpAny_typeOf (T:="function") ⟨_,up hfI,hfc⟩ ?_)
 rw [if_pos (by decide)]
 refine wpAny_pure (wpAny_bind (wpAny_mono hq (fun r s' hr=>?_) fun _ _ x=>x))
 obtain ⟨rfl,hQ⟩:=hr
 wp_walk
 exact hQ
theorem call_cls {mN:Str→Option Value}{rest:List Value}{fI:Addr}{oI:Obj}{Q:Value→Shared→Prop}
  (hC:h.get? K=some (excClassObj nm q K N bs [.type "object"] true sn sub false col dd k0 k1 k2 k3 k5 "object.__new__")) (hn:h.Ns N mN) (hi:mN "__init__"=some (.ref fI)) (hfI:h.get? fI=some oI) (hfc:oI.cls=.type "function")
  (hq:wpAny (model prog w) (A.under (.builtin "type.__call__" ⟨.ref K::rest,[]⟩)) (call (.ref fI) (.ref (h.objs.size+1)::rest)) (fun r s'=>r=.none∧Q (.ref (h.objs.size+1)) s') E ⟨withInst h K,g,d,t,os⟩) :
  wpAny (model prog w) A (call (.ref K) rest) Q E ⟨h,g,d,t,os⟩:=by
 have f1:=tc_lookup
 have f2:=tc_bind (.ref K)
 have hT:(⟨h,g,d,t,os⟩:Shared).TypeIs (.ref K) "type":=⟨_,hC,rfl⟩
 refine wpAny_call (codeAny_of_tree ?_)
 show wpAny _ _ (callAny (.ref K) _) _ _ _
 repeat (any_goals (first | assumption | with_reducible refine wpAny_loadPart_at hC ?_ | wp_step))
 refine ⟨rfl,?_⟩
 refine codeAny_call_builtin_at (Code.quiet_builtin _ (by decide +kernel)) entry_typeCall (wpAny_check_type_call_sub hC (make_inst hC hn hi hfI hfc ?_))
 exact hq
end
section
variable {M:Model}{A:Around}{E:Value→Shared→Prop}{s:Shared}{env:Env}
theorem wp_umeth {o:Expr}{name:Str}{apos pos:Pos}{args:List Expr}{Q:Value→Shared→Prop}(hbase:attributeBase o name env (eval o env)=eval o env)
  (hfew:((backTo pos (starEach args env)).all (fun x=>!x.1)&&(backToKw pos (keywordEach [] env)).all (fun x=>x.1.isSome)&&decide (args.length+([]:List Keyword).length+(if ([]:List Keyword).isEmpty then 0 else 1)<30))=true)
  (hline:(apos.endLine==pos.line)=true)
  (h:wpAny M A (eval o env) (fun ov s₁=>∀pl,wpAny M A (getMethod ov name pl) (fun fx s₂=>wpAny M A (callWith pos fx.1 fx.2 (backTo pos (starEach args env)) []) Q E s₂) E s₁) E s) :
  wpAny M A (eval (.Call (.Attribute o name apos) args [] pos) env) Q E s:=by
 rw [arm_eval_Call,hbase]
 refine wpAny_bind (wpAny_mono h (fun ov s₁ h₁=>?_) fun _ _ e=>e)
 refine wpAny_bind (wpAny_standAt ?_)
 have hform:methodCallForm (args.length+([]:List Keyword).length) (backTo pos (starEach args env)) (backToKw pos (keywordEach [] env))=true:=hfew
 have hpos:methodCallPos true o env apos pos=pure pos:=by unfold methodCallPos;simp [hline]
 unfold methodCall
 rw [hform]
 refine wpAny_bind (wpAny_holding (wpAny_mono (h₁ _) (fun fx s₂ h₂=>?_) fun _ _ e=>e))
 exact wpAny_bind (wpAny_of_eq hpos h₂)
end
end Internal
end
section
namespace Internal
open PySem PyProof.Rows
section
variable {C:Glo}{F:Fm}{X:XM}{c:Cx}{n:Nat}
theorem umOk_inv {k:Nat}{x:List Nat}{v:MV}{hp:List MO}(h:umOk k x v hp=true):∃i es,v=.inst k i∧hp[i]?=some (.attrs es)∧dget es x=none:=by
 cases v with
 | inst d i=>
  replace h:(match hp[i]? with
   | some (.attrs es)=>k==d&&(dget es x).isNone
   | _=>false)=true:=h
  cases hi:hp[i]? with
  | none=>rw [hi] at h;exact ff h
  | some o=>
   rw [hi] at h
   cases o with
   | attrs es=>
    obtain ⟨h1,h2⟩:=and_t h
    obtain rfl:=eq_of_beq h1
    exact ⟨i,es,rfl,hi,Option.isNone_iff_eq_none.mp h2⟩
   | _=>exact ff h
 | _=>exact ff h
theorem meth_load (G:GOk C) (cx:CxOk C c F n) {ρ:List Addr}{m:MS}{s:Shared}{A:Around}{E:Value→Shared→Prop}(R:Rel C F ρ m s) {k f:Nat}{x:List Nat}{y:Str}{v:MV}{w:Value}(hx:Rep C ρ s.heap v w) (hu:umOk k x v m.heap=true) (hy:y=str x)
  (hno:methNames.contains y=true) (hm:c.mt f=some (k,y)) {Q:Value × List Value→Shared→Prop}{pl:Sem Bool}(h:∀a,C.fa f=some a→Q (.ref a,[w]) s):wpAny (mod C) A (getMethod w y pl) Q E s:=by
 obtain ⟨i,es,rfl,hi,hd⟩:=umOk_inv hu
 obtain ⟨a,K,N,da,mA,rfl,hc,hN,_,_,_,I,_,_,_,h2⟩:=inst_rep G R hx hi
 obtain ⟨q1,q2,q3⟩:=G.quiet _ _ hc
 obtain ⟨fa,ef,em,of,ho,hcl⟩:=cx.meth _ _ _ hm
 obtain ⟨nm,q,bs,sn,sub,col,dd,k0,k1,k2,k3,k5,e⟩:=cls_o hN
 have ho':=R.hp.base _ _ ho
 obtain ⟨hp,gg,dr,t,os⟩:=s
 subst hy
 exact method_of e hN.ns q2 q3 em ho' hcl (obj_meth hno) I (h2 x hd) (h fa ef)
theorem sv_umth (G:GOk C) (cx:CxOk C c F n) {k f:Nat}{x:List Nat}{o:ME}{args:List ME}(io:SV C X n c F o) (iargs:∀a∈args,SV C X n c F a):SV C X n c F (.umth k f x o args):=by
 intro e hc Q m h
 replace hc:=onSome_true hc
 obtain ⟨⟨⟨ov,name,apos⟩,ys,pos⟩,hx,hc⟩:=hc
 have ee:=xMeth_eq hx
 subst ee
 simp only [Bool.and_eq_true,beq_iff_eq,decide_eq_true_eq] at hc
 obtain ⟨⟨⟨⟨⟨⟨⟨⟨hn,hno⟩,hm⟩,h0⟩,hl⟩,hz⟩,hnh⟩,ho⟩,ha⟩:=hc
 have hh:F.A.handled=none∨C.hf f=true:=by
  rcases Bool.or_eq_true_iff.mp hnh with q | q
  ·exact .inl (cx.hn q)
  ·exact .inr (cx.hf▸q)
 have hy:name=str x:=str_of (by rw [hn];exact beq_self_eq_true _)
 have e0:=view_at h0 rfl
 rw [e0] at ho ⊢
 intro s ρ R
 have hp:=trees_plain ha pos F.env
 refine wp_umeth rfl ?_ (by simp [hl]) ((io _ ho _ m h).go R (.refl _ _ _) fun ρ₁ s₁ m₁ v w st t1 R₁ rx h₁ pl=>?_)
 ·rw [Bool.and_eq_true,Bool.and_eq_true]
  refine ⟨⟨?_,rfl⟩,?_⟩
  ·rw [List.all_eq_true];intro q hq
   rw [List.any_eq_false] at hp
   simpa using hp q hq
  ·simp;exact Nat.le_trans hz (nb rfl)
 ·obtain ⟨hu,h₁⟩:=onT_inv h₁
  refine meth_load G cx R₁ rx hu hy hno hm fun a hfa=>?_
  obtain ⟨of,fd,hof,hd⟩:=G.fns f a hfa
  have fin:∀ρ₂ s₂ m₂ xs vs,Step F.W ρ₁ s₁ ρ₂ s₂→Step F.W ρ s ρ₂ s₂→Rel C F ρ₂ m₂ s₂→RepL C ρ₂ s₂.heap xs vs→Call C n f (v::xs) (fun v h=>Q v ⟨m₂.vars,h⟩) (fun c h=>X c ⟨m₂.vars,h⟩) m₂.heap→wpAny (mod C) F.A (call (.ref a) (w::vs)) (Out C F ρ s Q) (Er C F X ρ s) s₂:=by
   intro ρ₂ s₂ m₂ xs vs st2 t2 R₂ rl h₂
   refine wpAny_mono (h₂ F m₂ s₂ ρ₂ (w::vs) a cx.fm hh rfl R₂ (.cons (rx.step st2) rl) cx.room cx.units hfa) (fun v s₃ hv=>?_) fun e s' x=>Er.back t2 e s' (Er.mono (fun k m' ⟨q1,q2⟩=>by rw [←q1] at q2;exact q2) e s' x)
   obtain ⟨ρ₃,m₃,x,st3,R₃,rx,e,hq⟩:=hv
   refine ⟨ρ₃,m₃,x,t2.trans st3,R₃,rx,?_⟩
   rw [←e] at hq;exact hq
  cases ys with
  | nil=>
   cases args with
   | nil=>exact callWith_meth0 hd (R₁.hp.base _ _ hof) (fin ρ₁ s₁ m₁ [] [] (.refl _ _ _) t1 R₁ .nil h₁)
   | cons=>exact ff ha
  | cons y ys=>
   have ha':=svEs G cx iargs _ ha _ m₁ h₁ pos
   have hne:=okX_first ha rfl pos F.env
   obtain ⟨⟨b,t⟩,trees,et⟩:=List.exists_cons_of_ne_nil hne
   rw [et] at ha' hp
   show wpAny (mod C) F.A (callWith pos (.ref a) [w] (backTo pos (starEach (y::ys) F.env)) []) _ _ _
   rw [et]
   simp only [List.any_cons,Bool.or_eq_false_iff] at hp
   obtain ⟨rfl,hp⟩:=hp
   refine Calls.callWith_function (o:=of) (fd:=fd) (Calls.evalArgs_plain (ha'.go R₁ t1 fun ρ₂ s₂ m₂ xs vs st2 t2 R₂ rl el h₂=>⟨⟨R₂.hp.base _ _ hof,hd⟩,?_⟩))
   exact fin ρ₂ s₂ m₂ xs vs st2 t2 R₂ rl h₂
end
end Internal
end
section
namespace Internal
open PySem PyProof.Rows
section
variable {C:Glo}{F:Fm}{X:XM}{c:Cx}{n:Nat}
theorem onNone_inv {v:MV}{P:Prop}(h:onNone v P):v=.none∧P:=by
 cases v with
 | none=>exact ⟨rfl,h⟩
 | _=>exact h.elim
theorem make_ok (G:GOk C) (cx:CxOk C c F n) {k f j:Nat}(hj:n=j+1) (hm:c.mt f=some (k,("__init__":Str))) {K:Addr}(hK:C.ca k=some K) (hh:F.A.handled=none) {ρ:List Addr}{m:MS}{s:Shared}(R:Rel C F ρ m s) {xs:List MV}{vs:List Value}(rl:RepL C ρ s.heap xs vs) {Q:PQ}
  (h:Call C j f (.inst k m.heap.length::xs) (fun v h=>onNone v (Q (.inst k m.heap.length) ⟨m.vars,h⟩)) (fun c h=>X c ⟨m.vars,h⟩) (m.heap++[.attrs []])) :
  wpAny (mod C) F.A (call (.ref K) vs) (Out C F ρ s Q) (Er C F X ρ s) s:=by
 obtain ⟨N,hN⟩:=G.cls k K hK
 have hN':=hN.keeps fun b o e=>R.hp.base b o e
 obtain ⟨nm,q,bs,sn,sub,col,dd,k0,k1,k2,k3,k5,e⟩:=cls_o hN'
 obtain ⟨fa,ef,em,of,ho,hcl⟩:=cx.meth _ _ _ hm
 have ho':=R.hp.base _ _ ho
 obtain ⟨hp,gg,dr,t,os⟩:=s
 refine call_cls e hN'.ns em ho' hcl ?_
 have hk:∀a o,hp.get? a=some o→(withInst hp K).get? a=some o:=fun a o e=>Heap.get?_push_of_some _ (Heap.get?_push_of_some _ e)
 have hd1:(withInst hp K).get? hp.objs.size=some { cls:=.type "dict",data:=.dict #[] }:=by heap_get
 have hd2:(withInst hp K).get? (hp.objs.size+1)=some (instO K hp.objs.size):=by heap_get
 have hns:(withInst hp K).Ns1 hp.objs.size fun _=>none:=Heap.Ns1.of_empty ⟨_,#[],_,hd1,rfl,fun e he=>absurd he (by simp),fun _=>rfl⟩
 obtain ⟨R',st⟩:=R.alloc (s':=⟨withInst hp K,gg,dr,t,os⟩) cx.fm hk rfl rfl (o:=.attrs []) (a:=hp.objs.size) (fresh_at (Nat.le_refl _)) (show RepAs _ _ _ _ _ from ⟨_,hns,fun x v e=>(by exact nos1 e),fun _ _=>rfl,Nat.zero_le _⟩)
 have hr:Rep C (ρ++[hp.objs.size]) (withInst hp K) (.inst k m.heap.length) (.ref (hp.objs.size+1)):=
  .inst hK (by rw [←R.hp.len,List.getElem?_append_right (Nat.le_refl _)];simp) hd2
 have okF:FmOk { F with A:=F.A.under (.builtin "type.__call__" ⟨.ref K::vs,[]⟩) }:=by
  obtain ⟨a1,a2,a3,a4,es,a5,a6⟩:=cx.fm
  exact ⟨a1,a2,a3,a4,es,a5,a6⟩
 have R'':Rel C { F with A:=F.A.under (.builtin "type.__call__" ⟨.ref K::vs,[]⟩) } (ρ++[hp.objs.size]) (m.push (.attrs [])) ⟨withInst hp K,gg,dr,t,os⟩:=by
  obtain ⟨a1,a2,a3,a4,a5,a6,a7⟩:=R'
  exact ⟨a1,a2,a3,a4,a5,a6,a7⟩
 refine wpAny_mono (h _ (m.push (.attrs [])) _ _ (.ref (hp.objs.size+1)::vs) fa okF (.inl hh) rfl R'' (.cons hr (rl.step st)) ?_ ?_ ef) (fun v s₂ hv=>?_) fun e s' x=>Er.back st e s' ?_
 ·have:=cx.room
  show F.A.depth+1+j≤999
  exact n2 this (Nat.le_of_eq hj.symm) (by simp +arith only)
 ·have:=cx.units
  show F.A.units+1≤3 * (F.A.depth+1)+4
  exact n1 this (by simp +arith only)
 ·obtain ⟨ρ₂,m₂,x,st2,R₂,rx,ev,hq⟩:=hv
  obtain ⟨rfl,hq⟩:=onNone_inv hq
  cases rx
  refine ⟨rfl,ρ₂,m₂,_,st.trans st2,?_,hr.step st2,?_⟩
  ·obtain ⟨a1,a2,a3,a4,a5,a6,a7⟩:=R₂
   exact ⟨a1,a2,a3,a4,a5,a6,a7⟩
  ·have:m.vars=m₂.vars:=ev.symm
   rw [this] at hq;exact hq
 ·obtain ⟨ρ',m',k',a,K',h1,h2,h3,h4,h5,q1,q2⟩:=x<;>exact ⟨ρ',m',k',a,K',h1,⟨h2.hp,h2.ns,h2.w,h2.vars,h2.cells,h2.out,h2.gens⟩,h3,h4,h5,by have e:m.vars=m'.vars:=q1.symm;rw [e] at q2;exact q2⟩
theorem sv_new (G:GOk C) (cx:CxOk C c F n) {k f:Nat}{args:List ME}(iargs:∀a∈args,SV C X n c F a):SV C X n c F (.new k f args):=by
 intro e hc Q m h
 replace hc:=onSome_true hc
 obtain ⟨⟨x,ys,pos⟩,hx,hc⟩:=hc
 obtain ⟨px,rfl⟩:=xFn_eq hx
 simp only [Bool.and_eq_true,beq_iff_eq,Bool.not_eq_true'] at hc
 obtain ⟨⟨⟨⟨⟨hg,hf⟩,hm⟩,hne⟩,hnh⟩,ha⟩:=hc
 intro s ρ R
 refine PyProof.Rows.Call_Name rfl (load_cls cx R hf (glName_ok hg).1 (glName_ok hg).2 fun K hK=>?_)
 obtain ⟨N,hN⟩:=G.cls k K hK
 have hp:=trees_plain ha pos F.env
 cases ys with
 | nil=>exact tf hne
 | cons y ys=>
  have hy:starEach (y::ys) F.env=(false,eval y F.env)::starEach ys F.env:=by
   cases args with
   | nil=>exact ff ha
   | cons=>exact okX_star (chkEs_cons ha).1.1 _ _
  have hp2:(backTo pos (starEach ys F.env)).any (·.1)=false:=by
   cases args with
   | nil=>exact ff ha
   | cons=>exact trees_plain (chkEs_cons ha).2 _ _
  refine callWith_cls hN ?_ hy hp2
  refine (svEs G cx iargs _ ha _ m h pos).go R (.refl _ _ _) fun ρ₁ s₁ m₁ xs vs st t1 R₁ rl el h₁=>⟨fun b o e=>R₁.hp.base b o e,?_⟩
  cases n with
  | zero=>exact h₁.elim
  | succ j=>exact backV t1 (make_ok G cx rfl hm hK (cx.hn hnh) R₁ rl h₁)
end
end Internal
end
section
namespace Internal
open PySem PyProof.Rows
section
variable {C:Glo}{F:Fm}{X:XM}{c:Cx}{n:Nat}{ρ:List Addr}{m:MS}{s:Shared}{E:Value→Shared→Prop}{A:Around}
theorem exc_inv {hp:List MO}{x:MV}{k:Nat}(h:kdOf hp x=some (.exc k)):∃r,x=.ref r∧hp[r]?=some (.exc k):=by
 cases x with
 | ref r=>
  replace h:kdO hp[r]?=some (.exc k):=h
  cases hr:hp[r]? with
  | none=>rw [hr] at h;exact nos1 h
  | some o=>
   rw [hr] at h
   cases o with
   | exc j=>cases h;exact ⟨r,rfl,hr⟩
   | attrs=>exact nos1 h
   | _=>exact nomatch h
 | inst=>exact nos1 h
 | scr=>exact nos1 h
 | gt=>exact nos1 h
 | cdict=>exact nos1 h
 | _=>exact nomatch h
theorem exc_cls {hp:List MO}{x:MV}{d:Nat}{b:Bool}(h:tyOf hp x (.cls d)=some b):∃r k,x=.ref r∧hp[r]?=some (.exc k)∧b=(k==d||d==0):=by
 obtain ⟨k,hk,h⟩:=kdT_inv h
 cases k with
 | exc k=>obtain ⟨r,h1,h2⟩:=exc_inv hk;exact ⟨r,k,h1,h2,(Option.some.inj h).symm⟩
 | _=>exact nos1 h
theorem exc_ve {hp:List MO}{x:MV}{b:Bool}(h:tyOf hp x .valueError=some b):∃r k,x=.ref r∧hp[r]?=some (.exc k)∧b=true:=by
 obtain ⟨k,hk,h⟩:=kdT_inv h
 cases k with
 | exc k=>obtain ⟨r,h1,h2⟩:=exc_inv hk;exact ⟨r,k,h1,h2,(Option.some.inj h).symm⟩
 | _=>exact nos1 h
theorem exc_has (G:GOk C) {k d:Nat}{K D:Addr}(hk:C.xa k=some K) (hd:C.xa d=some D):∃bm,XCl C.base K bm∧(Value.ref K::bm).contains (.ref D)=(k==d||d==0):=by
 obtain ⟨K0,h0,bm,hx,hb⟩:=G.x.exc k K hk
 refine ⟨bm,hx,?_⟩
 have key:∀{j:Nat} {J:Addr},C.xa j=some J→(Value.ref D==Value.ref J)=(d==j):=fun {j J} hj=>by
  refine Bool.eq_iff_iff.mpr ⟨fun q=>?_,fun q=>?_⟩
  ·have:D=J:=by simpa using q
   subst this
   rw [G.x.xinj _ _ _ hd hj];exact beq_self_eq_true _
  ·have:=eq_of_beq q
   subst this
   obtain rfl:=same hj hd;exact beq_self_eq_true _
 have hv:vErr.contains (Value.ref D)=false:=rfl
 have hs:(d==k)=(k==d):=Bool.eq_iff_iff.mpr ⟨fun q=>by rw [eq_of_beq q];exact beq_self_eq_true _,fun q=>by rw [eq_of_beq q];exact beq_self_eq_true _⟩
 rw [List.contains_cons,key hk,hs]
 cases k with
 | zero=>
  rw [hb]
  show (_||vErr.contains (.ref D))=_
  rw [hv]
  cases d<;>rfl
 | succ k=>
  rw [hb]
  show (_||(Value.ref K0::vErr).contains (.ref D))=_
  rw [List.contains_cons,key h0,hv,Bool.or_false]
theorem isi_cls (G:GOk C) (cx:CxOk C c F n) (R:Rel C F ρ m s) {x:MV}{v:Value}(rx:Rep C ρ s.heap x v) {d:Nat}{D:Addr}(hD:C.xa d=some D) {b:Bool}(h:tyOf m.heap x (.cls d)=some b) {Q:PQ}(hq:Q (.bool b) m) :
  wpAny (mod C) A (call (.builtin "isinstance") [v,.ref D]) (Out C F ρ s Q) E s:=by
 obtain ⟨r,k,rfl,hr,hb⟩:=exc_cls h
 obtain ⟨a,rfl,g⟩:=rx.inv
 obtain ⟨K,o,vs,h1,h2,h3,_⟩:=R.hp.objs _ _ _ hr g
 obtain ⟨bm,hx,hc⟩:=exc_has G h1 hD
 obtain ⟨_,_,bmD,hy,_⟩:=G.x.exc d D hD
 have hk:∀b o,C.base.get? b=some o→s.heap.get? b=some o:=fun b o e=>R.hp.base b o e
 refine call_xisi (hx.keeps hk) (hy.keeps hk) h2 h3 fun tk=>?_
 rw [hc,←hb]
 exact outTok R cx.fm (.bool _) hq
theorem isi_ve (G:GOk C) (cx:CxOk C c F n) (R:Rel C F ρ m s) {x:MV}{v:Value}(rx:Rep C ρ s.heap x v) {b:Bool}(h:tyOf m.heap x .valueError=some b) {Q:PQ}(hq:Q (.bool b) m) :
  wpAny (mod C) A (call (.builtin "isinstance") [v,.type "ValueError"]) (Out C F ρ s Q) E s:=by
 obtain ⟨r,k,rfl,hr,hb⟩:=exc_ve h
 obtain ⟨a,rfl,g⟩:=rx.inv
 obtain ⟨K,o,vs,h1,h2,h3,_⟩:=R.hp.objs _ _ _ hr g
 obtain ⟨_,_,bm,hx,_⟩:=G.x.exc k K h1
 refine call_xisi_ve (hx.keeps fun b o e=>R.hp.base b o e) h2 h3 ?_
 subst hb
 exact outSame R (.bool _) hq
end
end Internal
end
section
namespace Internal
open PySem PyProof.Rows
section
variable {C:Glo}{F:Fm}{X:XM}{c:Cx}{n:Nat}{ρ:List Addr}{m:MS}{s:Shared}{E:Value→Shared→Prop}{A:Around}
theorem tyName_is {t:TS}{e:Expr}(h:tyName c t e=true):∃T p,e=.Name (Str.ofString T) p∧tsIs t=some T∧c.kind (Str.ofString T)=some .globalImplicit∧dbg (Str.ofString T)=false:=by
 replace h:=onSome_true h
 obtain ⟨y,hy,h⟩:=h
 replace h:=onSome_true h
 obtain ⟨T,eT,h⟩:=h
 obtain ⟨py,rfl⟩:=xName_eq hy
 simp only [Bool.and_eq_true,beq_iff_eq,Bool.not_eq_true'] at h
 obtain ⟨⟨rfl,hk⟩,hd⟩:=h
 exact ⟨T,py,rfl,eT,hk,hd⟩
theorem out_isi (cx:CxOk C c F n) (R:Rel C F ρ m s) {ρ₀:List Addr}{s₀:Shared}(t1:Step F.W ρ₀ s₀ ρ s) {Q:PQ}{w u:Value}(h:wpAny (mod C) F.A (call (.builtin "isinstance") [w,u]) (OutB s fun b=>Q (.bool b) m) (Er C F X ρ₀ s₀) s):wpAny (mod C) F.A (call (.builtin "isinstance") [w,u]) (Out C F ρ₀ s₀ Q) (Er C F X ρ₀ s₀) s:=
 wpAny_mono h (fun v s' hv=>by
  obtain ⟨b,rfl,m',st3,R',hq⟩:=outOfB (P:=fun b m=>Q (.bool b) m) R cx.fm hv
  exact Out.back t1 _ _ ⟨_,_,_,st3,R',.bool b,hq⟩) fun _ _ x=>x
theorem ty1_ok (G:GOk C) (cx:CxOk C c F n) (R:Rel C F ρ m s) {ρ₀:List Addr}{s₀:Shared}(t1:Step F.W ρ₀ s₀ ρ s) {ty:TS}{t:Expr}(ht:chkTy c ty t=true) {x:MV}{v:Value}(rx:Rep C ρ s.heap x v) {b:Bool}(hb:tyOf m.heap x ty=some b) {Q:PQ}(hq:Q (.bool b) m) :
  okX t=true∧wpAny (mod C) F.A (eval t F.env) (fun u s₂=>wpAny (mod C) F.A (call (.builtin "isinstance") [v,u]) (Out C F ρ₀ s₀ Q) (Er C F X ρ₀ s₀) s₂) (Er C F X ρ₀ s₀) s:=by
 have plain:tyName c ty t=true→okX t=true∧wpAny (mod C) F.A (eval t F.env) (fun u s₂=>wpAny (mod C) F.A (call (.builtin "isinstance") [v,u]) (Out C F ρ₀ s₀ Q) (Er C F X ρ₀ s₀) s₂) (Er C F X ρ₀ s₀) s:=fun ht=>by
  obtain ⟨T,p,rfl,eT,hk,hd⟩:=tyName_is ht
  exact ⟨rfl,load_blt cx R (ts_mem eT) hk hd (out_isi cx R t1 (isi_ok R.hp rx hb hq T eT))⟩
 refine Classical.byContradiction fun hn=>?_
 cases ty with
 | cls d=>
  obtain ⟨y,hy,ht⟩:=onSome_true ht
  obtain ⟨py,rfl⟩:=xName_eq hy
  obtain ⟨h1,h2⟩:=and_t ht
  exact hn ⟨rfl,load_exc cx R (eq_of_beq h2) (glName_ok h1).1 (glName_ok h1).2 fun D hD=>wpAny_mono (isi_cls G cx R rx hD hb hq) (Out.back t1) fun _ _ x=>x⟩
 | valueError=>
  obtain ⟨y,hy,ht⟩:=onSome_true ht
  obtain ⟨py,rfl⟩:=xName_eq hy
  obtain ⟨h1,h2⟩:=and_t ht
  obtain rfl:=eq_of_beq h2
  exact hn ⟨rfl,load_blt cx R (v:=.type "ValueError") (at_mem 15 rfl) (glName_ok h1).1 (glName_ok h1).2 (wpAny_mono (isi_ve G cx R rx hb hq) (Out.back t1) fun _ _ x=>x)⟩
 | _=>exact hn (plain ht)
theorem ty_ok (G:GOk C) (cx:CxOk C c F n) (R:Rel C F ρ m s) {ρ₀:List Addr}{s₀:Shared}(t1:Step F.W ρ₀ s₀ ρ s) {ts:List TS}{t:Expr}(ht:chkTs c ts t=true) {x:MV}{v:Value}(rx:Rep C ρ s.heap x v) {Q:PQ}(h:wpTs ts m.heap x fun b=>Q (.bool b) m) :
  okX t=true∧wpAny (mod C) F.A (eval t F.env) (fun u s₂=>wpAny (mod C) F.A (call (.builtin "isinstance") [v,u]) (Out C F ρ₀ s₀ Q) (Er C F X ρ₀ s₀) s₂) (Er C F X ρ₀ s₀) s:=by
 rcases ts with _ | ⟨t₁,_ | ⟨t₂,_ | ⟨t₃,r⟩⟩⟩
 ·exact ff ht
 ·obtain ⟨b,hb,hq⟩:=onO_inv h
  exact ty1_ok G cx R t1 ht rx hb hq
 ·obtain ⟨us,hus,ht⟩:=onSome_true ht
  obtain ⟨⟨w1,w2⟩,hw,ht⟩:=onSome_true ht
  obtain rfl:=two_eq hw
  obtain ⟨kk,pp,rfl⟩:=xTup_eq hus
  obtain ⟨ht1,ht2⟩:=and_t ht
  obtain ⟨T1,p1,rfl,e1,hk1,hd1⟩:=tyName_is ht1
  obtain ⟨T2,p2,rfl,e2,hk2,hd2⟩:=tyName_is ht2
  obtain ⟨b,hb,h⟩:=onO_inv h
  obtain ⟨b',hb',hq⟩:=onO_inv h
  refine ⟨rfl,wpAny_Tuple (wpAny_items_cons (load_blt cx R (ts_mem e1) hk1 hd1 (wpAny_items_cons (load_blt cx R (ts_mem e2) hk2 hd2 (wpAny_items_nil ⟨(by decide:2≤sizeLine),?_⟩)))))⟩
  obtain ⟨R₂,st₂⟩:=R.grow (s':={ s with heap:=s.heap.push { cls:=.type "tuple",data:=.seq #[.type T1,.type T2] } }) cx.fm (fun a o e=>Heap.get?_push_of_some _ e) rfl rfl
  exact out_isi cx R₂ (t1.trans st₂) (isi2_ok R₂.hp (rx.step st₂) e1 e2 hb hb' hq (Heap.get?_push_size _ rfl))
 ·exact ff ht
theorem chkTs_okX {ts:List TS}{t:Expr}(h:chkTs c ts t=true):okX t=true:=by
 have nm:∀{f:Str→Bool},onSome (xName t) f=true→okX t=true:=fun h=>by
  obtain ⟨y,hy,_⟩:=onSome_true h
  obtain ⟨py,rfl⟩:=xName_eq hy
  rfl
 rcases ts with _ | ⟨t₁,_ | ⟨t₂,_ | ⟨t₃,r⟩⟩⟩
 ·exact ff h
 ·cases t₁<;>exact nm h
 ·obtain ⟨us,hus,_⟩:=onSome_true h
  obtain ⟨kk,pp,rfl⟩:=xTup_eq hus
  rfl
 ·exact ff h
theorem isi_walk (cx:CxOk C c F n) {a:ME}(ia:SV C X n c F a) {v t:Expr}{pos px:Pos}(hg:glName c "isinstance"=true) (hv:okX v=true) (ha:chkE c a v=true) (ho:okX t=true) {PX Q:PQ}{m:MS}(h:wpE (Call C) n a PX X m)
  (k:∀{ρ₀:List Addr}{s₀:Shared}{ρ₁:List Addr}{s₁:Shared}{m₁:MS}{x:MV}{w:Value},Step F.W ρ₀ s₀ ρ₁ s₁→Rel C F ρ₁ m₁ s₁→Rep C ρ₁ s₁.heap x w→PX x m₁→wpAny (mod C) F.A (eval t F.env) (fun u s₂=>wpAny (mod C) F.A (call (.builtin "isinstance") [w,u]) (Out C F ρ₀ s₀ Q) (Er C F X ρ₀ s₀) s₂) (Er C F X ρ₀ s₀) s₁) :
  WPv C F X (eval (.Call (.Name "isinstance" px) [v,t] [] pos) F.env) Q m:=by
 intro s ρ R
 refine PyProof.Rows.Call_Name rfl (load_blt cx R (v:=.builtin "isinstance") (at_mem 7 rfl) (glName_ok hg).1 (glName_ok hg).2 ?_)
 refine call_args (.inl ⟨_,rfl⟩) (by rw [okX_star hv,okX_star ho];rfl) (by rw [okX_star hv];exact List.cons_ne_nil _ _) ?_
 rw [okX_star hv,okX_star ho]
 exact Calls.spliced_cons ((ia v ha _ m h).go R (.refl _ _ _) fun ρ₁ s₁ m₁ x v st t1 R₁ rx h₁=>Calls.spliced_cons (wpAny_mono (k t1 R₁ rx h₁) (fun w s₂ hw=>Calls.spliced_nil hw) fun _ _ e=>e))
theorem sv_isi (G:GOk C) (cx:CxOk C c F n) {a:ME}{ts:List TS}(ia:SV C X n c F a):SV C X n c F (.isi a ts):=by
 intro e hc Q m h
 obtain ⟨⟨x,ys,pos⟩,hx,hc⟩:=onSome_true hc
 obtain ⟨⟨v,t⟩,hv2,hc⟩:=onSome_true hc
 obtain rfl:=two_eq hv2
 obtain ⟨px,rfl⟩:=xFn_eq hx
 obtain ⟨hc,ht⟩:=and_t hc
 obtain ⟨hc,ha⟩:=and_t hc
 obtain ⟨hc,hv⟩:=and_t hc
 obtain ⟨hg,hn⟩:=and_t hc
 obtain rfl:=eq_of_beq hn
 exact isi_walk cx ia hg hv ha (chkTs_okX ht) h fun t1 R₁ rx h₁=>(ty_ok G cx R₁ t1 ht rx h₁).2
end
end Internal
end
section
namespace Internal
open PySem PyProof.Rows
noncomputable def plainT (e:Expr):Bool:=okX e&&((view e).tag != 3||(view e).u != .Not)&&(view e).tag != 4&&(view e).tag != 5
theorem plainT_isTrue {e:Expr}(h:plainT e=true) (env:Env) (whole:Sem Value):isTrue e env whole=(do let v ←whole;standAt e.pos;holding [v] (truthy v)):=by
 unfold plainT at h
 try dsimp only at h
 obtain ⟨hA,h4⟩:=and_t h
 obtain ⟨hA,h3⟩:=and_t hA
 obtain ⟨h1,h2⟩:=and_t hA
 exact okX_cases (P:=fun e=>((view e).tag != 3||(view e).u != .Not)=true→((view e).tag != 4)=true→((view e).tag != 5)=true→isTrue e env whole=(do let v ←whole;standAt e.pos;holding [v] (truthy v))) h1
  (fun _ _ _ _ _ _=>rfl) (fun _ _ _ _ _=>rfl) (fun _ _ _ _ _ _ _=>rfl) (fun o _ _ h _ _=>by cases o<;>first | rfl | exact ff h) (fun _ _ _ _ h _=>by exact ff h) (fun _ _ _ _ _ _ h=>by exact ff h) (fun _ _ _ _ _ _ _=>rfl) (fun _ _ _ _ _ _=>rfl) (fun _ _ _ _ _ _=>rfl) (fun _ _ _ _ _=>rfl) (fun _ _ _ _ _ _=>rfl) (fun _ _ _ _ _ _=>rfl) (fun _ _ _ _ _ _ _=>rfl) h2 h3 h4
theorem plain_tag {e:Expr}{k:Nat}(h:(view e).tag=k) (hk:(k != 9&&k != 14&&k != 3&&k != 4&&k != 5)=true):plainT e=true:=by
 subst h
 try dsimp only at hk
 obtain ⟨hA,h5⟩:=and_t hk
 obtain ⟨hA,h4⟩:=and_t hA
 obtain ⟨hA,h3⟩:=and_t hA
 obtain ⟨h1,h2⟩:=and_t hA
 simp [plainT,okX,h1,h2,h3,h4,h5]
theorem plain_some {α:Type}{e:Expr}{k:Nat}{x y:α}(h:(if (view e).tag=k then some x else none)=some y) (hk:(k != 9&&k != 14&&k != 3&&k != 4&&k != 5)=true):plainT e=true:=plain_tag (tag_some h).1 hk
theorem plain_fn {e:Expr}{q:Str × List Expr × Pos}(h:xFn e=some q):plainT e=true:=by
 unfold xFn at h
 obtain ⟨q,h,_⟩:=Option.bind_eq_some_iff.mp h
 exact plain_some h rfl
theorem plain_meth {e:Expr}{q:(Expr × Str × Pos) × List Expr × Pos}(h:xMeth e=some q):plainT e=true:=by
 unfold xMeth at h
 obtain ⟨q,h,_⟩:=Option.bind_eq_some_iff.mp h
 exact plain_some h rfl
noncomputable def ST (C:Glo) (X:XM) (n:Nat) (c:Cx) (F:Fm) (me:ME):Prop:=
 ∀(e:Expr),chkE c me e=true→∀(Q:Bool→MS→Prop) (m:MS),wpE (Call C) n me (ofBool Q) X m→WPt C F X (isTrue e F.env (eval e F.env)) Q m
section
variable {C:Glo}{F:Fm}{X:XM}{c:Cx}{n:Nat}
theorem st_plain (G:GOk C) (cx:CxOk C c F n) {me:ME}(ia:SV C X n c F me) (hpl:∀e,chkE c me e=true→plainT e=true):ST C X n c F me:=by
 intro e hc Q m h s ρ R
 refine wpAny_isTrue_value ((ia e hc _ m h).go R (.refl _ _ _) fun ρ₁ s₁ m₁ x v st t1 R₁ rx h₁=>?_) (plainT_isTrue (hpl e hc) _ _)
 obtain ⟨b,rfl,h₁⟩:=ofBool_inv h₁
 cases rx;exact wpAny_truthy_bool ⟨_,_,t1,R₁,h₁⟩
theorem stAnd (G:GOk C) (cx:CxOk C c F n):∀{es:List ME},(∀a∈es,ST C X n c F a)→∀(xs:List Expr),chkEs c es xs=true→∀(Q:Bool→MS→Prop) (m:MS),wpAnd (Call C) n es (ofBool Q) X m→WPt C F X (allTrue .And xs F.env) Q m
 | [],ih,xs,hc,Q,m,h=>h.elim
 | [e],ih,xs,hc,Q,m,h=>by
  cases xs with
  | nil=>exact ff hc
  | cons x xs=>
   replace hc:=chkEs_cons hc
   cases xs with
   | nil=>
    intro s ρ R
    refine wpAny_allTrue_And_cons ((ih e (by exact List.mem_singleton.mpr rfl) x hc.1.2 _ m h).go R (.refl _ _ _) fun ρ₁ s₁ m₁ b st t1 R₁ h₁=>?_)
    cases b with
    | true=>exact wpAny_allTrue_And_nil ⟨_,_,t1,R₁,h₁⟩
    | false=>exact ⟨_,_,t1,R₁,h₁⟩
   | cons=>cases hc.2
 | e::e'::es,ih,xs,hc,Q,m,h=>by
  cases xs with
  | nil=>exact ff hc
  | cons x xs=>
   replace hc:=chkEs_cons hc
   intro s ρ R
   refine wpAny_allTrue_And_cons ((ih e (by exact List.mem_cons_self ..) x hc.1.2 _ m h).go R (.refl _ _ _) fun ρ₁ s₁ m₁ b st t1 R₁ h₁=>?_)
   cases b with
   | true=>exact wpAny_mono (stAnd G cx (fun a ha=>ih a (List.mem_cons_of_mem _ ha)) xs hc.2 Q m₁ h₁ s₁ ρ₁ R₁) (fun b s' ⟨ρ',m',a,b',c'⟩=>⟨ρ',m',t1.trans a,b',c'⟩) (Er.back t1)
   | false=>exact ⟨_,_,t1,R₁,h₁⟩
theorem stOr (G:GOk C) (cx:CxOk C c F n):∀{es:List ME},(∀a∈es,ST C X n c F a)→∀(xs:List Expr),chkEs c es xs=true→∀(Q:Bool→MS→Prop) (m:MS),wpOr (Call C) n es (ofBool Q) X m→WPt C F X (allTrue .Or xs F.env) Q m
 | [],ih,xs,hc,Q,m,h=>h.elim
 | [e],ih,xs,hc,Q,m,h=>by
  cases xs with
  | nil=>exact ff hc
  | cons x xs=>
   replace hc:=chkEs_cons hc
   cases xs with
   | nil=>
    intro s ρ R
    refine wpAny_allTrue_Or_cons ((ih e (by exact List.mem_singleton.mpr rfl) x hc.1.2 _ m h).go R (.refl _ _ _) fun ρ₁ s₁ m₁ b st t1 R₁ h₁=>?_)
    cases b with
    | true=>exact ⟨_,_,t1,R₁,h₁⟩
    | false=>exact wpAny_allTrue_Or_nil ⟨_,_,t1,R₁,h₁⟩
   | cons=>cases hc.2
 | e::e'::es,ih,xs,hc,Q,m,h=>by
  cases xs with
  | nil=>exact ff hc
  | cons x xs=>
   replace hc:=chkEs_cons hc
   intro s ρ R
   refine wpAny_allTrue_Or_cons ((ih e (by exact List.mem_cons_self ..) x hc.1.2 _ m h).go R (.refl _ _ _) fun ρ₁ s₁ m₁ b st t1 R₁ h₁=>?_)
   cases b with
   | false=>exact wpAny_mono (stOr G cx (fun a ha=>ih a (List.mem_cons_of_mem _ ha)) xs hc.2 Q m₁ h₁ s₁ ρ₁ R₁) (fun b s' ⟨ρ',m',a,b',c'⟩=>⟨ρ',m',t1.trans a,b',c'⟩) (Er.back t1)
   | true=>exact ⟨_,_,t1,R₁,h₁⟩
theorem st_not (G:GOk C) (cx:CxOk C c F n) {a:ME}(ia:ST C X n c F a):ST C X n c F (.not a):=by
 intro e hc Q m h
 replace hc:=onSome_true hc
 obtain ⟨⟨o,x⟩,hx,hc⟩:=hc
 obtain ⟨p,rfl⟩:=xUn_eq hx
 try dsimp only at hc
 obtain ⟨hE1,hc⟩:=and_t hc
 first | with_reducible replace hc:=eq_of_beq hc | skip
 obtain rfl:=eq_of_beq hE1
 intro s ρ R
 exact wpAny_isTrue_Not ((ia _ hc _ m h).go R (.refl _ _ _) fun ρ₁ s₁ m₁ b st t1 R₁ h₁=>⟨_,_,t1,R₁,h₁⟩)
theorem st_and (G:GOk C) (cx:CxOk C c F n) {es:List ME}(ies:∀a∈es,ST C X n c F a):ST C X n c F (.and es):=by
 intro e hc Q m h
 replace hc:=onSome_true hc
 obtain ⟨⟨o,xs⟩,hx,hc⟩:=hc
 obtain ⟨p,rfl⟩:=xBool_eq hx
 try dsimp only at hc
 obtain ⟨hE2,hc⟩:=and_t hc
 first | with_reducible replace hc:=eq_of_beq hc | skip
 obtain rfl:=eq_of_beq hE2
 intro s ρ R;exact wpAny_isTrue_BoolOp (stAnd G cx ies _ hc _ m h s ρ R)
theorem st_or (G:GOk C) (cx:CxOk C c F n) {es:List ME}(ies:∀a∈es,ST C X n c F a):ST C X n c F (.or es):=by
 intro e hc Q m h
 replace hc:=onSome_true hc
 obtain ⟨⟨o,xs⟩,hx,hc⟩:=hc
 obtain ⟨p,rfl⟩:=xBool_eq hx
 try dsimp only at hc
 obtain ⟨hE3,hc⟩:=and_t hc
 first | with_reducible replace hc:=eq_of_beq hc | skip
 obtain rfl:=eq_of_beq hE3
 intro s ρ R;exact wpAny_isTrue_BoolOp (stOr G cx ies _ hc _ m h s ρ R)
theorem st_cmp (G:GOk C) (cx:CxOk C c F n) {op:Cmp}{a b:ME}(ia:SV C X n c F a) (ib:SV C X n c F b):ST C X n c F (.cmp op a b):=by
 intro e hc Q m h
 replace hc:=onSome_true hc
 obtain ⟨⟨l,os,rs⟩,hxx,hc⟩:=hc
 replace hc:=onSome_true hc
 obtain ⟨o,ho,hc⟩:=hc
 replace hc:=onSome_true hc
 obtain ⟨r,hr,hc⟩:=hc
 cases one_eq ho
 cases one_eq hr
 obtain ⟨p,rfl⟩:=xCmp_eq hxx
 try dsimp only at hc
 obtain ⟨hA,hb⟩:=and_t hc
 first | with_reducible replace hb:=eq_of_beq hb | skip
 obtain ⟨hA,ha⟩:=and_t hA
 first | with_reducible replace ha:=eq_of_beq ha | skip
 obtain ⟨hE4,hx⟩:=and_t hA
 first | with_reducible replace hx:=eq_of_beq hx | skip
 obtain rfl:=eq_of_beq hE4
 intro s ρ R
 exact wpAny_isTrue_Compare1 (cmp_trees G cx ia ib ha hb R h fun b ρ' m' s' st R' hq=>wpAny_truthy_bool ⟨_,_,st,R',hq⟩) (okX_marks hx _)
theorem st_isN (G:GOk C) (cx:CxOk C c F n) {p:Bool}{a:ME}(ia:SV C X n c F a):ST C X n c F (.isN p a):=by
 intro e hc Q m h
 replace hc:=onSome_true hc
 obtain ⟨⟨l,os,rs⟩,hxx,hc⟩:=hc
 replace hc:=onSome_true hc
 obtain ⟨o,ho,hc⟩:=hc
 replace hc:=onSome_true hc
 obtain ⟨r,hr,hc⟩:=hc
 cases one_eq ho
 cases one_eq hr
 obtain ⟨p2,rfl⟩:=xCmp_eq hxx
 try dsimp only at hc
 obtain ⟨hA,ha⟩:=and_t hc
 first | with_reducible replace ha:=eq_of_beq ha | skip
 obtain ⟨hE5,hn⟩:=and_t hA
 first | with_reducible replace hn:=eq_of_beq hn | skip
 obtain rfl:=eq_of_beq hE5
 obtain ⟨_,_,rfl⟩:=xConst_eq hn
 intro s ρ R
 exact wpAny_isTrue_Compare1 (isN_tree G cx ia ha R h fun b ρ' m' s' st R' hq=>wpAny_truthy_bool ⟨_,_,st,R',hq⟩) rfl
theorem chk_some {α:Type}{o:Option α}{f:α→Bool}(h:onSome o f=true):∃a,o=some a:=let ⟨a,h,_⟩:=onSome_true h;⟨a,h⟩
theorem pl_cst {v:MV}:∀e,chkE c (.cst v) e=true→plainT e=true:=fun e hc=>by
 obtain ⟨_,hx⟩:=chk_some hc
 exact plain_some hx rfl
theorem pl_var {i:Nat}:∀e,chkE c (.var i) e=true→plainT e=true:=fun e hc=>by
 obtain ⟨_,hx⟩:=chk_some hc
 exact plain_some hx rfl
theorem pl_glob {g:Nat}{v:MV}:∀e,chkE c (.glob g v) e=true→plainT e=true:=fun e hc=>by
 obtain ⟨_,hx⟩:=chk_some hc
 exact plain_some hx rfl
theorem pl_bin {op:Op}{a b:ME}:∀e,chkE c (.bin op a b) e=true→plainT e=true:=fun e hc=>by
 obtain ⟨_,hx⟩:=chk_some hc
 exact plain_some hx rfl
theorem pl_idx {o i:ME}:∀e,chkE c (.idx o i) e=true→plainT e=true:=fun e hc=>by
 obtain ⟨_,hx⟩:=chk_some hc
 exact plain_some hx rfl
theorem pl_sl {o:ME}{lo hi:Option ME}:∀e,chkE c (.sl o lo hi) e=true→plainT e=true:=fun e hc=>by
 obtain ⟨_,hx⟩:=chk_some hc
 exact plain_some hx rfl
theorem pl_list {es:List ME}:∀e,chkE c (.list es) e=true→plainT e=true:=fun e hc=>by
 obtain ⟨_,hx⟩:=chk_some hc
 exact plain_some hx rfl
theorem pl_tup {es:List ME}:∀e,chkE c (.tup es) e=true→plainT e=true:=fun e hc=>by
 obtain ⟨_,hx⟩:=chk_some hc
 exact plain_some hx rfl
theorem pl_dict0:∀e,chkE c (.dict0) e=true→plainT e=true:=fun e hc=>by
 obtain ⟨_,hx⟩:=chk_some hc
 exact plain_some hx rfl
theorem pl_comp {elt:ME}{t:List Nat}{many:Bool}{k:IK}{src ifs:List ME}:∀e,chkE c (.comp elt t many k src ifs) e=true→plainT e=true:=fun e hc=>by
 obtain ⟨_,hx⟩:=chk_some hc
 exact plain_some hx rfl
theorem pl_call {f:Nat}{args:List ME}:∀e,chkE c (.call f args) e=true→plainT e=true:=fun e hc=>by
 obtain ⟨_,hx⟩:=chk_some hc
 exact plain_fn hx
theorem pl_isi {a:ME}{ts:List TS}:∀e,chkE c (.isi a ts) e=true→plainT e=true:=fun e hc=>by
 obtain ⟨_,hx⟩:=chk_some hc
 exact plain_fn hx
theorem pl_mth {k:Me}{o:ME}{args:List ME}:∀e,chkE c (.mth k o args) e=true→plainT e=true:=fun e hc=>by
 obtain ⟨_,hx⟩:=chk_some hc
 exact plain_meth hx
theorem pl_umth {k f:Nat}{x:List Nat}{o:ME}{args:List ME}:∀e,chkE c (.umth k f x o args) e=true→plainT e=true:=fun e hc=>by
 obtain ⟨_,hx⟩:=chk_some hc
 exact plain_meth hx
theorem pl_new {k f:Nat}{args:List ME}:∀e,chkE c (.new k f args) e=true→plainT e=true:=fun e hc=>by
 obtain ⟨_,hx⟩:=chk_some hc
 exact plain_fn hx
theorem pl_attr {k:Nat}{o:ME}{x:List Nat}:∀e,chkE c (.attr k o x) e=true→plainT e=true:=fun e hc=>by
 obtain ⟨_,hx⟩:=chk_some hc
 exact plain_some hx rfl
theorem pl_blt {b:Bi}{args:List ME}:∀e,chkE c (.blt b args) e=true→plainT e=true:=fun e hc=>by
 replace hc:(if isSS b=true then _ else _)=true:=hc
 split at hc
 ·obtain ⟨_,hx⟩:=chk_some hc
  unfold xSS at hx
  obtain ⟨_,hx,_⟩:=Option.bind_eq_some_iff.mp hx
  exact plain_fn hx
 ·obtain ⟨_,hx⟩:=chk_some hc
  exact plain_fn hx
theorem pl_neg {a:ME}:∀e,chkE c (.neg a) e=true→plainT e=true:=fun e hc=>by
 replace hc:=onSome_true hc
 obtain ⟨⟨o,x⟩,hx,hc⟩:=hc
 obtain ⟨p,rfl⟩:=xUn_eq hx
 try dsimp only at hc
 obtain ⟨hE6,_⟩:=and_t hc
 obtain rfl:=eq_of_beq hE6
 rfl
end
end Internal
end
section
namespace Internal
open PySem PyProof.Rows
section
variable {M:Model}{A:Around}{E:Value→Shared→Prop}{s:Shared}{env:Env}
theorem wp_op {vs:List Value}{t:Sem Value}{Q:Value→Shared→Prop}(h:wpAny M A t Q E s):wpAny M A (operate vs t) Q E s:=fun Γ p hΓ=>by
 rw [Sem.wp_operate];exact h Γ p hΓ
theorem wp_Compare2 {l r r':Expr}{o o':CmpOp}{pos:Pos}{Q:Value→Shared→Prop}(hm':behindInMarks o' r'=false)
  (h:wpAny M A (eval l env) (fun a s₁=>wpAny M A (eval r env) (fun b s₂=>wpAny M A (compareOp o a b) (fun c s₃=>wpAny M A (truthy c) (fun t s₄=>
   match t with
   | true=>wpAny M A (eval r' env) (fun d s₅=>wpAny M A (compareOp o' b d) Q E s₅) E s₄
   | false=>Q c s₄) E s₃) E s₂) E s₁) E s):wpAny M A (eval (.Compare l [o,o'] [r,r'] pos) env) Q E s:=by
 show wpAny M A (eval l env >>= fun a=>compareChain pos a [o,o'] [eval r env,markedBehindIn o' r' (eval r' env)]) Q E s
 rw [markedBehindIn_of_false hm']
 refine wpAny_bind (wpAny_mono h (fun a s₁ h₁=>?_) fun _ _ x=>x)
 show wpAny M A (do
  let rv ←holding [a] (eval r env)
  standAt pos
  let c ←holding [a,rv] (compareOp o a rv)
  release [a,rv] [c]
  if ←holding [c,rv] (truthy c) then compareChain pos rv [o'] [eval r' env] else pure c) Q E s₁
 refine wpAny_bind (wpAny_holding (wpAny_mono h₁ (fun b s₂ h₂=>?_) fun _ _ x=>x))
 refine wpAny_bind (wpAny_standAt (wpAny_bind (wpAny_holding (wpAny_mono h₂ (fun c s₃ h₃=>?_) fun _ _ x=>x))))
 refine wpAny_bind (wpAny_release (wpAny_bind (wpAny_holding (wpAny_mono h₃ (fun t s₄ h₄=>?_) fun _ _ x=>x))))
 cases t with
 | false=>exact wpAny_pure h₄
 | true=>
  show wpAny M A (do
   let rv ←holding [b] (eval r' env)
   standAt pos
   operate [b,rv] (compareOp o' b rv)) Q E s₄
  exact wpAny_bind (wpAny_holding (wpAny_mono h₄ (fun d s₅ h₅=>wpAny_bind (wpAny_standAt (wp_op h₅))) fun _ _ x=>x))
theorem wp_test2 {l r r':Expr}{o o':CmpOp}{pos:Pos}{whole:Sem Value}{Q:Bool→Shared→Prop}(hm':behindInMarks o' r'=false)
  (h:wpAny M A (eval l env) (fun a s₁=>wpAny M A (eval r env) (fun b s₂=>wpAny M A (compareOp o a b) (fun c s₃=>wpAny M A (truthy c) (fun t s₄=>
   match t with
   | true=>wpAny M A (eval r' env) (fun d s₅=>wpAny M A (compareOp o' b d) (fun c s₆=>wpAny M A (truthy c) Q E s₆) E s₅) E s₄
   | false=>Q false s₄) E s₃) E s₂) E s₁) E s):wpAny M A (isTrue (.Compare l [o,o'] [r,r'] pos) env whole) Q E s:=by
 show wpAny M A (eval l env >>= fun a=>testChain pos a [o,o'] [eval r env,markedBehindIn o' r' (eval r' env)]) Q E s
 rw [markedBehindIn_of_false hm']
 refine wpAny_bind (wpAny_mono h (fun a s₁ h₁=>?_) fun _ _ x=>x)
 show wpAny M A (do
  let rv ←holding [a] (eval r env)
  standAt pos
  let c ←holding [a,rv] (compareOp o a rv)
  release [a,rv] [c]
  if ←holding [c,rv] (truthy c) then testChain pos rv [o'] [eval r' env] else pure false) Q E s₁
 refine wpAny_bind (wpAny_holding (wpAny_mono h₁ (fun b s₂ h₂=>?_) fun _ _ x=>x))
 refine wpAny_bind (wpAny_standAt (wpAny_bind (wpAny_holding (wpAny_mono h₂ (fun c s₃ h₃=>?_) fun _ _ x=>x))))
 refine wpAny_bind (wpAny_release (wpAny_bind (wpAny_holding (wpAny_mono h₃ (fun t s₄ h₄=>?_) fun _ _ x=>x))))
 cases t with
 | false=>exact wpAny_pure h₄
 | true=>
  show wpAny M A (do
   let rv ←holding [b] (eval r' env)
   standAt pos
   let c ←operate [b,rv] (compareOp o' b rv)
   holding [c] (truthy c)) Q E s₄
  exact wpAny_bind (wpAny_holding (wpAny_mono h₄ (fun d s₅ h₅=>wpAny_bind (wpAny_standAt (wpAny_bind (wp_op (wpAny_mono h₅ (fun c s₆ h₆=>wpAny_holding h₆) fun _ _ x=>x))))) fun _ _ x=>x))
end
section
variable {C:Glo}{F:Fm}{X:XM}{c:Cx}{n:Nat}
theorem cmp2_inv {op op':Cmp}{a b d:ME}{e:Expr}(hc:chkE c (.cmp2 op op' a b d) e=true):∃l r r' p,e=.Compare l [cmpIs op,cmpIs op'] [r,r'] p∧okX r'=true∧chkE c a l=true∧chkE c b r=true∧chkE c d r'=true:=by
 replace hc:=onSome_true hc
 obtain ⟨⟨l,os,rs⟩,hxx,hc⟩:=hc
 replace hc:=onSome_true hc
 obtain ⟨⟨o,o'⟩,ho,hc⟩:=hc
 replace hc:=onSome_true hc
 obtain ⟨⟨r,r'⟩,hr,hc⟩:=hc
 cases two_eq ho
 cases two_eq hr
 obtain ⟨p,rfl⟩:=xCmp_eq hxx
 simp only [Bool.and_eq_true,beq_iff_eq] at hc
 obtain ⟨⟨⟨⟨⟨⟨rfl,rfl⟩,hx⟩,hx'⟩,ha⟩,hb⟩,hd⟩:=hc
 exact ⟨l,r,r',p,rfl,hx',ha,hb,hd⟩
theorem cmp2_trees (G:GOk C) (cx:CxOk C c F n) {op op':Cmp}{a b d:ME}(ia:SV C X n c F a) (ib:SV C X n c F b) (id':SV C X n c F d) {l r r':Expr}(ha:chkE c a l=true) (hb:chkE c b r=true) (hd:chkE c d r'=true) {P:Bool→MS→Prop}{m:MS}{s:Shared}{ρ:List Addr}(R:Rel C F ρ m s)
  (h:wpE (Call C) n a (fun x m=>wpE (Call C) n b (fun y m=>wpCmp op x y (fun t m=>match t with
   | true=>wpE (Call C) n d (fun z m=>wpCmp op' y z P m) X m
   | false=>P false m) m) X m) X m) {Q Q':Value→Shared→Prop} (k:∀b ρ' m' s',Step F.W ρ s ρ' s'→Rel C F ρ' m' s'→P b m'→Q (.bool b) s') (k':∀ρ' m' s',Step F.W ρ s ρ' s'→Rel C F ρ' m' s'→P false m'→Q' (.bool false) s') :
  wpAny (mod C) F.A (eval l F.env) (fun v s₁=>wpAny (mod C) F.A (eval r F.env) (fun w s₂=>wpAny (mod C) F.A (compareOp (cmpIs op) v w) (fun q s₃=>wpAny (mod C) F.A (truthy q) (fun t s₄=>match t with
   | true=>wpAny (mod C) F.A (eval r' F.env) (fun u s₅=>wpAny (mod C) F.A (compareOp (cmpIs op') w u) Q (Er C F X ρ s) s₅) (Er C F X ρ s) s₄
   | false=>Q' q s₄) (Er C F X ρ s) s₃) (Er C F X ρ s) s₂) (Er C F X ρ s) s₁) (Er C F X ρ s) s:=by
 refine (ia l ha _ m h).go R (.refl _ _ _) fun ρ₁ s₁ m₁ x v st t1 R₁ rx h₁=>?_
 refine (ib r hb _ m₁ h₁).go R₁ t1 fun ρ₂ s₂ m₂ y w st' t2 R₂ ry h₂=>?_
 refine cmp_two G cx cx.u R₂ t2 (rx.step st') ry h₂ fun t ρ₃ m₃ s₃ st3 t3 R₃ hq=>wpAny_truthy_bool ?_
 cases t with
 | false=>exact k' ρ₃ m₃ s₃ t3 R₃ hq
 | true=>
  refine (id' r' hd _ m₃ hq).go R₃ t3 fun ρ₄ s₄ m₄ z u st4 t4 R₄ rz h₄=>?_
  exact cmp_two G cx cx.u R₄ t4 ((ry.step st3).step st4) rz h₄ fun b ρ' m' s' _ st R' hq=>k b ρ' m' s' st R' hq
theorem sv_cmp2 (G:GOk C) (cx:CxOk C c F n) {op op':Cmp}{a b d:ME}(ia:SV C X n c F a) (ib:SV C X n c F b) (id':SV C X n c F d):SV C X n c F (.cmp2 op op' a b d):=by
 intro e hc Q m h
 obtain ⟨l,r,r',p,rfl,hx',ha,hb,hd⟩:=cmp2_inv hc
 intro s ρ R
 exact wp_Compare2 (okX_marks hx' _) (cmp2_trees G cx ia ib id' (P:=fun b m=>Q (.bool b) m) ha hb hd R h (fun b ρ' m' s' st R' hq=>⟨_,_,_,st,R',.bool b,hq⟩) fun ρ' m' s' st R' hq=>⟨_,_,_,st,R',.bool _,hq⟩)
theorem st_cmp2 (G:GOk C) (cx:CxOk C c F n) {op op':Cmp}{a b d:ME}(ia:SV C X n c F a) (ib:SV C X n c F b) (id':SV C X n c F d):ST C X n c F (.cmp2 op op' a b d):=by
 intro e hc Q m h
 obtain ⟨l,r,r',p,rfl,hx',ha,hb,hd⟩:=cmp2_inv hc
 intro s ρ R
 exact wp_test2 (okX_marks hx' _) (cmp2_trees G cx ia ib id' (P:=Q) (Q':=fun _ s'=>OutT C F ρ s Q false s') ha hb hd R h (fun b ρ' m' s' st R' hq=>wpAny_truthy_bool ⟨_,_,st,R',hq⟩) fun ρ' m' s' st R' hq=>⟨_,_,st,R',hq⟩)
end
end Internal
end
section
namespace Internal
open PySem PyProof.Rows
section
variable {C:Glo}{F:Fm}{X:XM}{c:Cx}{n:Nat}{ρ ρ' ρ₀:List Addr}{m:MS}{s s' s₀:Shared}{A:Around}{E:Value→Shared→Prop}
theorem names_inv {i:Nat}{t:List Nat}{xs:List Expr}(h:chkNames c (i::t) xs=true):∃x p r,xs=.Name x p::r∧c.nm i=some x∧setOk c x=true∧chkNames c t r=true:=by
 cases xs with
 | nil=>exact ff h
 | cons e r=>
  obtain ⟨h1,h2⟩:=Bool.and_eq_true_iff.mp h
  replace h1:=onSome_true h1
  obtain ⟨x,hx,h1⟩:=h1
  obtain ⟨p,rfl⟩:=xName_eq hx
  simp only [Bool.and_eq_true,beq_iff_eq] at h1
  exact ⟨x,p,r,rfl,h1.1,h1.2,h2⟩
theorem names_ok (cx:CxOk C c F n) {Q:MS→Prop}:∀(t:List Nat) (elts:List Expr) (xs:List MV) (vs:List Value) (m:MS) (s:Shared),chkNames c t elts=true→t.length=xs.length→RepL C ρ s.heap xs vs→Rel C F ρ m s→Q (setAll t xs m)→
  wpAny (mod C) A (assignInOrder ((assignEach elts F.env).map (·.2)) vs) (fun _ s'=>∃m',Step F.W ρ s ρ s'∧Rel C F ρ m' s'∧Q m') E s
 | [],elts,xs,vs,m,s,h,hl,hr,R,hq=>by
  cases elts with
  | nil=>
   cases hr with
   | nil=>exact wpAny_pure ⟨m,.refl _ _ _,R,hq⟩
   | cons=>cases hl
  | cons=>exact ff h
 | i::t,elts,xs,vs,m,s,h,hl,hr,R,hq=>by
  obtain ⟨x,p,r,rfl,h1,h2,h3⟩:=names_inv h
  cases hr with
  | nil=>cases hl
  | @cons x' v' xs' vs' ra rl=>
   refine wpAny_bind (wpAny_holding ?_)
   refine PyProof.Rows.assign_Name (store_var cx R h1 (setOk_is h2) ra fun s₁ st R₁=>?_)
   exact wpAny_mono (names_ok cx t r xs' vs' _ s₁ h3 (Nat.succ.inj hl) (rl.step st) R₁ hq) (fun _ s₂ ⟨m',st2,R₂,q⟩=>⟨m',st.trans st2,R₂,q⟩) fun _ _ x=>x
theorem assignEach_len (env:Env):∀(t:List Nat) (elts:List Expr),chkNames c t elts=true→(assignEach elts env).length=t.length∧(assignEach elts env).findIdx? (·.1)=none
 | [],elts,h=>by
  cases elts with
  | nil=>exact ⟨rfl,rfl⟩
  | cons=>exact ff h
 | i::t,elts,h=>by
  obtain ⟨x,p,r,rfl,_,_,h3⟩:=names_inv h
  obtain ⟨h1,h2⟩:=assignEach_len env t r h3
  refine ⟨congrArg (·+1) h1,?_⟩
  show List.findIdx? (·.1) ((false,_)::assignEach r env)=none
  rw [List.findIdx?_cons,h2];rfl
theorem assign_ok (cx:CxOk C c F n) {Q:MS→Prop}{t:List Nat}{many:Bool}{e:Expr}(h:chkT c t many e=true) {x:MV}{v:Value}(hr:Rep C ρ s.heap x v) (R:Rel C F ρ m s) (hq:asg t many x Q m) (hA:many=true→A.handled=none) :
  wpAny (mod C) A (assign e F.env v) (fun _ s'=>∃m',Step F.W ρ s ρ s'∧Rel C F ρ m' s'∧Q m') E s:=by
 cases many with
 | false=>
  obtain ⟨i,y,p,rfl,rfl,h1,h2⟩:=chkT_one h
  exact PyProof.Rows.assign_Name (store_var cx R h1 (setOk_is h2) hr fun s₁ st R₁=>⟨_,st,R₁,hq⟩)
 | true=>
  replace h:=chkT_many h
  obtain ⟨elts,k,p,rfl,h⟩:=h
  cases x with
  | tup xs=>
   have hq:t.length=xs.length∧Q (setAll t xs m):=hq
   cases hr with | @tup a k _ items g rl z=>
   obtain ⟨e1,e2⟩:=assignEach_len F.env _ _ h
   refine wpAny_assign_Tuple (hA rfl) ⟨_,g,rfl,_,rfl⟩ (by rw [e1,hq.1,List.size_toArray,rl.length]) e2 fun h' he=>?_
   have hk:∀b o,s.heap.get? b=some o→h'.get? b=some o:=fun b o eb=>he b o (fun q=>by rw [q,fresh_at (Nat.le_refl _)] at eb;exact nos1 eb) eb
   obtain ⟨R',st⟩:=R.grow (s':={ s with heap:=h' }) cx.fm hk rfl rfl
   exact wpAny_mono (names_ok cx _ _ _ _ m { s with heap:=h' } h hq.1 (rl.step st) R' hq.2) (fun _ s₂ ⟨m',st2,R₂,q⟩=>⟨m',st.trans st2,R₂,q⟩) fun _ _ x=>x
  | _=>exact (show False from hq).elim
end
end Internal
end
section
namespace Internal
open PySem PyProof.Rows
section
variable {W W' S:List Addr}{ρ ρ' ρ₂:List Addr}{s s' s₂:Shared}
theorem Step.mono (hW:∀a∈W,a∈W') (x:Step W ρ s ρ' s'):Step W' ρ s ρ' s':=
 ⟨x.pre,x.new,fun a o e h1 h2=>x.keep a o e h1 fun q=>h2 (hW a q),x.solid,x.alive,x.gens,x.os⟩
theorem Step.ofSide (sd:Side S s s') (hS:∀a∈S,a∈W) (h1:∀a∈S,Shp s.heap a) (h2:∀a∈S,Shp s'.heap a):Step W ρ s ρ s':=
 ⟨List.prefix_refl _,fun _ h=>.inl h,fun a o e _ h=>.inl (sd.1 a o (fun q=>h (hS a q)) e),shp_solids h1 sd,fun a o e=>by
  by_cases q:a∈S
  ·obtain ⟨o',e',_⟩:=h2 a q;exact ⟨o',e'⟩
  ·exact ⟨o,sd.1 a o q e⟩,sd.2.1,sd.2.2⟩
theorem Step.behind (x:Step W ρ s ρ₂ s₂) (y:Step W' ρ₂ s₂ ρ' s') (h:∀a∈W',s.heap.get? a=none):Step W ρ s ρ' s' where
 pre:=x.pre.trans y.pre
 new:=fun a h=>(y.new a h).elim (fun h=>x.new a h) fun h=>.inr (none_back x h)
 keep:=fun a o e h1 h2=>by
  have hw:a∉W':=fun q=>by rw [h a q] at e;cases e
  have h1':a∉ρ₂:=fun h=>(x.new a h).elim h1 fun h=>by rw [h] at e;cases e
  rcases x.keep a o e h1 h2 with e1 | ⟨hc,sl,e1⟩
  ·exact y.keep a o e1 h1' hw
  ·rcases y.keep a _ e1 h1' hw with e2 | ⟨_,sl2,e2⟩
   ·exact .inr ⟨hc,sl,e2⟩
   ·exact .inr ⟨hc,sl2,e2⟩
 solid:=fun a o e h=>y.solid a o (x.solid a o e h) h
 alive:=fun a o e=>let ⟨o',e'⟩:=x.alive a o e;y.alive a o' e'
 gens:=y.gens.trans x.gens
 os:=y.os.trans x.os
end
noncomputable def subFm (F:Fm) (sc:Scope) (cl:List (Str × Addr)) (t:List Nat) (tn:List Str) (L:Addr):Fm where
 env:=compEnvC sc cl L F.env
 A:=F.A
 W:=[L]
 V:=F.W++F.V
 lay:=fun i=>match (t.zip tn).lookup i with
  | some x=>some (.nm L x)
  | none=>F.lay i
 frs:=F.frs
structure CompOk (c:Cx) (sc:Scope) (t:List Nat) (tn:List Str):Prop where
 kind:sc.kind=.function
 cell:∀p∈sc.names,p.2≠.cell
 loc:∀p∈sc.names,p.2=.local→sc.names.lookup p.1=some .local
 free:∀p∈sc.names,p.2=.free→(∃i,c.nm i=some p.1)∧c.kind p.1≠some .local∧cdc p.1=false
 len:t.length=tn.length
 nodup:t.Nodup
 nodup':tn.Nodup
 fr:∀i∈t,c.fr i=true
 tn:∀x∈tn,sc.names.lookup x=some .local
theorem compOk_is {c:Cx}{sc:Scope}{t:List Nat}{tn:List Str}(h:compOk c sc t tn=true):CompOk c sc t tn:=by
 simp only [compOk,Bool.and_eq_true,beq_iff_eq,decide_eq_true_eq,List.all_eq_true] at h
 obtain ⟨⟨⟨⟨⟨⟨h1,h2⟩,h3⟩,h4⟩,h5⟩,h6⟩,h7⟩:=h
 refine ⟨h1,fun p hp=>?_,fun p hp e=>?_,fun p hp e=>?_,h3,h4,h5,h6,h7⟩
 ·have:=(h2 p hp).1.1;simpa using this
 ·have:=(h2 p hp).1.2
  rw [e] at this;simpa using this
 ·have:=(h2 p hp).2
  rw [e] at this
  simp only [bne_self_eq_false,Bool.false_or,freeOk,Bool.and_eq_true,List.any_eq_true,beq_iff_eq,bne_iff_ne,Bool.not_eq_true'] at this
  obtain ⟨⟨⟨i,_,e1⟩,e2⟩,e3⟩:=this
  exact ⟨⟨i,e1⟩,e2,e3⟩
set_option tactic.hygienic true in
theorem lk_mem {α β:Type} [BEq α] [LawfulBEq α]:∀{l:List (α × β)}{a:α}{b:β},l.lookup a=some b→(a,b)∈l
 | [],_,_,h=>by cases h
 | (x,y)::r,a,b,h=>by
  rw [List.lookup_cons] at h
  split at h
  ·rename_i q;cases h;have:a=x:=by simpa using q
   subst this;exact List.mem_cons_self ..
  ·exact List.mem_cons_of_mem _ (lk_mem h)
theorem zip_mem {t:List Nat}{tn:List Str}{i:Nat}{x:Str}(h:(t.zip tn).lookup i=some x):i∈t∧x∈tn∧∃k:Nat,t[k]?=some i∧tn[k]?=some x:=by
 have hm:=lk_mem h
 refine ⟨(List.of_mem_zip hm).1,(List.of_mem_zip hm).2,?_⟩
 obtain ⟨k,hk⟩:=List.getElem?_of_mem hm
 exact ⟨k,(List.getElem?_zip_eq_some.mp hk).1,(List.getElem?_zip_eq_some.mp hk).2⟩
theorem zip_inj {t:List Nat}{tn:List Str}(hn:tn.Nodup) {i j:Nat}{x:Str}(h1:(t.zip tn).lookup i=some x) (h2:(t.zip tn).lookup j=some x):i=j:=by
 obtain ⟨_,_,k,a1,a2⟩:=zip_mem h1
 obtain ⟨_,_,l,b1,b2⟩:=zip_mem h2
 have q1:=List.getElem?_eq_some_iff.mp a2
 have q2:=List.getElem?_eq_some_iff.mp b2
 have:k=l:=(List.getElem_inj hn).mp (q1.2.trans q2.2.symm)
 subst this
 rw [a1] at b1;cases b1;rfl
theorem zip_some:∀{t:List Nat}{tn:List Str},t.length=tn.length→∀{i:Nat},i∈t→∃x,(t.zip tn).lookup i=some x
 | [],_,_,_,h=>by cases h
 | _::_,[],h,_,_=>by cases h
 | a::t,x::tn,hl,i,h=>by
  simp only [List.zip_cons_cons,List.lookup_cons]
  by_cases e:i=a
  ·subst e;exact ⟨x,by simp⟩
  ·rcases List.mem_cons.mp h with q | q
   ·exact absurd q e
   ·obtain ⟨y,hy⟩:=zip_some (by simpa using hl) q
    exact ⟨y,by rw [show (i==a)=false by simpa using e];exact hy⟩
theorem relab_lookup {kind:Str→Option NameKind}:∀{names:List (Str × NameKind)}{x:Str}{k:NameKind},names.lookup x=some k→(relab kind names).lookup x=some (if (k==.free&&kind x==some .cell) then .cell else k)
 | [],_,_,h=>by cases h
 | (y,k')::r,x,k,h=>by
  have ih:=@relab_lookup kind r x k
  show List.lookup x ((if (k'==.free&&kind y==some .cell) then (y,NameKind.cell) else (y,k'))::relab kind r)=_
  by_cases e:x=y
  ·subst e
   simp only [List.lookup_cons,beq_self_eq_true] at h
   obtain rfl:k'=k:=Option.some.inj h
   by_cases q:(k'==NameKind.free&&kind x==some .cell)=true
   ·rw [if_pos q,if_pos q];simp [List.lookup_cons]
   ·rw [if_neg q,if_neg q];simp [List.lookup_cons]
  ·have e':(x==y)=false:=by simpa using e
   simp only [List.lookup_cons,e'] at h
   by_cases q:(k'==NameKind.free&&kind y==some .cell)=true
   ·rw [if_pos q];simp only [List.lookup_cons,e'];exact ih h
   ·rw [if_neg q];simp only [List.lookup_cons,e'];exact ih h
theorem relabel_is {env:Env}{kind:Str→Option NameKind}(h:∀x,env.kindOf x=kind x) (hk:env.scope.kind=.function) (sc:Scope):(relabel sc env).names=relab kind sc.names:=by
 unfold relabel relab
 simp only [hk,h,beq_self_eq_true,Bool.and_true]
set_option tactic.hygienic true in
theorem closure_list {env:Env}{f:Str × NameKind→List (Str × Addr)→Sem (ForInStep (List (Str × Addr)))}(h1:∀x a acc,env.cells.lookup x=some a→f (x,.free) acc=pure (.yield ((x,a)::acc)))
  (h2:∀x k acc,k≠.free→f (x,k) acc=pure (.yield acc)):∀(names:List (Str × NameKind)) (acc:List (Str × Addr)),(∀p∈names,p.2=.free→∃a,env.cells.lookup p.1=some a)→(∀y b,acc.lookup y=some b→env.cells.lookup y=some b)→
   ∃cl,forIn names acc f=pure cl∧(∀y b,cl.lookup y=some b→env.cells.lookup y=some b)∧(∀y,(acc.lookup y).isSome→(cl.lookup y).isSome)∧∀y,(y,NameKind.free)∈names→(cl.lookup y).isSome
 | [],acc,_,ha=>⟨acc,rfl,ha,fun _ h=>h,fun _ h=>by cases h⟩
 | (x,k)::r,acc,hn,ha=>by
  have hr:∀p∈r,p.2=.free→∃a,env.cells.lookup p.1=some a:=fun p hp=>hn p (List.mem_cons_of_mem _ hp)
  by_cases hk:k=.free
  ·subst hk
   obtain ⟨a,e⟩:=hn (x,.free) (List.mem_cons_self ..) rfl
   have ha':∀y b,((x,a)::acc).lookup y=some b→env.cells.lookup y=some b:=fun y b q=>by
    simp only [List.lookup_cons] at q
    split at q
    ·rename_i q';cases q;have:y=x:=by simpa using q'
     subst this;exact e
    ·exact ha y b q
   obtain ⟨cl,c1,c2,c3,c4⟩:=closure_list h1 h2 r ((x,a)::acc) hr ha'
   have hx:(((x,a)::acc).lookup x).isSome:=by simp [List.lookup_cons]
   refine ⟨cl,?_,c2,fun y hy=>c3 y ?_,fun y hy=>?_⟩
   ·rw [List.forIn_cons,h1 x a acc e];exact c1
   ·simp only [List.lookup_cons];split
    ·rfl
    ·exact hy
   ·rcases List.mem_cons.mp hy with q | q
    ·cases q;exact c3 _ hx
    ·exact c4 y q
  ·obtain ⟨cl,c1,c2,c3,c4⟩:=closure_list h1 h2 r acc hr ha
   refine ⟨cl,?_,c2,c3,fun y hy=>?_⟩
   ·rw [List.forIn_cons,h2 x k acc hk];exact c1
   ·rcases List.mem_cons.mp hy with q | q
    ·cases q;exact absurd rfl hk
    ·exact c4 y q
theorem closure_ok {env:Env}{sc:Scope}(h:∀p∈sc.names,p.2=.free→∃a,env.cells.lookup p.1=some a):∃cl,closureFor sc env=pure cl∧∀x a,(x,NameKind.free)∈sc.names→env.cells.lookup x=some a→cl.lookup x=some a:=by
 obtain ⟨cl,c1,c2,_,c4⟩:=closure_list (env:=env) (f:=fun p cs=>if p.2==.free then do let r ←cellOf env p.1;pure (ForInStep.yield ((p.1,r)::cs)) else pure (ForInStep.yield cs))
  (fun x a acc e=>by simp [cellOf,e]) (fun x k acc hk=>by simp [hk]) sc.names [] h (fun y b q=>by cases q)
 refine ⟨cl,?_,fun x a hx e=>?_⟩
 ·unfold closureFor
  refine Eq.trans ?_ (congrArg (· >>= pure) c1)
  rfl
 ·obtain ⟨b,hb⟩:=Option.isSome_iff_exists.mp (c4 x hx)
  have:=c2 x b hb
  rw [e] at this;cases this;exact hb
section
variable {C:Glo}{F:Fm}{X:XM}{c:Cx}{n:Nat}{ρ ρ' ρ₀:List Addr}{m:MS}{s s' s₀:Shared}{sc:Scope}{cl:List (Str × Addr)}{t:List Nat}{tn:List Str}{L:Addr}
set_option tactic.hygienic true in
theorem subFm_ok (cx:CxOk C c F n) (h:CompOk c sc t tn) (hL:L∉F.W++F.V):FmOk (subFm F sc cl t tn L) where
 loc:=List.mem_singleton.mpr rfl
 lay:=fun i l e=>by
  simp only [subFm] at e ⊢
  split at e
  ·cases e;exact List.mem_append_left _ (List.mem_singleton.mpr rfl)
  ·exact List.mem_append_right _ (cx.fm.lay i l e)
 inj:=fun i j l e1 e2=>by
  simp only [subFm] at e1 e2
  split at e1
  ·rename_i x hx
   cases e1
   split at e2
   ·rename_i y hy;cases e2;exact zip_inj h.nodup' hx hy
   ·exact absurd (cx.fm.lay j _ e2) hL
  ·split at e2
   ·rename_i y hy;cases e2;exact absurd (cx.fm.lay i _ e1) hL
   ·exact cx.fm.inj i j l e1 e2
 kind:=by show (relabel sc F.env).kind=.function;exact h.kind
 frs:=cx.fm.frs
theorem free_cell (cx:CxOk C c F n) (h:CompOk c sc t tn):∀p∈sc.names,p.2=.free→∃a,F.env.cells.lookup p.1=some a:=fun p hp e=>by
 obtain ⟨⟨i,h1⟩,h2,_⟩:=h.free p hp e
 rcases cx.nm i _ h1 with ⟨q,_⟩ | ⟨a,_,q,_⟩
 ·rw [cx.kind] at q;exact absurd q h2
 ·exact ⟨a,q⟩
set_option tactic.hygienic true in
theorem subCx_ok (cx:CxOk C c F n) (h:CompOk c sc t tn) (hL:L∉F.W++F.V) (hcl:∀x a,(x,NameKind.free)∈sc.names→F.env.cells.lookup x=some a→cl.lookup x=some a):CxOk C (subCx c sc t tn) (subFm F sc cl t tn L) n where
 fm:=subFm_ok cx h hL
 kind:=fun x=>by
  show (relabel sc F.env).names.lookup x=(relab c.kind sc.names).lookup x
  rw [relabel_is cx.kind cx.fm.kind]
 nm:=fun i x e=>by
  have hkk:∀x,(subFm F sc cl t tn L).env.kindOf x=(relab c.kind sc.names).lookup x:=fun x=>by
   show (relabel sc F.env).names.lookup x=_
   rw [relabel_is cx.kind cx.fm.kind]
  simp only [subCx] at e
  split at e
  ·rename_i y hy
   cases e
   refine .inl ⟨?_,?_⟩
   ·rw [hkk,relab_lookup (h.tn x (zip_mem hy).2.1)];rfl
   ·simp only [subFm,hy];rfl
  ·rename_i hy
   unfold subNm at e
   split at e
   ·rename_i y hy'
    split at e
    ·rename_i hf
     cases e
     have hf:sc.names.lookup x=some .free:=by simpa using hf
     have hm:=lk_mem hf
     obtain ⟨_,k2,k3⟩:=h.free _ hm rfl
     rcases cx.nm i x hy' with ⟨q,_⟩ | ⟨a,q1,q2,q3⟩
     ·rw [cx.kind] at q;exact absurd q k2
     ·refine .inr ⟨a,?_,hcl x a hm q2,by simp only [subFm,hy];exact q3⟩
      rw [hkk,relab_lookup hf]
      by_cases e:c.kind x=some .cell
      ·exact .inl (by simp [e])
      ·exact .inr ⟨by simp [e],k3⟩
    ·cases e
   ·cases e
 glob:=cx.glob
 meth:=cx.meth
 attr:=cx.attr
 hn:=cx.hn
 hf:=cx.hf
 units:=cx.units
 room:=cx.room
 inter:=by
  show interactive (compEnvC sc cl L F.env)=false
  unfold interactive
  show ((relabel sc F.env).kind==_&&_)=false
  rw [show (relabel sc F.env).kind=ScopeKind.function from h.kind];rfl
 wr:=fun i a _ e=>by cases e
 fr:=fun i e=>by
  simp only [subCx,Bool.and_eq_true,Bool.not_eq_true'] at e
  simp only [subFm]
  split
  ·rename_i x hx
   have:=(zip_mem hx).1
   have e2:=e.2
   rw [List.contains_eq_mem] at e2
   simp [this] at e2
  ·exact cx.fr i e.1
set_option tactic.hygienic true in
theorem subRel (cx:CxOk C c F n) (R:Rel C F ρ m s) (h:CompOk c sc t tn) (hk:∀a o,s.heap.get? a=some o→s'.heap.get? a=some o) (hg:s'.gens=s.gens) (hL:s.heap.get? L=none) (hns:∃f,s'.heap.Ns L f):Rel C (subFm F sc cl t tn L) ρ m s' where
 hp:=R.hp.up (fun a o e _=>hk a o e) (fun a _ o e=>hk a o e) fun b o e=>hk b o (R.hp.base b o e)
 ns:=hns
 w:=fun a ha=>by
  have ha:a∈[L]++(F.W++F.V):=ha
  rcases List.mem_append.mp ha with q | q
  ·have:a=L:=by simpa using q
   subst this
   refine ⟨fun q=>?_,base_fresh R.hp hL,?_⟩
   ·obtain ⟨o,e⟩:=R.hp.there q;rw [hL] at e;cases e
   ·obtain ⟨f,o,es,ep,e1,e2,_⟩:=hns
    exact ⟨o,e1,.inl ⟨es,ep,e2⟩⟩
  ·obtain ⟨h1,h2,o,h3,h4⟩:=R.w a q
   exact ⟨h1,h2,o,hk a o h3,h4⟩
 vars:=fun i v e=>by
  obtain ⟨l,h1,h2⟩:=R.vars i v e
  refine ⟨l,?_,h2.up (fun a o e _=>hk a o e) (List.prefix_refl _) (fun o e=>⟨o,hk _ o e,rfl,rfl⟩)⟩
  simp only [subFm]
  split
  ·rename_i x hx
   rw [cx.fr i (h.fr i (zip_mem hx).1)] at h1;cases h1
  ·exact h1
 cells:=fun i a e=>by
  simp only [subFm] at e
  split at e
  ·cases e
  ·obtain ⟨v,o,h1,h2⟩:=R.cells i a e
   exact ⟨v,o,hk a o h1,h2⟩
 out:=fun L hL=>by
  obtain ⟨h1,h2,o,h3,h4⟩:=R.out L hL
  exact ⟨h1,h2,o,hk L o h3,h4⟩
 gens:=hg.trans R.gens
end
end Internal
end
section
namespace Internal
open PySem PyProof.Rows
section
variable {C:Glo}{F:Fm}{X:XM}{c:Cx}{n:Nat}{ρ ρ' ρ₀:List Addr}{m:MS}{s s' s₀:Shared}{A:Around}
theorem comp_turns {elt target iter:Expr}{ifs:List Expr}{scope:Scope}{pos:Pos}{it acc:Value}{env:Env}{R:Result→Shared→Prop}(I:Nat→Shared→Prop)
  (turn:∀k s,I k s→wpAny (mod C) A (pyNext it) (fun r s₁=>match r with
   | none=>R (.ok .next) s₁
   | some v=>wpAny (mod C) A (letOwnedTupleGo target it v) (fun _ s₂=>wpAny (mod C) A (assign target env v) (fun _ s₃=>
     wpAny (mod C) A (forIn ifs true fun c r=>if r=true then do let ok ←isTrue c env (eval c env);pure (ForInStep.yield ok) else pure (ForInStep.yield r)) (fun ok s₄=>
      match ok with
      | true=>wpAny (mod C) A (eval elt env) (fun x s₅=>wpAny (mod C) A (call (.builtin "list.append") [acc,x]) (fun _ s₆=>∃j,j<k∧I j s₆) (fun _ _=>False) s₅) (fun _ _=>False) s₄
      | false=>∃j,j<k∧I j s₄) (fun _ _=>False) s₃) (fun _ _=>False) s₂) (fun _ _=>False) s₁) (fun _ _=>False) s)
  (k:Nat) (h:I k s):codeAny (mod C) A (.compLoop (.ListComp elt [⟨target,iter,ifs,0⟩] scope pos) 0 it acc env) R s:=by
 refine codeAny_loop rfl I (fun k s hI=>?_) k h
 show wpAny _ A ((compTurn (.ListComp elt [⟨target,iter,ifs,0⟩] scope pos) 0 it acc env).onRaise (fun x=>do noteFrame x env;theTreesLotGoes x)) _ _ s
 refine wpAny_noted ?_
 rw [compTurn_list]
 refine wpAny_bind (wpAny_standAt (wpAny_bind (wpAny_mono (turn k s hI) (fun r s₁ h₁=>?_) fun _ _ h'=>h'.elim)))
 cases r with
 | none=>exact wpAny_pure h₁
 | some v=>
  refine wpAny_bind (wpAny_mono h₁ (fun _ s₂ h₂=>wpAny_bind (wpAny_mono h₂ (fun _ s₃ h₃=>wpAny_bind (wpAny_mono h₃ (fun ok s₄ h₄=>?_) fun _ _ h'=>h'.elim)) fun _ _ h'=>h'.elim)) fun _ _ h'=>h'.elim)
  cases ok with
  | false=>exact wpAny_pure ⟨rfl,h₄⟩
  | true=>exact wpAny_bind (wpAny_bind (wpAny_mono h₄ (fun x s₅ h₅=>wpAny_bind (wpAny_mono h₅ (fun _ s₆ h₆=>wpAny_pure (wpAny_pure ⟨rfl,h₆⟩)) fun _ _ h'=>h'.elim)) fun _ _ h'=>h'.elim))
theorem ifs_ok (cx:CxOk C c F n):∀{ifs:List ME},(∀a∈ifs,ST C X n c F a)→∀(xs:List Expr),chkEs c ifs xs=true→∀(Q:Bool→MS→Prop) (m:MS),wpIfs (Call C) n ifs Q X m→
  WPt C F X (forIn xs true fun c r=>if r=true then do let ok ←isTrue c F.env (eval c F.env);pure (ForInStep.yield ok) else pure (ForInStep.yield r)) Q m
 | [],ih,xs,hc,Q,m,h=>by
  cases xs with
  | nil=>intro s ρ R;exact wpAny_pure ⟨_,_,.refl _ _ _,R,h⟩
  | cons=>exact ff hc
 | e::es,ih,xs,hc,Q,m,h=>by
  cases xs with
  | nil=>exact ff hc
  | cons x xs=>
   replace hc:=chkEs_cons hc
   intro s ρ R
   rw [List.forIn_cons]
   refine wpAny_bind ?_
   show wpAny (mod C) F.A (do let ok ←isTrue x F.env (eval x F.env);pure (ForInStep.yield ok)) _ _ _
   refine wpAny_bind ((ih e (by exact List.mem_cons_self ..) x hc.1.2 _ m h).go R (.refl _ _ _) fun ρ₁ s₁ m₁ b st t1 R₁ h₁=>wpAny_pure ?_)
   show wpAny (mod C) F.A (forIn xs b fun c r=>if r=true then do let ok ←isTrue c F.env (eval c F.env);pure (ForInStep.yield ok) else pure (ForInStep.yield r)) _ _ _
   cases b with
   | true=>exact wpAny_mono (ifs_ok cx (fun a ha=>ih a (List.mem_cons_of_mem _ ha)) xs hc.2 Q m₁ h₁ s₁ ρ₁ R₁) (fun b s' ⟨ρ',m',a,b',c'⟩=>⟨ρ',m',t1.trans a,b',c'⟩) (Er.back t1)
   | false=>
    have:∀(ys:List Expr) (P:Bool→Shared→Prop) (E:Value→Shared→Prop),P false s₁→wpAny (mod C) F.A (forIn ys false fun c r=>if r=true then do let ok ←isTrue c F.env (eval c F.env);pure (ForInStep.yield ok) else pure (ForInStep.yield r)) P E s₁:=by
     intro ys
     induction ys with
     | nil=>intro P E hp;exact wpAny_pure hp
     | cons y ys ihy=>intro P E hp;rw [List.forIn_cons];exact wpAny_bind (wpAny_pure (ihy P E hp))
    exact this xs _ _ ⟨_,_,t1,R₁,h₁⟩
termination_by structural ifs=>ifs
noncomputable def Let (C:Glo) (F:Fm) (L:Addr) (ρ₀:List Addr) (s₀:Shared) (ρ:List Addr) (s:Shared):Prop:=
 ∀ρ' m' s',Step F.W ρ s ρ' s'→Rel C F ρ' m' s'→(∃f,s'.heap.Ns L f)∧∀h',Heap.SameBut L s'.heap h'→Rel C F ρ' m' { s' with heap:=h' }∧Step F.W ρ₀ s₀ ρ' { s' with heap:=h' }∧Solids s'.heap h'
theorem let_ok (cx:CxOk C c F n) {L:Addr}(st₀:Step F.W ρ₀ s₀ ρ s) (R₀:Rel C F ρ₀ m s₀) (h0:s₀.heap.get? L=none) (h1:L∉ρ) (h2:L∉F.W++F.V) (h3:∃f,s.heap.Ns L f):Let C F L ρ₀ s₀ ρ s:=by
 intro ρ' m' s' st R
 obtain ⟨f,hf⟩:=h3
 obtain ⟨o,es,ep,e1,e2,e3⟩:=id hf
 have hb:=base_fresh R₀.hp h0
 have hL:L∉ρ':=fun q=>(st.new L q).elim h1 fun q=>by exact nosome q e1
 have hd:∀o,s.heap.get? L=some o→∃o',s'.heap.get? L=some o'∧o'.data=o.data:=fun o e=>by
  rcases st.keep L o e h1 (fun q=>h2 (List.mem_append_left _ q)) with q | ⟨_,sl,q⟩
  ·exact ⟨_,q,rfl⟩
  ·exact ⟨_,q,rfl⟩
 have hf':s'.heap.Ns L f:=ns_data hf hd
 refine ⟨⟨f,hf'⟩,fun h' hs=>?_⟩
 obtain ⟨o',g1,g2⟩:=hd o e1
 have hw:WOk s'.heap L:=⟨o',g1,.inl ⟨es,ep,g2.trans e2⟩⟩
 have hsol:Solids s'.heap h':=solids_but (fun b ob q e=>(hs.2 b q).trans e) (wok_not_solid hw)
 have sd:Side [L] s' { s' with heap:=h' }:=⟨fun b ob hb e=>(hs.2 b (by exact fun q=>hb (List.mem_singleton.mpr q))).trans e,rfl,rfl⟩
 refine ⟨R.side0 cx.fm hsol (fun a ha=>?_) (fun L' hL' q=>?_) sd,(st₀.trans st).side sd (fun a ha=>?_),hsol⟩
 ·have:a=L:=by exact List.mem_singleton.mp ha
  subst this;exact ⟨hL,h2,hb⟩
 ·have:L'=L:=by exact List.mem_singleton.mp q
  subst this
  obtain ⟨_,_,ob,k5,_⟩:=R₀.out _ hL'
  exact nosome h0 k5
 ·have:a=L:=by exact List.mem_singleton.mp ha
  subst this;exact h0
end
end Internal
end
section
namespace Internal
open PySem PyProof.Rows
section
variable {C:Glo}{F:Fm}{X:XM}{c:Cx}{n:Nat}{ρ ρ' ρ₀:List Addr}{m:MS}{s s' s₀:Shared}{A:Around}
inductive CompI (C:Glo) (F:Fm) (W:List Addr) (items:List MV) (g:Option (Nat × List MV)) (stp:MV→(Option MV→MS→Prop)→MS→Prop) (Q:List MV→MS→Prop) (D:Addr) (S:List Addr) (It:Nat→List Addr→Shared→Prop) (ρ₀:List Addr) (s₀:Shared) (k:Nat) (s:Shared):Prop
 | mk (ρ:List Addr) (m:MS) (i:Nat) (acc:List MV) (accv:List Value) (k₁:Nat) (hk:k=items.length-i) (st:Step W ρ₀ s₀ ρ s) (R:Rel C F ρ m s) (hit:It i ρ s) (as:Aside C F ρ s.heap (D::S)) (hD:s.heap.get? D=some (listO accv k₁)) (rl:RepL C ρ s.heap acc accv) (hal:acc.length≤i) (hil:i≤items.length) (hf:compL g stp Q (items.drop i) acc m)
theorem comp_loop {F':Fm}{c':Cx}(cx':CxOk C c' F' n) (hnh:c'.nh=true) {L D:Addr}(hW:F'.W=[L]) {target elt' iter:Expr}{ifs':List Expr}{elt:ME}{ifs:List ME}{t:List Nat}{many:Bool}{sc:Scope}{pos:Pos}{itv:Value}{items:List MV}{g:Option (Nat × List MV)}{S:List Addr}{It:Nat→List Addr→Shared→Prop}
  (wk:Walk C F'.A target itv items g S It) (hlen:items.length≤line) (helt:SV C noX n c' F' elt) (hce:chkE c' elt elt'=true) (hifs:∀a∈ifs,ST C noX n c' F' a) (hci:chkEs c' ifs ifs'=true) (ht:chkT c' t many target=true)
  {stp:MV→(Option MV→MS→Prop)→MS→Prop}(hstp:∀v P m,stp v P m→asg t many v (fun m=>wpIfs (Call C) n ifs (fun b m=>match b with
    | true=>wpE (Call C) n elt (fun x m=>P (some x) m) noX m
    | false=>P none m) noX m) m)
  {Q:List MV→MS→Prop}(R:Rel C F' ρ m s) (h0:It 0 ρ s) (as:Aside C F' ρ s.heap (D::S)) (hDS:D∉S) {k₀:Nat}(hD:s.heap.get? D=some (listO [] k₀))
  (h:compL g stp Q items [] m)
  {RR:Result→Shared→Prop}(hk:∀ρ' m' s₁ s' acc accv k,Step (L::D::S) ρ s ρ' s₁→Side S s₁ s'→Solids s₁.heap s'.heap→Rel C F' ρ' m' s'→s'.heap.get? D=some (listO accv k)→RepL C ρ' s'.heap acc accv→acc.length≤line→Q acc m'→RR (.ok .next) s') :
  codeAny (mod C) F'.A (.compLoop (.ListComp elt' [⟨target,iter,ifs',0⟩] sc pos) 0 itv (.ref D) F'.env) RR s:=by
 have hn:=cx'.hn hnh
 refine comp_turns (CompI C F' (L::D::S) items g stp Q D S It ρ s) (fun k s₁ hI=>?_) _ ⟨ρ,m,0,[],[],k₀,rfl,.refl _ _ _,R,h0,as,hD,.nil,Nat.le_refl _,Nat.zero_le _,by exact h⟩
 obtain ⟨ρ₁,m₁,i,acc,accv,k₁,rfl,st₁,R₁,hit,as₁,hD₁,rl,hal,hil,hf⟩:=hI
 have hsub:∀a∈S,a∈L::D::S:=fun a ha=>List.mem_cons_of_mem _ (List.mem_cons_of_mem _ ha)
 have hsubD:∀a∈[D],a∈L::D::S:=fun a ha=>by
  have:a=D:=by exact List.mem_singleton.mp ha
  subst this;exact List.mem_cons_of_mem _ (List.mem_cons_self ..)
 have hsubL:∀a∈F'.W,a∈L::D::S:=fun a ha=>by
  rw [hW] at ha
  have:a=L:=by exact List.mem_singleton.mp ha
  subst this;exact List.mem_cons_self ..
 have asS:Aside C F' ρ₁ s₁.heap S:=fun a ha=>as₁ a (List.mem_cons_of_mem _ ha)
 cases e:items[i]? with
 | none=>
  have hd:items.drop i=[]:=by rw [List.drop_eq_nil_iff];exact List.getElem?_eq_none_iff.mp e
  rw [hd,compL_nil] at hf
  obtain ⟨hg,hq⟩:=hf
  refine wpAny_mono (wk.done i ρ₁ m₁.heap s₁ R₁.hp hg hit e (fun _ _=>False) (fun s₂=>Side S s₁ s₂) fun s₂ sd=>sd) (fun r s₂ ⟨hr,sd⟩=>?_) fun _ _ x=>x.elim
  subst hr
  have hsol:=asS.solids sd
  exact hk ρ₁ m₁ s₁ s₂ acc accv k₁ st₁ sd hsol (R₁.side cx'.fm asS sd) (sd.1 D _ hDS hD₁) (rl.up hsol (List.prefix_refl _)) (Nat.le_trans hal (Nat.le_trans hil hlen)) hq
 | some x=>
  obtain ⟨hlt,hx⟩:=List.getElem?_eq_some_iff.mp e
  rw [List.drop_eq_getElem_cons hlt,hx,compL_cons] at hf
  obtain ⟨hg,hq⟩:=hf
  refine wk.item i ρ₁ m₁.heap s₁ x R₁.hp hg hit e _ _ _ fun v s₂ sd hit' rv=>?_
  have hsol:=asS.solids sd
  have R₂:=R₁.side cx'.fm asS sd
  have sh₂:=wk.shape _ _ _ hit'
  have hD₂:=sd.1 D _ hDS hD₁
  have as₂:Aside C F' ρ₁ s₂.heap (D::S):=as₁.shape fun a ha=>by
   rcases List.mem_cons.mp ha with rfl | ha
   ·exact shp_one hD₂ rfl (by decide) (fun ⟨_,_,q⟩=>by cases q) a (by exact List.mem_singleton.mpr rfl)
   ·exact sh₂ a ha
  have rl₂:=rl.up hsol (List.prefix_refl _)
  have st₂:=st₁.trans (Step.ofSide sd hsub (fun a ha=>(asS a ha).2.2.2) sh₂)
  refine wpAny_mono (assign_ok cx' ht rv R₂ (hstp _ _ _ hq) fun _=>hn) (fun _ s₃ h₃=>?_) fun _ _ x=>x
  obtain ⟨m₃,st₃,R₃,hq₃⟩:=h₃
  refine wpAny_mono ((ifs_ok cx' hifs ifs' hci _ m₃ hq₃).go R₃ st₃ fun ρ₄ s₄ m₄ b st₄ t₄ R₄ h₄=>?_) (fun b s₄ h₄=>h₄) fun _ _ x=>Er.no x
  obtain ⟨as₄,kp₄⟩:=as₂.step t₄
  cases b with
  | false=>exact ⟨_,Nat.sub_succ_lt_self _ _ hlt,ρ₄,m₄,i+1,acc,accv,k₁,rfl,st₂.trans (t₄.mono hsubL),R₄,wk.keep _ _ _ _ _ hit' t₄.pre t₄.solid (fun a ha=>kp₄ a (List.mem_cons_of_mem _ ha)),as₄,kp₄ D (List.mem_cons_self ..) _ hD₂,rl₂.step t₄,Nat.le_succ_of_le hal,hlt,h₄⟩
  | true=>
   refine wpAny_mono ((helt elt' hce _ m₄ h₄).go R₄ t₄ fun ρ₅ s₅ m₅ y w st₅ t₅ R₅ ry h₅=>?_) (fun b s₅ h₅=>h₅) fun _ _ x=>Er.no x
   obtain ⟨as₅,kp₅⟩:=as₂.step t₅
   have hD₅:=kp₅ D (List.mem_cons_self ..) _ hD₂
   have rl₅:=rl₂.step t₅
   refine PySem.wpAny_list_append_plain ⟨_,hD₅⟩ (fun h' hl hs=>?_) (by rw [List.size_toArray,rl₅.length];exact Nat.le_trans hal (Nat.le_trans (Nat.le_of_lt hlt) hlen))
   obtain ⟨k₆,hl⟩:=hl
   have sd₆:Side [D] s₅ { s₅ with heap:=h' }:=⟨fun b ob hb e=>(hs.2 b (by exact fun q=>hb (List.mem_singleton.mpr q))).trans e,rfl,rfl⟩
   have asD:Aside C F' ρ₅ s₅.heap [D]:=fun a ha=>as₅ a (by
    have:a=D:=by exact List.mem_singleton.mp ha
    subst this;exact List.mem_cons_self ..)
   have hsol₆:=asD.solids sd₆
   have hD₆:h'.get? D=some (listO (accv++[w]) k₆):=by rw [hl];simp
   have shD:∀a∈[D],Shp h' a:=shp_one hD₆ rfl (by decide) (fun ⟨_,_,q⟩=>by cases q)
   have kS:∀a∈S,∀o,s₅.heap.get? a=some o→h'.get? a=some o:=fun a ha o e=>sd₆.1 a o (fun q=>by
    have:a=D:=by exact List.mem_singleton.mp q
    subst this;exact hDS ha) e
   refine ⟨_,Nat.sub_succ_lt_self _ _ hlt,ρ₅,m₅,i+1,acc++[y],accv++[w],k₆,rfl,(st₂.trans (t₅.mono hsubL)).trans (Step.ofSide sd₆ hsubD (fun a ha=>(asD a ha).2.2.2) shD),R₅.side cx'.fm asD sd₆,
    wk.keep _ _ _ _ _ hit' t₅.pre (fun a o e h=>hsol₆ a o (t₅.solid a o e h) h) (fun a ha o e=>kS a ha o (kp₅ a (List.mem_cons_of_mem _ ha) o e)),as₅.shape (fun a ha=>?_),hD₆,
    (rl₅.append (.cons ry .nil)).up hsol₆ (List.prefix_refl _),(by rw [List.length_append];exact Nat.succ_le_succ hal),hlt,h₅⟩
   rcases List.mem_cons.mp ha with rfl | ha
   ·exact shD a (by exact List.mem_singleton.mpr rfl)
   ·obtain ⟨o,e1,e2⟩:=(as₅ a (List.mem_cons_of_mem _ ha)).2.2.2
    exact ⟨o,kS a ha o e1,e2⟩
end
end Internal
end
section
namespace Internal
open PySem PyProof.Rows
section
variable {C:Glo}{F:Fm}{X:XM}{c:Cx}{n:Nat}{ρ ρ' ρ₀:List Addr}{m:MS}{s s' s₀:Shared}{A:Around}
theorem comp_ok (G:GOk C) (cx:CxOk C c F n) (hnh:c.nh=true) {elt:ME}{t:List Nat}{many:Bool}{k:IK}{src ifs:List ME}{elt':Expr}{g:Comprehension}{sc:Scope}{pos p':Pos}{xs:List Expr}
  (hasync:g.is_async=0) (hx:okX g.iter=true) (hen:isEnum k=true→many=true) (hco:compOk c sc t (tgNames g.target)=true) (hxs:itArgs c k g.iter=some xs) (hcs:chkEs c src xs=true)
  (ht:chkT (subCx c sc t (tgNames g.target)) t many g.target=true) (hci:chkEs (subCx c sc t (tgNames g.target)) ifs g.ifs=true) (hce:chkE (subCx c sc t (tgNames g.target)) elt elt'=true)
  (hsrc:∀a∈src,SV C X n c F a) (helt:∀F',CxOk C (subCx c sc t (tgNames g.target)) F' n→SV C noX n (subCx c sc t (tgNames g.target)) F' elt)
  (hifs:∀F',CxOk C (subCx c sc t (tgNames g.target)) F' n→∀a∈ifs,ST C noX n (subCx c sc t (tgNames g.target)) F' a)
  {Q:PQ}(h:wpE (Call C) n (.comp elt t many k src ifs) Q X m) (R:Rel C F ρ m s) {use:Option (Value→Sem Unit)}{QQ:Value→Shared→Prop}
  (hk:∀D L ρ' m' s' i,Step F.W ρ s ρ' s'→Rel C F ρ' m' s'→Rep C ρ' s'.heap (.ref i) (.ref D)→Q (.ref i) m'→Let C F L ρ s ρ' s'→compPost (mod C) F.A (Er C F X ρ s) use QQ (.ref D) L (.ok .next) s') :
  wpAny (mod C) F.A (comprehension (.ListComp elt' [g] sc pos) sc F.env p' (newList []) false (eval g.iter F.env) use) QQ (Er C F X ρ s) s:=by
 obtain ⟨target,iter,ifs',isa⟩:=g
 replace h:wpEs (Call C) n src _ X m:=h
 simp only at *
 subst hasync
 have hCO:=compOk_is hco
 obtain ⟨cl,hcl,hcl'⟩:=closure_ok (free_cell cx hCO)
 have htt:=chkT_target ht
 refine wpAny_comprehension_free rfl (okX_folded hx _) hcl hCO.kind hCO.loc (wpAny_mono (soundIt G cx hnh hsrc hxs hcs htt (fun e=>by have:=hen e;subst this;obtain ⟨a,b,d,e,_⟩:=chkT_many ht;exact ⟨a,b,d,e,trivial⟩)
  (P:=fun items g m=>compL g (fun v P m=>asg t many v (fun m=>wpIfs (Call C) n ifs (fun b m=>match b with
    | true=>wpE (Call C) n elt (fun x m=>P (some x) m) noX m
    | false=>P none m) noX m) m) (fun acc m'=>Q (.ref m'.heap.length) ⟨m.vars,m'.heap++[.list acc]⟩) items [] m) h R) (fun xv s₁ h₁=>wpAny_mono h₁ (fun itv s₂ h₂=>?_) fun _ _ x=>x) fun _ _ x=>x)
 obtain ⟨ρ₂,m₂,items,gg,S,It,st₂,R₂,wk,h0,as,hS,hlen,hP⟩:=h₂
 refine wpAny_newObj_type (wpAny_newFunctionEnv hCO.cell (by intro y hy;exact nomem hy) (fun h₁ hns₁ hsb₁=>?_) hCO.kind)
 dsimp only at hns₁ hsb₁ ⊢
 generalize hH2:s₂.heap.push { cls:=.type "list",dict:=none,data:=.seq ([]:List Value).toArray }=H2 at hns₁ hsb₁ ⊢
 have hC:H2.objs.size=s₂.heap.objs.size+1:=by rw [←hH2,Heap.size_push]
 generalize hLL:H2.objs.size=L at hns₁ hsb₁ hC ⊢
 generalize hDD:s₂.heap.objs.size=D at hC ⊢
 have hD0:s₂.heap.get? D=none:=fresh_at (by rw [hDD];exact Nat.le_refl _)
 have hL0:s₂.heap.get? L=none:=fresh_at (by rw [hDD,hC];exact Nat.le_succ _)
 have hDL:D≠L:=by rw [hC];exact (Nat.succ_ne_self _).symm
 have hk4:∀a o,s₂.heap.get? a=some o→h₁.get? a=some o:=fun a o e=>by
  have ha:a≠L:=fun q=>by rw [q,hL0] at e;exact nos1 e
  exact (hsb₁.2 a ha).trans (Heap.get?_push_of_some _ (hH2▸Heap.get?_push_of_some _ e))
 have hD4:h₁.get? D=some (listO [] 0):=(hsb₁.2 D hDL).trans (Heap.get?_push_of_some _ (by rw [←hH2,←hDD];exact Heap.get?_push_size _ rfl))
 generalize hs4:({ s₂ with heap:=h₁,toks:=s₂.toks+([]:List (Str × Value)).length }:Shared)=s₄
 have e4:s₄.heap=h₁∧s₄.gens=s₂.gens∧s₄.os=s₂.os:=by rw [←hs4];exact ⟨rfl,rfl,rfl⟩
 rw [←e4.1] at hns₁ hD4 hk4
 have notW:∀a,s₂.heap.get? a=none→a∉F.W++F.V:=fun a e q=>by
  obtain ⟨_,_,o,e',_⟩:=R₂.w a q;exact nosome e e'
 have cx':=subCx_ok (cl:=cl) cx hCO (notW L hL0) hcl'
 have R₄:=subRel (cl:=cl) (s':=s₄) cx R₂ hCO hk4 e4.2.1 hL0 ⟨_,hns₁⟩
 have hsol4:Solids s₂.heap s₄.heap:=fun a o e _=>hk4 a o e
 have h04:It 0 ρ₂ s₄:=wk.keep _ _ _ _ _ h0 (List.prefix_refl _) hsol4 fun a _ o e=>hk4 a o e
 have hSthere:∀a∈S,∃o,s₂.heap.get? a=some o:=fun a ha=>by obtain ⟨_,_,_,o,e,_⟩:=as a ha;exact ⟨o,e⟩
 have hDS:D∉S:=fun q=>by obtain ⟨o,e⟩:=hSthere D q;exact nosome hD0 e
 have notρ:∀a,s₂.heap.get? a=none→a∉ρ₂:=fun a e q=>by obtain ⟨o,e'⟩:=R₂.hp.there q;exact nosome e e'
 have as4:Aside C (subFm F sc cl t (tgNames target) L) ρ₂ s₄.heap (D::S):=fun a ha=>by
  rcases List.mem_cons.mp ha with rfl | ha
  ·refine ⟨notρ a hD0,fun q=>?_,base_fresh R₂.hp hD0,shp_one hD4 rfl (by decide) (fun ⟨_,_,q⟩=>by cases q) a (by exact List.mem_singleton.mpr rfl)⟩
   have q:a∈[L]++(F.W++F.V):=q
   rcases List.mem_append.mp q with q | q
   ·exact hDL (by exact List.mem_singleton.mp q)
   ·exact notW a hD0 q
  ·obtain ⟨a1,a2,a3,o,a4,a5⟩:=as a ha
   refine ⟨a1,fun q=>?_,a3,o,hk4 a o a4,a5⟩
   have q:a∈[L]++(F.W++F.V):=q
   rcases List.mem_append.mp q with q | q
   ·have:a=L:=by exact List.mem_singleton.mp q
    subst this;exact nosome hL0 a4
   ·exact a2 q
 have fin:∀ρ' m' s₁' s' acc accv k',Step (L::D::S) ρ₂ s₄ ρ' s₁'→Side S s₁' s'→Solids s₁'.heap s'.heap→Rel C (subFm F sc cl t (tgNames target) L) ρ' m' s'→s'.heap.get? D=some (listO accv k')→RepL C ρ' s'.heap acc accv→acc.length≤line→
   Q (.ref m'.heap.length) ⟨m₂.vars,m'.heap++[.list acc]⟩→compPost (mod C) F.A (Er C F X ρ s) use QQ (.ref D) L (.ok .next) s':=by
  intro ρ' m' s₁' s' acc accv k' st' sd hsol R' hD' rl hal hq
  have hDρ:D∉ρ':=fun q=>(st'.new D q).elim (notρ D hD0) fun q=>by exact nosome q hD4
  have hLW:=R'.w L (List.mem_append_left _ (List.mem_singleton.mpr rfl))
  have hH:Hp C (ρ'++[D]) (m'.heap++[.list acc]) s'.heap:=R'.hp.alloc (fun a o e _=>e) (fun a _ o e=>e) R'.hp.base hDρ (base_fresh R₂.hp hD0) ⟨accv,k',hD',rl.up (fun a o e _=>e) (List.prefix_append _ _),hal⟩
  have hkeep:∀a o,s₂.heap.get? a=some o→a∉ρ₂→a∉S→s'.heap.get? a=some o∨(IsD o∧∃sl,s'.heap.get? a=some { o with slots:=sl }):=fun a o e h1 h2=>by
   have hn:a∉L::D::S:=fun q=>by
    rcases List.mem_cons.mp q with rfl | q
    ·exact nosome hL0 e
    ·rcases List.mem_cons.mp q with rfl | q
     ·exact nosome hD0 e
     ·exact h2 q
   rcases st'.keep a o (hk4 a o e) h1 hn with q | ⟨q,sl,q'⟩
   ·exact .inl (sd.1 a _ h2 q)
   ·exact .inr ⟨q,sl,sd.1 a _ h2 q'⟩
  have hKD:∀a,a∉ρ₂→a∉S→KeepD s₂.heap s'.heap a:=fun a h1 h2 o e=>by
   rcases hkeep a o e h1 h2 with q | ⟨_,sl,q⟩
   ·exact ⟨_,q,rfl,rfl⟩
   ·exact ⟨_,q,rfl,rfl⟩
  have hs2:Solids s₂.heap s'.heap:=fun a o e h=>hsol a o (st'.solid a o (hk4 a o e) h) h
  have hpre:ρ₂<+:ρ'++[D]:=st'.pre.trans (List.prefix_append _ _)
  have hnew:∀a∈ρ'++[D],a∈ρ₂∨s₂.heap.get? a=none:=fun a ha=>by
   rcases List.mem_append.mp ha with q | q
   ·exact (st'.new a q).imp id fun q=>by
     cases e:s₂.heap.get? a with
     | none=>rfl
     | some o=>rw [hk4 a o e] at q;exact nos2 q
   ·have:a=D:=by exact List.mem_singleton.mp q
    subst this;exact .inr hD0
  have hgens:s'.gens=s₂.gens:=sd.2.1.trans (st'.gens.trans e4.2.1)
  have Rf:Rel C F (ρ'++[D]) ⟨m₂.vars,m'.heap++[.list acc]⟩ s':=R₂.up cx.fm hs2 hpre hH hnew (fun a ha=>hKD a (R₂.w a ha).1 fun q=>(as a q).2.1 ha)
   (fun L' hL'=>by
    obtain ⟨k3,_,o,k5,k6⟩:=R₂.out L' hL'
    refine hKD L' k3 fun q=>?_
    obtain ⟨_,_,_,o2,g1,_,g2⟩:=as L' q
    obtain rfl:=same k5 g1
    exact g2 k6) hgens
  have fr:∀a∈L::D::S,s.heap.get? a=none:=fun a ha=>by
   rcases List.mem_cons.mp ha with rfl | q
   ·exact none_back st₂ hL0
   ·rcases List.mem_cons.mp q with rfl | q
    ·exact none_back st₂ hD0
    ·exact hS a q
  have stf:Step F.W ρ s (ρ'++[D]) s':=by
   have g:Step F.W ρ₂ s₂ ρ₂ s₄:=⟨List.prefix_refl _,fun _ h=>.inl h,fun a o e _ _=>.inl (hk4 a o e),hsol4,fun a o e=>⟨o,hk4 a o e⟩,e4.2.1,e4.2.2⟩
   have z:=((st₂.trans g).behind st' fr).side sd fun a ha=>hS a ha
   exact ⟨z.pre.trans (List.prefix_append _ _),fun a ha=>by
    rcases List.mem_append.mp ha with q | q
    ·exact z.new a q
    ·have:a=D:=by exact List.mem_singleton.mp q
     subst this;exact .inr (none_back st₂ hD0),z.keep,z.solid,z.alive,z.gens,z.os⟩
  refine hk D L (ρ'++[D]) _ s' m'.heap.length stf Rf (.ref ?_) hq (let_ok cx stf R (none_back st₂ hL0) (fun q=>?_) (notW L hL0) R'.ns)
  ·rw [←R'.hp.len,List.getElem?_append_right (Nat.le_refl _)];simp
  ·rcases List.mem_append.mp q with q | q
   ·exact hLW.1 q
   ·exact hDL (by exact List.mem_singleton.mp q:L=D).symm
 have loop:codeAny (mod C) F.A (.compLoop (.ListComp elt' [⟨target,iter,ifs',0⟩] sc pos) 0 itv (.ref D) (compEnvC sc cl L F.env)) (compPost (mod C) F.A (Er C F X ρ s) use QQ (.ref D) L) s₄:=
  comp_loop cx' hnh rfl wk hlen (helt _ cx') hce (hifs _ cx') hci ht (fun _ _ _ h=>h) R₄ h04 as4 hDS hD4 hP fin
 exact codeAny_compStart_list loop (wk.self 0 ρ₂ s₄ h04 _ _ loop)
end
end Internal
end
section
namespace Internal
open PySem PyProof.Rows
section
variable {C:Glo}{F:Fm}{X:XM}{c:Cx}{n:Nat}
theorem sv_comp (G:GOk C) (cx:CxOk C c F n) {elt:ME}{t:List Nat}{many:Bool}{k:IK}{src ifs:List ME}(hsrc:∀a∈src,SV C X n c F a) (helt:∀c' F',CxOk C c' F' n→SV C noX n c' F' elt)
  (hifs:∀c' F',CxOk C c' F' n→∀a∈ifs,ST C noX n c' F' a):SV C X n c F (.comp elt t many k src ifs):=by
 intro e hc Q m h
 replace hc:=onSome_true hc
 obtain ⟨⟨elt',gs,sc⟩,hxx,hc⟩:=hc
 replace hc:=onSome_true hc
 obtain ⟨g,hg,hc⟩:=hc
 cases one_eq hg
 obtain ⟨pos,rfl⟩:=xLC_eq hxx
 simp only [Bool.and_eq_true,beq_iff_eq,Bool.or_eq_true,Bool.not_eq_true'] at hc
 obtain ⟨⟨⟨⟨⟨⟨⟨⟨h0,h1⟩,h2⟩,h3⟩,h4⟩,h5⟩,h6⟩,h7⟩,h8⟩:=hc
 obtain ⟨xs,hxs,h5⟩:=onSome_true h5
 intro s ρ R
 have ha:firstAsync [g]=false:=by
  obtain ⟨_,_,_,a⟩:=g;simp only at h1;subst h1;rfl
 have hfi:firstIter [g] F.env=eval g.iter F.env:=by cases g;rfl
 rw [eval_ListComp,ha,hfi]
 refine comp_ok (use:=none) G cx h0 h1 h2 (fun e=>h3.resolve_left (by rw [e];decide)) h4 hxs h5 h6 h7 h8 hsrc (helt _) (hifs _) h R fun D L ρ' m' s' i st R' rx hq hl=>?_
 obtain ⟨⟨f,hf⟩,hs⟩:=hl ρ' m' s' (.refl _ _ _) R'
 refine ⟨f,hf,fun h' hsb=>?_⟩
 obtain ⟨Rf,stf,hsol⟩:=hs h' hsb
 exact ⟨ρ',m',.ref i,stf,Rf,rx.up hsol (List.prefix_refl _),hq⟩
theorem sv_no {me:ME}(h:∀e,chkE c me e=false):SV C X n c F me∧ST C X n c F me:=
 ⟨fun e hc=>by rw [h e] at hc;exact Bool.noConfusion hc,fun e hc=>by rw [h e] at hc;exact Bool.noConfusion hc⟩
theorem sv_both (G:GOk C) (cx:CxOk C c F n) {me:ME}(ia:SV C X n c F me) (hpl:∀e,chkE c me e=true→plainT e=true):SV C X n c F me∧ST C X n c F me:=⟨ia,st_plain G cx ia hpl⟩
mutual
theorem sE (G:GOk C):∀(me:ME) (X:XM) (c:Cx) (F:Fm),CxOk C c F n→SV C X n c F me∧ST C X n c F me
 | .cst v,X,c,F,cx=>sv_both G cx (sv_cst G cx) pl_cst
 | .var i,X,c,F,cx=>sv_both G cx (sv_var G cx) pl_var
 | .glob g v,X,c,F,cx=>sv_both G cx (sv_glob G cx) pl_glob
 | .bin op a b,X,c,F,cx=>sv_both G cx (sv_bin G cx (sE G a X c F cx).1 (sE G b X c F cx).1) pl_bin
 | .neg a,X,c,F,cx=>sv_both G cx (sv_neg G cx (sE G a X c F cx).1) pl_neg
 | .not a,X,c,F,cx=>⟨sv_not G cx (sE G a X c F cx).1,st_not G cx (sE G a X c F cx).2⟩
 | .and es,X,c,F,cx=>⟨sv_and G cx fun a ha=>(sEs G es X c F cx a ha).1,st_and G cx fun a ha=>(sEs G es X c F cx a ha).2⟩
 | .or es,X,c,F,cx=>⟨sv_or G cx fun a ha=>(sEs G es X c F cx a ha).1,st_or G cx fun a ha=>(sEs G es X c F cx a ha).2⟩
 | .cmp op a b,X,c,F,cx=>⟨sv_cmp G cx (sE G a X c F cx).1 (sE G b X c F cx).1,st_cmp G cx (sE G a X c F cx).1 (sE G b X c F cx).1⟩
 | .cmp2 op op' a b d,X,c,F,cx=>⟨sv_cmp2 G cx (sE G a X c F cx).1 (sE G b X c F cx).1 (sE G d X c F cx).1,st_cmp2 G cx (sE G a X c F cx).1 (sE G b X c F cx).1 (sE G d X c F cx).1⟩
 | .isN p a,X,c,F,cx=>⟨sv_isN G cx (sE G a X c F cx).1,st_isN G cx (sE G a X c F cx).1⟩
 | .call f args,X,c,F,cx=>sv_both G cx (sv_call G cx fun a ha=>(sEs G args X c F cx a ha).1) pl_call
 | .blt b args,X,c,F,cx=>sv_both G cx (sv_blt G cx fun a ha=>(sEs G args X c F cx a ha).1) pl_blt
 | .mth k o args,X,c,F,cx=>sv_both G cx (sv_mth G cx (sE G o X c F cx).1 fun a ha=>(sEs G args X c F cx a ha).1) pl_mth
 | .umth k f x o args,X,c,F,cx=>sv_both G cx (sv_umth G cx (sE G o X c F cx).1 fun a ha=>(sEs G args X c F cx a ha).1) pl_umth
 | .new k f args,X,c,F,cx=>sv_both G cx (sv_new G cx fun a ha=>(sEs G args X c F cx a ha).1) pl_new
 | .attr k o x,X,c,F,cx=>sv_both G cx (sv_attr G cx (sE G o X c F cx).1) pl_attr
 | .idx o i,X,c,F,cx=>sv_both G cx (sv_idx G cx (sE G o X c F cx).1 (sE G i X c F cx).1) pl_idx
 | .sl o lo hi,X,c,F,cx=>sv_both G cx (sv_sl G cx (sE G o X c F cx).1 (sO G lo X c F cx) (sO G hi X c F cx)) pl_sl
 | .list es,X,c,F,cx=>sv_both G cx (sv_list G cx fun a ha=>(sEs G es X c F cx a ha).1) pl_list
 | .tup es,X,c,F,cx=>sv_both G cx (sv_tup G cx fun a ha=>(sEs G es X c F cx a ha).1) pl_tup
 | .dict0,X,c,F,cx=>sv_both G cx (sv_dict0 G cx) pl_dict0
 | .comp elt t many k src ifs,X,c,F,cx=>sv_both G cx (sv_comp G cx (fun a ha=>(sEs G src X c F cx a ha).1) (fun c' F' cx'=>(sE G elt noX c' F' cx').1) fun c' F' cx' a ha=>(sEs G ifs noX c' F' cx' a ha).2) pl_comp
 | .isi a ts,X,c,F,cx=>sv_both G cx (sv_isi G cx (sE G a X c F cx).1) pl_isi
theorem sEs (G:GOk C):∀(es:List ME) (X:XM) (c:Cx) (F:Fm),CxOk C c F n→∀a∈es,SV C X n c F a∧ST C X n c F a
 | [],X,c,F,cx,a,ha=>by exact nomem ha
 | e::es,X,c,F,cx,a,ha=>(List.mem_cons.mp ha).elim (fun h=>h▸sE G e X c F cx) fun h=>sEs G es X c F cx a h
theorem sO (G:GOk C):∀(o:Option ME) (X:XM) (c:Cx) (F:Fm),CxOk C c F n→∀a,o=some a→SV C X n c F a
 | none,X,c,F,cx,a,ha=>by exact nos1 ha
 | some e,X,c,F,cx,a,ha=>(Option.some.inj ha)▸(sE G e X c F cx).1
end
theorem soundE (G:GOk C) (cx:CxOk C c F n) (me:ME) (e:Expr) (hc:chkE c me e=true) (Q:PQ) (m:MS) (h:wpE (Call C) n me Q X m):WPv C F X (eval e F.env) Q m:=(sE G me X c F cx).1 e hc Q m h
theorem soundC (G:GOk C) (cx:CxOk C c F n) (me:ME) (e:Expr) (hc:chkE c me e=true) (Q:Bool→MS→Prop) (m:MS) (h:wpE (Call C) n me (ofBool Q) X m):WPt C F X (isTrue e F.env (eval e F.env)) Q m:=(sE G me X c F cx).2 e hc Q m h
end
end Internal
end
section
namespace Internal
open PySem PyProof.Rows
section
variable {C:Glo}{F:Fm}{X:XM}{ρ ρ₀:List Addr}{m:MS}{s s₀:Shared}{E:Value→Shared→Prop}{A:Around}
theorem RepL.set {h:Heap}{xs:List MV}{vs:List Value}(r:RepL C ρ h xs vs) (j:Nat) {u:MV}{w:Value}(ru:Rep C ρ h u w):RepL C ρ h (xs.set j u) (vs.set j w):=by
 induction xs generalizing vs j with
 | nil=>rw [r.inv];exact .nil
 | cons x xs ih=>
  obtain ⟨v,us,rfl,a,b⟩:=r.inv
  cases j with
  | zero=>exact .cons ru b
  | succ j=>exact .cons a (ih b j)
theorem setL_ok (ok:FmOk F) (R:Rel C F ρ m s) {r:Nat}{k:Int}{t:Tok}{xs:List MV}{j:Nat}{u:MV}{xv uv:Value}(rx:Rep C ρ s.heap (.ref r) xv) (hi:m.heap[r]?=some (.list xs)) (hj:pidx k xs.length=some j) (hu:useLS=true∧0≤k) (ru:Rep C ρ s.heap u uv) {P:Unit→Shared→Prop}(hp:∀s',Rel C F ρ (m.put r (.list (xs.set j u))) s'→Step F.W ρ s ρ s'→P () s') :
  wpAny (mod C) A (setItem xv (.int k t) uv) P E s:=by
 obtain ⟨a,rfl,g⟩:=rx.inv
 obtain ⟨items,n,gi,rl,z⟩:=R.hp.objs _ _ _ hi g
 have hlt:k<xs.length∧j=k.toNat:=by
  unfold pidx at hj
  rw [decide_eq_true hu.2] at hj
  cases q:decide (k<(xs.length:Int)) with
  | true=>rw [q] at hj;exact ⟨of_decide_eq_true q,(Option.some.inj hj).symm⟩
  | false=>rw [q] at hj;exact nos1 hj
 obtain ⟨hlt,rfl⟩:=hlt
 have hz:xs.length≤2 ^ 24:=z
 refine PySem.W.ki_setAt gi hu.2 (by lia) (by rw [List.size_toArray,rl.length];exact hlt) ?_
 have hs:=Heap.SameBut.update s.heap a (Obj.mapSeq fun ys=>ys.setIfInBounds k.toNat uv)
 have hg:=Heap.get?_update_self (Obj.mapSeq fun ys=>ys.setIfInBounds k.toNat uv) gi rfl
 obtain ⟨k₂,e₂⟩:=mapSeq_list (k:=n) (f:=fun ys=>ys.setIfInBounds k.toNat uv) (items:=items) (ys:=items.set k.toNat uv) (by rw [List.setIfInBounds_toArray])
 have hk:∀b ob,b≠a→s.heap.get? b=some ob→(s.heap.update a (Obj.mapSeq fun ys=>ys.setIfInBounds k.toNat uv)).get? b=some ob:=fun b ob q e=>(hs.2 b q).trans e
 have hsol:Solids s.heap (s.heap.update a (Obj.mapSeq fun ys=>ys.setIfInBounds k.toNat uv)):=solids_but hk (repO_not_solid (R.hp.objs _ _ _ hi g))
 obtain ⟨R₄,st₄⟩:=R.put (s':={ s with heap:=s.heap.update a (Obj.mapSeq fun ys=>ys.setIfInBounds k.toNat uv) }) ok g hi (o:=.list (xs.set k.toNat u)) hk rfl rfl
  ⟨items.set k.toNat uv,k₂,hg.trans (congrArg some e₂),(rl.set _ ru).up hsol (List.prefix_refl _),by rw [List.length_set];exact z⟩
 exact hp _ R₄ st₄
end
end Internal
end
section
namespace Internal
open PySem
inductive FlyT (b:Heap) (ρ:List Addr) (h:Heap) (e K:Addr) (fl:Value):Prop
 | mk (h1:b.get? e=none) (h2:e∉ρ) (oe:Obj) (vs:Array Value) (h3:h.get? e=some oe) (h4:oe.cls=.ref K) (h5:oe.data=.fields vs) (T:Addr) (oT:Obj) (ts:Array Value) (g1:vs[1]?=some (.ref T)) (g2:b.get? T=none) (g3:T∉ρ) (g4:T≠e) (g5:h.get? T=some oT) (g6:oT.data=.fields ts)
   (g7:ts[3]?=some fl)
theorem FlyT.fly {b:Heap}{ρ:List Addr}{h:Heap}{L e K:Addr}{fl:Value}(y:FlyT b ρ h e K fl) (k:fl=.none∨fl=rawInt L):Fly b ρ h L e K:=by
 obtain ⟨h1,h2,oe,vs,h3,h4,h5,T,oT,ts,g1,g2,g3,g4,g5,g6,g7⟩:=y
 exact .old h1 h2 oe vs h3 h4 h5 T oT ts g1 g2 g3 g4 g5 g6 (by rcases k with q | q<;>(subst q;first | exact .inl g7 | exact .inr g7))
noncomputable def But (S:List Addr) (b:Heap) (ρ:List Addr) (h h':Heap):Prop:=∀a o,h.get? a=some o→((∀vs,o.data≠.fields vs)∨(∃ob,b.get? a=some ob)∨a∈ρ)→(a∉S→h'.get? a=some o)∧∃sl,h'.get? a=some { o with slots:=sl }
theorem But.trans {S S':List Addr}{b:Heap}{ρ:List Addr}{h h' h'':Heap}(x:But S b ρ h h') (y:But S' b ρ h' h'') (hS:∀a∈S',a∈S):But S b ρ h h'':=fun a o e p=>by
 obtain ⟨k1,sl,k2⟩:=x a o e p
 have p':∀{o':Obj},o'.data=o.data→((∀vs,o'.data≠.fields vs)∨(∃ob,b.get? a=some ob)∨a∈ρ):=fun q=>p.imp (fun r=>q▸r) id
 obtain ⟨_,sl',k4⟩:=y a _ k2 (p' rfl)
 refine ⟨fun hn=>?_,sl',k4⟩
 exact (y a o (k1 hn) p).1 fun q=>hn (hS a q)
section
variable {M:Model}{A:Around}{E:Value→Shared→Prop}{s:Shared}{b g:Heap}{ρ:List Addr}{env:Env}{outer:List Env}{L e K:Addr}
theorem but_update {T:Addr}{oT:Obj}{ts:Array Value}(hT:s.heap.get? T=some oT) (hd:oT.data=.fields ts) (hb:b.get? T=none∧T∉ρ) (f:Obj→Obj):But [] b ρ s.heap (s.heap.update T f):=fun a o e p=>by
 have ha:a≠T:=fun q=>by
  subst q
  obtain rfl:=same hT e
  rcases p with p | ⟨ob,p⟩ | p
  ·exact p _ hd
  ·exact nosome hb.1 p
  ·exact hb.2 p
 have e':=(Heap.get?_update_other s.heap f (Ne.symm ha)).trans e
 exact ⟨fun _=>e',o.slots,e'⟩
theorem flight_ok {fl:Value}{frame:Option Addr}{Q:Unit→Shared→Prop}(hy:FlyT b ρ s.heap e K fl)
  (h:∀h',FlyT b ρ h' e K (frame.elim .none fun f=>rawInt f)→But [] b ρ s.heap h'→Q () { s with heap:=h' }):wpAny M A (setFlight (.ref e) frame) Q E s:=by
 obtain ⟨h1,h2,oe,vs,h3,h4,h5,T,oT,ts,g1,g2,g2',g3,g4,g5,g6⟩:=hy
 have hsz:3<ts.size:=(Array.getElem?_eq_some_iff.mp g6).1
 unfold setFlight
 refine wpAny_bind (wpAny_field h3 h5 g1 ?_)
 rw [if_pos (show (Value.ref T != Value.none)=true from by simp)]
 refine wpAny_setField g4 g5 hsz (h _ ⟨h1,h2,oe,vs,(Heap.get?_update_other _ _ g3).trans h3,h4,h5,T,_,_,g1,g2,g2',g3,Heap.get?_update_self _ g4 (Obj.isFreed_of_fields (Obj.data_mapFields g5 _)),Obj.data_mapFields g5 _,by simp [hsz]⟩ ?_)
 exact but_update g4 g5 ⟨g2,g2'⟩ _
theorem new_entry {head:Value}{hn:Bool}{oe:Obj}{vs:Array Value}{Q:Unit→Shared→Prop}(hfr:A.frames=some (env::outer)) (hl:s.heap.FunFrames g (env::outer)) (hf:env.frame=some L)
  (hb:∀a o,b.get? a=some o→∃o',s.heap.get? a=some o') (hρ:∀a∈ρ,∃o,s.heap.get? a=some o) (hen:b.get? e=none∧e∉ρ) (he:s.heap.get? e=some oe) (hK:oe.cls=.ref K) (hd:oe.data=.fields vs) (hsz:1<vs.size)
  (h:∀h',FlyT b ρ h' e K (rawInt L)→But ((env::outer).filterMap (·.frame)) b ρ s.heap h'→Q () { s with heap:=h' }) :
  wpAny M A (do let a ←frameOf env;let pl ←entryPlaceOf L hn;let t ←EntryCells.newEntry head a .none (rawInt L) .none pl;setField (.ref e) 1 t) Q E s:=by
 have hes:e∉(env::outer).filterMap (·.frame):=fun hm=>by
  obtain ⟨_,o,ho,hnf⟩:=hl.mem hm
  obtain rfl:=same he ho;exact hnf vs hd
 refine wpAny_bind (wpAny_frameOf_fun hfr hl hf fun h₁ hs=>?_)
 refine wpAny_bind (wpAny_entryPlaceOf fun pl hpl=>?_)
 unfold EntryCells.newEntry newFields
 refine wpAny_bind (wpAny_newObj_type ?_ (hpl.sizeOk5 _ _ _ _ _))
 have he₁:h₁.get? e=some oe:=(hs.2.1 e hes).trans he
 generalize hN:({ cls:=.type "traceback",dict:=none,data:=.fields ([head,.ref L,.none,rawInt L,.none]++(if pl.isEmpty then List.replicate 6 Value.none else pl)).toArray }:Obj)=N
 have hNd:N.data=.fields ([head,.ref L,.none,rawInt L,.none]++(if pl.isEmpty then List.replicate 6 Value.none else pl)).toArray:=by rw [←hN]
 have he₂:=Heap.get?_push_of_some (h:=h₁) N he₁
 have hTe:h₁.objs.size≠e:=Nat.ne_of_gt (Heap.lt_size he₁)
 have hd₃:=Obj.data_mapFields hd (·.setIfInBounds 1 (Value.ref h₁.objs.size))
 have there:∀a o,s.heap.get? a=some o→h₁.objs.size≠a:=fun a o e=>by
  obtain ⟨sl,hsl⟩:=hs.2.2 _ _ e
  exact Nat.ne_of_gt (Heap.lt_size hsl)
 refine wpAny_setField he₂ hd hsz (h _ ⟨hen.1,hen.2,_,_,Heap.get?_update_self (Obj.mapFields (·.setIfInBounds 1 (Value.ref h₁.objs.size))) he₂ (Obj.isFreed_of_fields hd₃),(Obj.cls_mapFields _ _).trans hK,hd₃,h₁.objs.size,N,_,by simp [hsz],?_,fun q=>?_,hTe,
  (Heap.get?_update_other (h₁.push N) (Obj.mapFields (·.setIfInBounds 1 (Value.ref h₁.objs.size))) (Ne.symm hTe)).trans (Heap.get?_push_size h₁ (by rw [←hN];rfl)),hNd,by simp⟩ ?_)
 ·cases hq:b.get? h₁.objs.size with
  | none=>rfl
  | some o=>
   obtain ⟨o',ho'⟩:=hb _ _ hq
   exact absurd rfl (there _ _ ho')
 ·obtain ⟨o,ho⟩:=hρ _ q
  exact there _ _ ho rfl
 ·intro a o ho p
  have hae:e≠a:=fun q=>by
   subst q
   obtain rfl:=same he ho
   rcases p with p | ⟨ob,p⟩ | p
   ·exact p _ hd
   ·exact nosome hen.1 p
   ·exact hen.2 p
  obtain ⟨sl,hsl⟩:=hs.2.2 _ _ ho
  have keep:∀x,h₁.get? a=some x→((h₁.push N).update e (Obj.mapFields (·.setIfInBounds 1 (Value.ref h₁.objs.size)))).get? a=some x:=fun x hx=>by
   rw [Heap.get?_update_other _ _ hae];exact Heap.get?_push_of_some _ hx
  exact ⟨fun hS=>keep _ ((hs.2.1 a hS).trans ho),sl,keep _ hsl⟩
theorem note_ok {Q:Unit→Shared→Prop}(hfr:A.frames=some (env::outer)) (hl:s.heap.FunFrames g (env::outer)) (hf:env.frame=some L)
  (hb:∀a o,b.get? a=some o→∃o',s.heap.get? a=some o') (hρ:∀a∈ρ,∃o,s.heap.get? a=some o) (hy:Fly b ρ s.heap L e K)
  (h:∀h',FlyT b ρ h' e K (rawInt L)→But ((env::outer).filterMap (·.frame)) b ρ s.heap h'→Q () { s with heap:=h' }):wpAny M A (noteFrame (.ref e) env) Q E s:=by
 cases hy with
 | new hen1 hen2 oe vs he hK hd h1=>
  unfold noteFrame
  simp only [hf]
  refine wpAny_bind (wpAny_field he hd h1 ?_)
  rw [if_neg (by decide)]
  exact new_entry hfr hl hf hb hρ ⟨hen1,hen2⟩ he hK hd (Array.getElem?_eq_some_iff.mp h1).1 h
 | old hen1 hen2 oe vs he hK hd T oT ts h1 hT0 hT0' hTe hT hdT h3=>
  unfold noteFrame
  simp only [hf]
  refine wpAny_bind (wpAny_field he hd h1 ?_)
  rw [if_pos (show (Value.ref T != Value.none)=true from by simp)]
  rcases h3 with h3 | h3
  ·refine wpAny_bind (wpAny_field hT hdT h3 ?_)
   rw [if_neg (show ¬ ((Value.none==rawInt L)=true) from by simp [rawInt])]
   refine wpAny_bind (wpAny_setField hT hdT (Array.getElem?_eq_some_iff.mp h3).1 ?_)
   have other:∀a,a≠T→(s.heap.update T (Obj.mapFields (·.setIfInBounds 3 Value.none))).get? a=s.heap.get? a:=fun a ha=>Heap.get?_update_other _ _ (Ne.symm ha)
   have hB:=but_update (s:=s) (b:=b) (ρ:=ρ) hT hdT ⟨hT0,hT0'⟩ (Obj.mapFields (·.setIfInBounds 3 Value.none))
   have hbT:∀a o,b.get? a=some o→a≠T:=fun a o e q=>by rw [q,hT0] at e;exact nos1 e
   refine new_entry (s:={ s with heap:=s.heap.update T (Obj.mapFields (·.setIfInBounds 3 Value.none)) }) hfr (hl.of_keeps fun a o ha hnf=>⟨o,(other a fun q=>?_).trans ha,rfl⟩) hf (fun a o ha=>?_) (fun a ha=>?_) ⟨hen1,hen2⟩ ((other e (Ne.symm hTe)).trans he) hK hd (Array.getElem?_eq_some_iff.mp h1).1 fun h' f k=>h h' f fun a o e p=>?_
   ·rw [q,hT] at ha;obtain rfl:=Option.some.inj ha;exact hnf ts hdT
   ·obtain ⟨o',ho'⟩:=hb a o ha
    exact ⟨o',(other a (hbT a o ha)).trans ho'⟩
   ·obtain ⟨o,ho⟩:=hρ a ha
    exact ⟨o,(other a fun q=>hT0' (q▸ha)).trans ho⟩
   ·exact k a o ((hB a o e p).1 (by exact List.not_mem_nil)) p
  ·refine wpAny_bind (wpAny_field hT hdT h3 ?_)
   rw [if_pos (show (rawInt L==rawInt L)=true from by first | (simp;done) | exact beq_self_eq_true _)]
   exact wpAny_pure (h s.heap ⟨hen1,hen2,oe,vs,he,hK,hd,T,oT,ts,h1,hT0,hT0',hTe,hT,hdT,h3⟩ fun a o e p=>⟨fun _=>e,o.slots,e⟩)
end
end Internal
end
section
namespace Internal
open PySem
noncomputable def FrOn (F:Fm):Prop:=(∃outer,F.A.frames=some (F.env::outer))∧F.env.frame=some F.env.locals
inductive ErT (C:Glo) (F:Fm) (X:XM) (ρ:List Addr) (s:Shared) (fl e:Value) (s':Shared):Prop
 | mk (ρ':List Addr) (m':MS) (k:Nat) (a K:Addr) (st:Step F.W ρ s ρ' s') (R:Rel C F ρ' m' s') (he:e=.ref a) (hk:C.xa k=some K) (hf:FlyT s.heap ρ' s'.heap a K fl) (hx:X k m'):ErT C F X ρ s fl e s'
section
variable {C:Glo}{F:Fm}{X:XM}{ρ ρ₀:List Addr}{m:MS}{s s₀:Shared}{A:Around}{E:Value→Shared→Prop}{h':Heap}
theorem not_d_solid {o:Obj}(h:IsD o):¬ Solid o:=fun hs=>by
 obtain ⟨es,n,d⟩:=h
 exact ff ((congrArg (solidD o.cls) d).symm.trans hs)
theorem solid_no_fields {o:Obj}(h:Solid o):∀vs,o.data≠.fields vs:=fun vs q=>ff ((congrArg (solidD o.cls) q).symm.trans h)
theorem but_rel {S:List Addr}(ok:FmOk F) (R:Rel C F ρ m s) (st:Step F.W ρ₀ s₀ ρ s) (hb:C.base.StaysIn s₀.heap) (hS:∀a∈S,a∈F.frs) (k:But S s₀.heap ρ s.heap h') :
  Rel C F ρ m { s with heap:=h' }∧Step F.W ρ₀ s₀ ρ { s with heap:=h' }:=by
 have hsol:Solids s.heap h':=fun a o e hs=>(k a o e (.inl (solid_no_fields hs))).1 fun q=>by
  obtain ⟨_,_,o',e',d⟩:=R.out a (hS a q)
  obtain rfl:=same e e';exact not_d_solid d hs
 have hd:∀a,(∀o,s.heap.get? a=some o→∀vs,o.data≠.fields vs)→KeepD s.heap h' a:=fun a q o e=>by
  obtain ⟨_,sl,e'⟩:=k a o e (.inl (q o e))
  exact ⟨_,e',rfl,rfl⟩
 refine ⟨R.up ok hsol (List.prefix_refl _) (R.hp.up hsol (fun a ha o e=>(k a o e (.inr (.inr ha))).1 fun q=>(R.out a (hS a q)).1 ha) fun b o e=>(k b o (R.hp.base b o e) (.inr (.inl ⟨o,hb b o e⟩))).1 fun q=>?_) (fun a h=>.inl h) (fun a ha=>hd a fun o e vs q=>?_) (fun L hL=>hd L fun o e vs q=>?_) rfl,st.pre,st.new,fun a o e h1 h2=>?_,fun a o e hs=>hsol a o (st.solid a o e hs) hs,fun a o e=>?_,st.gens,st.os⟩
 ·have:=(R.out b (hS b q)).2.1
  exact nosome this e
 ·obtain ⟨_,_,o',e',d⟩:=R.w a ha
  obtain rfl:=same e e'
  rcases d with ⟨es,n,d⟩ | ⟨v,d⟩<;>rw [d] at q<;>cases q
 ·obtain ⟨_,_,o',e',es,n,d⟩:=R.out L hL
  obtain rfl:=same e e'
  rw [d] at q;cases q
 ·have key:∀o',s.heap.get? a=some o'→(h'.get? a=some o'∨(IsD o'∧∃sl,h'.get? a=some { o' with slots:=sl })):=fun o' e'=>by
   obtain ⟨k1,k2⟩:=k a o' e' (.inr (.inl ⟨o,e⟩))
   by_cases q:a∈S
   ·obtain ⟨_,_,o2,e2,d⟩:=R.out a (hS a q)
    obtain rfl:=same e' e2
    exact .inr ⟨d,k2⟩
   ·exact .inl (k1 q)
  rcases st.keep a o e h1 h2 with e1 | ⟨d,sl,e1⟩
  ·exact key o e1
  ·rcases key _ e1 with e2 | ⟨_,sl2,e2⟩
   ·exact .inr ⟨d,sl,e2⟩
   ·exact .inr ⟨d,sl2,e2⟩
 ·obtain ⟨o',e'⟩:=st.alive a o e
  obtain ⟨_,sl,e2⟩:=k a o' e' (.inr (.inl ⟨o,e⟩))
  exact ⟨_,e2⟩
theorem fun_frames {es:List Env}(R:Rel C F ρ m s) (h:∀e∈es,e.scope.kind≠.module∧∃L∈F.frs,e.frame=some L):s.heap.FunFrames C.base es:=by
 induction es with
 | nil=>trivial
 | cons e es ih=>
  obtain ⟨h1,L,hL,h2⟩:=h e (List.mem_cons_self ..)
  obtain ⟨_,h3,o,h4,es',n,h5⟩:=R.out L hL
  exact ⟨h1,⟨L,o,h2,h3,h4,fun vs q=>by rw [h5] at q;cases q⟩,ih fun e he=>h e (List.mem_cons_of_mem _ he)⟩
theorem frames_in {es:List Env}(h:∀e∈es,e.scope.kind≠.module∧∃L∈F.frs,e.frame=some L):∀a∈es.filterMap (·.frame),a∈F.frs:=fun a ha=>by
 obtain ⟨e,he,e1⟩:=List.mem_filterMap.mp ha
 obtain ⟨_,L,hL,e2⟩:=h e he
 obtain rfl:=same e1 e2;exact hL
theorem er_note (ok:FmOk F) (fo:FrOn F) (hA:A.frames=F.A.frames) (hb:C.base.StaysIn s₀.heap) {e:Value}(h:Er C F X ρ₀ s₀ e s) {Q:Unit→Shared→Prop}(k:∀s',ErT C F X ρ₀ s₀ (rawInt F.env.locals) e s'→Q () s') :
  wpAny (mod C) A (noteFrame e F.env) Q E s:=by
 obtain ⟨ρ',m',kk,a,K,st,R,rfl,hk,hf,hx⟩:=h
 obtain ⟨⟨outer,ho⟩,hfr⟩:=fo
 obtain ⟨es,he,hes⟩:=ok.frs
 obtain rfl:=same ho he
 refine note_ok (hA.trans ho) (fun_frames R hes) hfr st.alive (fun a ha=>R.hp.there ha) hf fun h' hf' hB=>?_
 obtain ⟨R',st'⟩:=but_rel ok R st hb (frames_in hes) hB
 exact k _ ⟨ρ',m',kk,a,K,st',R',rfl,hk,hf',hx⟩
theorem er_flight (ok:FmOk F) (hb:C.base.StaysIn s₀.heap) {e fl:Value}(h:ErT C F X ρ₀ s₀ fl e s) {frame:Option Addr}{Q:Unit→Shared→Prop}(k:∀s',ErT C F X ρ₀ s₀ (frame.elim .none fun f=>rawInt f) e s'→Q () s') :
  wpAny (mod C) A (setFlight e frame) Q E s:=by
 obtain ⟨ρ',m',kk,a,K,st,R,rfl,hk,hf,hx⟩:=h
 refine flight_ok hf fun h' hf' hB=>?_
 obtain ⟨R',st'⟩:=but_rel ok R st hb (fun a ha=>by exact nomem ha) hB
 exact k _ ⟨ρ',m',kk,a,K,st',R',rfl,hk,hf',hx⟩
theorem ErT.er {e fl:Value}(h:ErT C F X ρ₀ s₀ fl e s) (k:fl=.none∨fl=rawInt F.env.locals):Er C F X ρ₀ s₀ e s:=
 let ⟨ρ',m',kk,a,K,st,R,h1,hk,hf,hx⟩:=h;⟨ρ',m',kk,a,K,st,R,h1,hk,hf.fly k,hx⟩
theorem er_came (ok:FmOk F) (fo:FrOn F) (hb:C.base.StaysIn s₀.heap) {e fl:Value}(h:ErT C F X ρ₀ s₀ fl e s):cameBackBy (mod C) A F.env (Er C F X ρ₀ s₀) e s:=by
 have h2:=h
 obtain ⟨ρ',m',kk,a,K,st,R,rfl,hk,⟨_,_,oe,vs,h3,h4,h5,T,oT,ts,g1,_⟩,hx⟩:=h2
 unfold cameBackBy
 refine wpAny_bind (wpAny_field h3 h5 g1 ?_)
 rw [if_neg (show ¬ ((Value.ref T==Value.none)=true) from by simp)]
 refine er_flight ok hb h fun s' h'=>?_
 rw [fo.2] at h'
 exact h'.er (.inr rfl)
theorem er_loop (ok:FmOk F) (fo:FrOn F) (hb:C.base.StaysIn s₀.heap) {e:Value}(h:Er C F X ρ₀ s₀ e s):notedBy (mod C) F.A F.env (fun e s'=>cameBackBy (mod C) F.A F.env (Er C F X ρ₀ s₀) e s') e s:=
 er_note ok fo rfl hb h fun s' h'=>er_came ok fo hb h'
end
inductive ErC (C:Glo) (X:XT) (ρ:List Addr) (s:Shared) (e:Value) (s':Shared):Prop
 | mk (ρ':List Addr) (hp':List MO) (k:Nat) (a K:Addr) (st:Step [] ρ s ρ' s') (H:Hp C ρ' hp' s'.heap) (he:e=.ref a) (hk:C.xa k=some K) (hf:FlyT s.heap ρ' s'.heap a K .none) (hx:X k hp'):ErC C X ρ s e s'
theorem FlyT.mono {b b':Heap}{ρ:List Addr}{h:Heap}{e K:Addr}{fl:Value}(y:FlyT b ρ h e K fl) (k:∀a,b.get? a=none→b'.get? a=none):FlyT b' ρ h e K fl:=by
 obtain ⟨h1,h2,oe,vs,h3,h4,h5,T,oT,ts,g1,g2,g3,g4,g5,g6,g7⟩:=y
 exact ⟨k _ h1,h2,oe,vs,h3,h4,h5,T,oT,ts,g1,k _ g2,g3,g4,g5,g6,g7⟩
end Internal
end
section
namespace Internal
open PySem PyProof.Rows
noncomputable def isTupE (e:Expr):Bool:=(xTup e).isSome
theorem swapped_no {elts:List Expr}{k:Nat}{p:Pos}{v:Expr}(h:isTupE v=false) (h':okX v=true) (env:Env):swappedStores [.Tuple elts k p] v env=pure none:=
 okX_cases (P:=fun v=>isTupE v=false→swappedStores [.Tuple elts k p] v env=pure none) h' (fun _ _ _ _=>rfl) (fun _ _ _=>rfl) (fun _ _ _ _ _=>rfl) (fun _ _ _ _=>rfl) (fun _ _ _ _=>rfl) (fun _ _ _ _ _=>rfl) (fun _ _ _ _ _=>rfl) (fun _ _ _ _=>rfl) (fun _ _ _ _=>rfl) (fun _ _ _=>rfl) (fun _ _ _ h=>by exact tf h) (fun _ _ _ _=>rfl) (fun _ _ _ _ _=>rfl) h
noncomputable def isCompM:ME→Bool
 | .comp ..=>true
 | _=>false
set_option genCtorIdx false in
structure VS where
 tag:Nat
 p:Pos:=noPos
 ts:List Expr:=[]
 e1:Expr:=noE
 e2:Expr:=noE
 o1:Option Expr:=none
 o2:Option Expr:=none
 b1:List Stmt:=[]
 b2:List Stmt:=[]
 b3:List Stmt:=[]
 hs:List ExceptHandler:=[]
noncomputable def viewS:Stmt→VS
 | .Assign ts e2 p=>{ tag:=0,ts,e2,p }
 | .Expr e1 p=>{ tag:=1,e1,p }
 | .If e1 b1 b2 p=>{ tag:=2,e1,b1,b2,p }
 | .For e1 e2 b1 b2 p=>{ tag:=3,e1,e2,b1,b2,p }
 | .While e1 b1 b2 p=>{ tag:=4,e1,b1,b2,p }
 | .Return o1 p=>{ tag:=5,o1,p }
 | .Continue p=>{ tag:=6,p }
 | .Raise o1 o2 p=>{ tag:=8,o1,o2,p }
 | .Try b1 hs b2 b3 p=>{ tag:=9,b1,hs,b2,b3,p }
 | _=>{ tag:=7 }
noncomputable def backS (v:VS):Nat→Option Stmt
 | 0=>some (.Assign v.ts v.e2 v.p)
 | 1=>some (.Expr v.e1 v.p)
 | 2=>some (.If v.e1 v.b1 v.b2 v.p)
 | 3=>some (.For v.e1 v.e2 v.b1 v.b2 v.p)
 | 4=>some (.While v.e1 v.b1 v.b2 v.p)
 | 5=>some (.Return v.o1 v.p)
 | 6=>some (.Continue v.p)
 | 8=>some (.Raise v.o1 v.o2 v.p)
 | 9=>some (.Try v.b1 v.hs v.b2 v.b3 v.p)
 | _=>none
theorem viewS_eq (e:Stmt):∀x,backS (viewS e) (viewS e).tag=some x→e=x:=by
 cases e<;>first | exact fun x h=>Option.some.inj h | exact fun x h=>nos1 h
theorem viewS_at {e:Stmt}{n:Nat}{x:Stmt}(h:(viewS e).tag=n) (hx:backS (viewS e) n=some x):e=x:=viewS_eq e x (h▸hx)
noncomputable def isTag (st:Stmt) (n:Nat):Bool:=(viewS st).tag==n
theorem isTag_eq {e:Stmt}{n:Nat}{x:Stmt}(h:isTag e n=true) (hx:backS (viewS e) n=some x):e=x:=viewS_at (eq_of_beq h) hx
noncomputable def isNoneV:MV→Bool
 | .none=>true
 | _=>false
noncomputable def isNoneM:ME→Bool
 | .cst v=>isNoneV v
 | _=>false
noncomputable def exh:ExceptHandler→Option Expr × Option Str × List Stmt × Pos
 | .ExceptHandler a b c p=>(a,b,c,p)
theorem exh_eq (h:ExceptHandler):h=.ExceptHandler (exh h).1 (exh h).2.1 (exh h).2.2.1 (exh h).2.2.2:=by cases h;rfl
noncomputable def isStrC:Const→Bool
 | .str _=>true
 | _=>false
noncomputable def inH (c:Cx):Cx:={ c with nh:=false }
mutual
noncomputable def chkS:Cx→MSt→Stmt→Bool
 | c,.asg t many e,st=>isTag st 0&&onSome (one (viewS st).ts) fun tg=>chkT c t many tg&&okX (viewS st).e2&&(!many||!isTupE (viewS st).e2)&&(!isComp (viewS st).e2||isCompM e)&&(c.nh||!many)&&chkE c e (viewS st).e2
 | c,.setAttr k o x e,st=>isTag st 0&&onSome (one (viewS st).ts) fun tg=>okX (viewS st).e2&&!isComp (viewS st).e2&&chkE c e (viewS st).e2&&onSome (xAttr tg) fun q=>q.2.1.cps.toList==x&&attrNames.contains q.2.1&&c.at_ k q.2.1&&chkE c o q.1
 | c,.setIdx o i e,st=>isTag st 0&&onSome (one (viewS st).ts) fun tg=>okX (viewS st).e2&&!isComp (viewS st).e2&&chkE c e (viewS st).e2&&onSome (xSub tg) fun q=>chkE c o q.1&&chkE c i q.2
 | c,.expr e,st=>isTag st 1&&(okX (viewS st).e1&&!isComp (viewS st).e1&&chkE c e (viewS st).e1)
 | c,.ite d a b,st=>isTag st 2&&(chkE c d (viewS st).e1&&chkSs c a (viewS st).b1&&chkSs c b (viewS st).b2)
 | c,.for_ t many k src body,st=>isTag st 3&&(c.nh&&(viewS st).b2.isEmpty&&chkT c t many (viewS st).e1&&(!isEnum k||many)&&okX (viewS st).e2&&onSome (itArgs c k (viewS st).e2) (fun xs=>chkEs c src xs)&&chkSs c body (viewS st).b1)
 | c,.while_ d body,st=>isTag st 4&&((viewS st).b2.isEmpty&&chkE c d (viewS st).e1&&chkSs c body (viewS st).b1)
 | c,.ret e,st=>isTag st 5&&match (viewS st).o1 with
  | some x=>chkE c e x
  | none=>isNoneM e
 | c,.cont,st=>isTag st 6
 | c,.raise k,st=>!useX||isTag st 8&&((viewS st).o2.isNone&&c.nh&&onSome (viewS st).o1 fun e=>onSome (xFn e) fun q=>glName c q.1&&c.xn k==some q.1&&onSome (one q.2.1) fun y=>onSome (xConst y) isStrC)
 | c,.try_ body k v h,st=>!useX||isTag st 9&&((viewS st).b2.isEmpty&&(viewS st).b3.isEmpty&&onSome (one (viewS st).hs) fun hh=>onSome (exh hh).1 fun ty=>onSome (exh hh).2.1 fun nm=>k==0&&c.nm v==some nm&&c.kind nm==some .local&&!(exh hh).2.2.1.isEmpty&&onSome (xName ty) (fun x=>glName c x&&c.xn k==some x)&&chkSs c body (viewS st).b1&&chkSs (inH c) h (exh hh).2.2.1)
noncomputable def chkSs:Cx→List MSt→List Stmt→Bool
 | c,[],xs=>xs.isEmpty
 | c,s::ss,xs=>match xs with
  | []=>false
  | x::xs=>chkS c s x&&chkSs c ss xs
end
section
variable {C:Glo}{F:Fm}{X:XM}{c:Cx}{n:Nat}{ρ ρ' ρ₀:List Addr}{m:MS}{s s' s₀:Shared}{A:Around}{E:Value→Shared→Prop}
inductive FlR (C:Glo) (ρ:List Addr) (h:Heap):Fl→Flow→Prop
 | next:FlR C ρ h .next .next
 | brk:FlR C ρ h .brk .brk
 | cont:FlR C ρ h .cont .cont
 | ret {x v}:Rep C ρ h x v→FlR C ρ h (.ret x) (.ret v)
noncomputable def FlI (C:Glo) (ρ:List Addr) (h:Heap) (fl:Fl) (f:Flow):Prop:=match fl with
 | .next=>f=.next
 | .brk=>f=.brk
 | .cont=>f=.cont
 | .ret x=>∃v,f=.ret v∧Rep C ρ h x v
theorem FlR.inv {h:Heap}{fl:Fl}{f:Flow}(r:FlR C ρ h fl f):FlI C ρ h fl f:=FlR.casesOn (motive:=fun fl f _=>FlI C ρ h fl f) r rfl rfl rfl (fun r=>⟨_,rfl,r⟩)
inductive OutF (C:Glo) (F:Fm) (ρ:List Addr) (s:Shared) (Q:Fl→MS→Prop) (f:Flow) (s':Shared):Prop
 | mk (ρ':List Addr) (m':MS) (fl:Fl) (st:Step F.W ρ s ρ' s') (R:Rel C F ρ' m' s') (hf:FlR C ρ' s'.heap fl f) (hq:Q fl m'):OutF C F ρ s Q f s'
theorem OutF.back {Q:Fl→MS→Prop}(st:Step F.W ρ₀ s₀ ρ s):∀f s',OutF C F ρ s Q f s'→OutF C F ρ₀ s₀ Q f s':=
 fun _ _ ⟨ρ',m',x,a,b,c,d⟩=>⟨ρ',m',x,st.trans a,b,c,d⟩
noncomputable def WPs (C:Glo) (F:Fm) (X:XM) (t:Sem Flow) (Q:Fl→MS→Prop) (m:MS):Prop:=
 ∀s ρ,Rel C F ρ m s→wpAny (mod C) F.A t (OutF C F ρ s Q) (Er C F X ρ s) s
inductive ForI (C:Glo) (F:Fm) (items:List MV) (g:Option (Nat × List MV)) (st:MV→(Fl→MS→Prop)→MS→Prop) (Q:Fl→MS→Prop) (S:List Addr) (It:Nat→List Addr→Shared→Prop) (ρ₀:List Addr) (s₀:Shared) (k:Nat) (s:Shared):Prop
 | mk (ρ:List Addr) (m:MS) (i:Nat) (hk:k=items.length-i) (st₁:Step F.W ρ₀ s₀ ρ s) (R:Rel C F ρ m s) (hit:It i ρ s) (as:Aside C F ρ s.heap S) (hf:forL g st Q (items.drop i) m)
inductive WhI (C:Glo) (F:Fm) (P:Nat→MS→Prop) (ρ₀:List Addr) (s₀:Shared) (k:Nat) (s:Shared):Prop
 | mk (ρ:List Addr) (m:MS) (st₁:Step F.W ρ₀ s₀ ρ s) (R:Rel C F ρ m s) (hw:P k m)
theorem for_ok (cx:CxOk C c F n) (fo:FrOn F) (hbs:C.base.StaysIn s₀.heap) {target:Expr}{itv:Value}{items:List MV}{g:Option (Nat × List MV)}{S:List Addr}{It:Nat→List Addr→Shared→Prop}(wk:Walk C F.A target itv items g S It)
  {st:MV→(Fl→MS→Prop)→MS→Prop}{Q:Fl→MS→Prop}{body:List Stmt}(hS:∀a∈S,s₀.heap.get? a=none)
  (hb:∀x v ρ m s (P:Fl→MS→Prop),Rel C F ρ m s→Rep C ρ s.heap x v→st x P m→wpAny (mod C) F.A (assign target F.env v) (fun _ s₁=>wpAny (mod C) F.A (execs body F.env) (OutF C F ρ s P) (Er C F X ρ s) s₁) (Er C F X ρ s) s)
  (st₀:Step F.W ρ₀ s₀ ρ s) (R:Rel C F ρ m s) (h0:It 0 ρ s) (as:Aside C F ρ s.heap S) (h:forL g st Q items m) :
  codeAny (mod C) F.A (.forLoop target itv body [] F.env) (fun r s'=>match r with | .ok f=>OutF C F ρ₀ s₀ Q f s' | .error e=>cameBackBy (mod C) F.A F.env (Er C F X ρ₀ s₀) e s') s:=by
 refine codeAny_forLoop_any (ForI C F items g st Q S It ρ₀ s₀) (fun k s hI=>?_) _ ⟨ρ,m,0,rfl,st₀,R,h0,as,by exact h⟩
 obtain ⟨ρ,m,i,rfl,st₁,R,hit,as,hf⟩:=hI
 cases e:items[i]? with
 | none=>
  have:items.drop i=[]:=by rw [List.drop_eq_nil_iff];exact List.getElem?_eq_none_iff.mp e
  rw [this,forL_nil] at hf
  obtain ⟨hg,hq⟩:=hf
  refine wpAny_mono (wk.done i ρ m.heap s R.hp hg hit e (fun _ _=>False) (fun s₂=>Side S s s₂) fun s₂ sd=>sd) (fun r s₁ ⟨hr,sd⟩=>?_) fun _ _ x=>x.elim
  subst hr
  exact wpAny_execs_nil ⟨ρ,m,.next,st₁.side sd hS,R.side cx.fm as sd,.next,hq⟩
 | some x=>
  obtain ⟨hlt,hx⟩:=List.getElem?_eq_some_iff.mp e
  rw [List.drop_eq_getElem_cons hlt,hx,forL_cons] at hf
  obtain ⟨hg,hq⟩:=hf
  refine wk.item i ρ m.heap s x R.hp hg hit e _ _ _ fun v s₂ sd hit' rv=>?_
  have R₂:=R.side cx.fm as sd
  have st₂:=st₁.side sd hS
  refine wpAny_mono (hb x v ρ m s₂ _ R₂ rv hq) (fun _ s₃ h₃=>wpAny_mono h₃ (fun f s₄ h₄=>?_) fun e s' x=>er_loop cx.fm fo hbs (Er.back st₂ e s' x)) fun e s' x=>er_loop cx.fm fo hbs (Er.back st₂ e s' x)
  obtain ⟨ρ₄,m₄,fl,st₄,R₄,hfl,hq₄⟩:=h₄
  obtain ⟨as₄,kp₄⟩:=(as.shape (wk.shape _ _ _ hit')).step st₄
  have hit₄:=wk.keep _ _ _ _ _ hit' st₄.pre st₄.solid kp₄
  have hlt2:items.length-(i+1)<items.length-i:=Nat.sub_succ_lt_self _ _ hlt
  cases fl with
  | next=>obtain rfl:=hfl.inv;exact ⟨_,hlt2,ρ₄,m₄,i+1,rfl,st₂.trans st₄,R₄,hit₄,as₄,hq₄⟩
  | cont=>obtain rfl:=hfl.inv;exact ⟨_,hlt2,ρ₄,m₄,i+1,rfl,st₂.trans st₄,R₄,hit₄,as₄,hq₄⟩
  | brk=>obtain rfl:=hfl.inv;exact ⟨ρ₄,m₄,.next,st₂.trans st₄,R₄,.next,hq₄⟩
  | ret r=>obtain ⟨v,rfl,rv⟩:=hfl.inv;exact ⟨ρ₄,m₄,.ret _,st₂.trans st₄,R₄,.ret rv,hq₄⟩
theorem dset_stored:∀{es:List (List Nat × MV)}{kvs:List (Str × Value)}{h:Heap},RepK C ρ h es kvs→(kvs.map (·.1)).Nodup→∀{k:List Nat}{x:MV}{v:Value},k.length≤line→Rep C ρ h x v→RepK C ρ h (dset es k x) (stored kvs (str k) v)
 | _,_,_,.nil,_,k,x,v,z,r=>by
  exact .cons z r .nil
 | _,_,_,@RepK.cons _ _ _ k' x' v' es ds z' a b,hn,k,x,v,z,r=>by
  simp only [List.map_cons,List.nodup_cons] at hn
  show RepK C ρ _ (match k'==k with
   | true=>(k',x)::es
   | false=>(k',x')::dset es k x) _
  by_cases e:k'=k
  ·subst e
   rw [beq_self_eq_true]
   have e1:stored ((str k',v')::ds) (str k') v=(str k',v)::ds:=by
    unfold stored
    rw [if_pos (by simp)]
    simp only [List.map_cons,if_true]
    congr 1
    conv=>rhs;rw [←List.map_id ds]
    refine List.map_congr_left fun p hp=>?_
    rw [if_neg (fun q=>hn.1 (by rw [←q];exact List.mem_map.mpr ⟨p,hp,rfl⟩))];rfl
   rw [e1]
   exact .cons z r b
  ·have e2:¬ str k'=str k:=fun q=>e (str_inj q)
   have e1:(k'==k)=false:=by exact beq_eq_false_iff_ne.mpr e
   rw [e1]
   have e3:stored ((str k',v')::ds) (str k) v=(str k',v')::stored ds (str k) v:=by
    unfold stored
    simp only [List.any_cons,e2,decide_false,Bool.false_or,List.map_cons,if_false]
    split<;>rfl
   rw [e3]
   exact .cons z' a (dset_stored b hn.2 z r)
theorem dset_len:∀(es:List (List Nat × MV)) (k:List Nat) (x:MV),(dset es k x).length≤es.length+1
 | [],_,_=>Nat.le_refl _
 | (k',x')::r,k,x=>by
  show (match k'==k with
   | true=>(k',x)::r
   | false=>(k',x')::dset r k x).length≤_
  cases k'==k with
  | true=>exact Nat.le_succ _
  | false=>exact Nat.succ_le_succ (dset_len r k x)
theorem swaps_some {v:Expr}(h:okX v=true) (x:Str) (px:Pos) (l:Nat) (env:Env):∃b,swapsWith v (some (.Name x px)) l env=pure b:=by
 cases hi:isComp v with
 | false=>exact ⟨false,swaps_no hi h _ _ _⟩
 | true=>
  unfold isComp at hi
  obtain ⟨k,hk⟩:=Option.isSome_iff_exists.mp hi
  obtain ⟨p,rfl⟩:=xLC_eq hk
  exact ⟨_,rfl⟩
theorem swaps_tup {v:Expr}(h:okX v=true) (elts:List Expr) (k:Nat) (p:Pos) (l:Nat) (env:Env):swapsWith v (some (.Tuple elts k p)) l env=pure false:=by
 cases hi:isComp v with
 | false=>exact swaps_no hi h _ _ _
 | true=>
  unfold isComp at hi
  obtain ⟨k,hk⟩:=Option.isSome_iff_exists.mp hi
  obtain ⟨p,rfl⟩:=xLC_eq hk
  rfl
theorem compM_is {e:ME}(h:isCompM e=true):∃elt t many k src ifs,e=.comp elt t many k src ifs:=by
 cases e<;>first | exact ⟨_,_,_,_,_,_,rfl⟩ | exact ff h
theorem swaps_comp {v:Expr}{t:Option Expr}{l:Nat}{env:Env}(h':okX v=true) (h:swapsWith v t l env=pure true):isComp v=true:=by
 cases hi:isComp v with
 | true=>rfl
 | false=>
  rw [swaps_no hi h'] at h
  exact absurd h (by intro h;injection h with h;exact ff h)
theorem asg_comp (G:GOk C) (cx:CxOk C c F n) {e:ME}{v:Expr}{i:Nat}{x:Str}{px pos:Pos}(hx:c.nm i=some x) (hk:c.kind x=some .local∨(c.wr=true∧c.kind x≠some .free)) (hm:isCompM e=true) (he:chkE c e v=true)
  (hb:swapsWith v (some (.Name x px)) pos.line F.env=pure true) {Q:Fl→MS→Prop}(h:wpE (Call C) n e (fun v m=>asg [i] false v (fun m=>Q .next m) m) X m) (R:Rel C F ρ m s) :
  wpAny (mod C) F.A (exec (.Assign [.Name x px] v pos) F.env) (OutF C F ρ s Q) (Er C F X ρ s) s:=by
 obtain ⟨elt,t,many,k,src,ifs,rfl⟩:=compM_is hm
 rw [exec_Assign_Name_used _ _ _ _ hb]
 obtain ⟨⟨elt',gs,sc⟩,hxx,he⟩:=onSome_true he
 obtain ⟨g,hg,he⟩:=onSome_true he
 obtain rfl:=one_eq hg
 obtain ⟨pos',rfl⟩:=xLC_eq hxx
 obtain ⟨he,h8⟩:=and_t he
 obtain ⟨he,h7⟩:=and_t he
 obtain ⟨he,h6⟩:=and_t he
 obtain ⟨he,h5⟩:=and_t he
 obtain ⟨he,h4⟩:=and_t he
 obtain ⟨he,h3⟩:=and_t he
 obtain ⟨he,h2⟩:=and_t he
 obtain ⟨h0,h1⟩:=and_t he
 have h1:=eq_of_beq h1
 have h3:=or_t h3
 obtain ⟨xs,hxs,h5⟩:=onSome_true h5
 have ha:firstAsync [g]=false:=by
  obtain ⟨_,_,_,a⟩:=g;simp only at h1;subst h1;rfl
 refine wpAny_bind (wpAny_standAt (wpAny_bind ?_))
 show wpAny _ F.A (do let _ ←comprehension (.ListComp elt' [g] sc pos') sc F.env (firstIterPos [g] pos') (newList []) (firstAsync [g]) (firstIter [g] F.env) (some (assign (.Name x px) F.env))) _ _ s
 have hfi:firstIter [g] F.env=eval g.iter F.env:=by cases g;rfl
 rw [ha,hfi]
 refine wpAny_bind (wpAny_mono (comp_ok (use:=some (assign (.Name x px) F.env)) (QQ:=fun _ s'=>OutF C F ρ s Q .next s') G cx h0 h1 h2 (fun e=>h3.resolve_left (by rw [e];decide)) h4 hxs h5 h6 h7 h8 (fun a ha=>(sEs G src X c F cx a ha).1)
  (fun F' cx'=>(sE G elt noX _ F' cx').1) (fun F' cx' a ha=>(sEs G ifs noX _ F' cx' a ha).2) h R fun D L ρ' m' s' j st R' rx hq hl=>?_) (fun _ s' hq=>wpAny_pure (wpAny_pure hq)) fun _ _ x=>x)
 show wpAny _ _ (assign (.Name x px) F.env (.ref D)) _ _ _
 refine PyProof.Rows.assign_Name (store_var cx R' hx hk rx fun s₂ st2 R₂=>?_)
 obtain ⟨⟨f,hf⟩,hs⟩:=hl ρ' _ s₂ st2 R₂
 refine ⟨f,hf,fun h' hsb=>?_⟩
 obtain ⟨Rf,stf,hsol⟩:=hs h' hsb
 exact ⟨ρ',_,.next,stf,Rf,.next,hq⟩
noncomputable def SS (C:Glo) (X:XM) (n:Nat) (c:Cx) (F:Fm) (me:MSt):Prop:=∀(e:Stmt),chkS c me e=true→∀(Q:Fl→MS→Prop) (m:MS),wpS (Call C) n me Q X m→WPs C F X (exec e F.env) Q m
noncomputable def SSs (C:Glo) (X:XM) (n:Nat) (c:Cx) (F:Fm) (ss:List MSt):Prop:=∀(es:List Stmt),chkSs c ss es=true→∀(Q:Fl→MS→Prop) (m:MS),wpSs (Call C) n ss Q X m→WPs C F X (execs es F.env) Q m
theorem ss_asg (G:GOk C) (cx:CxOk C c F n) {t:List Nat}{many:Bool}{e:ME}:SS C X n c F (.asg t many e):=by
 intro st hc Q m h
 obtain ⟨hv,hc⟩:=and_t hc
 obtain ⟨tg,h1,hc⟩:=onSome_true hc
 rw [isTag_eq hv rfl,one_eq h1]
 clear hv h1
 generalize (viewS st).e2=v at *
 generalize (viewS st).p=pos at *
 obtain ⟨hc,he⟩:=and_t hc
 obtain ⟨hc,hnh⟩:=and_t hc
 obtain ⟨hc,hcm⟩:=and_t hc
 obtain ⟨hc,hm⟩:=and_t hc
 obtain ⟨ht,ho⟩:=and_t hc
 intro s ρ R
 cases many with
 | false=>
  obtain ⟨i,x,px,rfl,rfl,h1,h2⟩:=chkT_one ht
  obtain ⟨b,hb⟩:=swaps_some ho x px pos.line F.env
  cases b with
  | false=>
   refine wpAny_Assign_Name ((soundE G cx e v he _ m h).go R (.refl _ _ _) fun ρ₁ s₁ m₁ y w st t1 R₁ rx h₁=>?_) hb
   exact store_var cx R₁ h1 (setOk_is h2) rx fun s₂ st2 R₂=>⟨ρ₁,_,.next,t1.trans st2,R₂,.next,h₁⟩
  | true=>exact asg_comp G cx h1 (setOk_is h2) ((or_t hcm).resolve_left fun q=>q (swaps_comp ho hb)) he hb h R
 | true=>
  obtain ⟨elts,k,p,rfl,_⟩:=chkT_many ht
  refine PyProof.Rows.Assign_Tuple ((soundE G cx e v he _ m h).go R (.refl _ _ _) fun ρ₁ s₁ m₁ y w st t1 R₁ rx h₁=>?_) (swaps_tup ho elts k p pos.line F.env) (swapped_no (not_t hm) ho _)
  exact wpAny_mono (assign_ok cx ht rx R₁ h₁ fun _=>cx.hn (by rw [←hnh];exact (Bool.or_false _).symm)) (fun _ s₂ ⟨m',st2,R₂,q⟩=>⟨ρ₁,m',.next,t1.trans st2,R₂,.next,q⟩) fun _ _ x=>x
theorem setIdx_ok (G:GOk C) (cx:CxOk C c F n) (R:Rel C F ρ m s) (t3:Step F.W ρ₀ s₀ ρ s) {x y u:MV}{xv yv uv:Value}(rx:Rep C ρ s.heap x xv) (ry:Rep C ρ s.heap y yv) (ru:Rep C ρ s.heap u uv) {Q:Fl→MS→Prop}(h:wpSetIdx x y u (Q .next) m) :
  wpAny (mod C) A (setItem xv yv uv) (fun _ s'=>OutF C F ρ₀ s₀ Q .next s') E s:=by
 refine Classical.byContradiction fun hn=>?_
 cases y with
 | str k=>
  obtain ⟨r,rfl,h1⟩:=onR_inv h
  obtain ⟨es,hes,hlen,hq⟩:=onDs_inv h1
  obtain ⟨a,rfl,g⟩:=rx.inv
  obtain ⟨t,rfl,z⟩:=ry.inv
  obtain ⟨kvs,dk,rk,zz⟩:=R.hp.objs _ _ _ hes g
  refine hn (wpAny_setItem_pairs (knd:=strKind C.prog C.w) (k:=str k) (strKind_is _ _ _ _) dk (fun h' hd hs=>?_) (by rw [rk.length];exact Nat.le_of_lt hlen))
  have hk:∀b ob,b≠a→s.heap.get? b=some ob→h'.get? b=some ob:=fun b ob q e=>(hs.2 b q).trans e
  have hsol:Solids s.heap h':=solids_but hk (repO_not_solid (R.hp.objs _ _ _ hes g))
  have hnd:(kvs.map (·.1)).Nodup:=by obtain ⟨_,_,_,_,_,_,_,_,hn⟩:=dk;exact hn
  obtain ⟨R₄,st₄⟩:=R.put (s':={ s with heap:=h',toks:=s.toks+1 }) cx.fm g hes (o:=.dict (dset es k u)) hk rfl rfl
   ⟨_,hd,(dset_stored rk hnd z ru).up hsol (List.prefix_refl _),Nat.le_trans (dset_len es k u) hlen⟩
  exact ⟨_,_,.next,t3.trans st₄,R₄,.next,hq⟩
 | int k=>
  obtain ⟨r,rfl,h1⟩:=onR_inv h
  obtain ⟨xs,hi,h1⟩:=onLs_inv h1
  obtain ⟨j,hj,h1,hq⟩:=onO_inv h1
  obtain ⟨t,rfl⟩:=ry.inv
  exact hn (setL_ok cx.fm R rx hi hj h1 ru fun s' R₄ st₄=>⟨_,_,.next,t3.trans st₄,R₄,.next,hq⟩)
 | _=>exact h
set_option tactic.hygienic true in
theorem ss_setIdx (G:GOk C) (cx:CxOk C c F n) {o i e:ME}:SS C X n c F (.setIdx o i e):=by
 intro st hc Q m h
 obtain ⟨hv,hc⟩:=and_t hc
 obtain ⟨tg,h1,hc⟩:=onSome_true hc
 rw [isTag_eq hv rfl,one_eq h1]
 clear hv h1
 generalize (viewS st).e2=v at *
 generalize (viewS st).p=pos at *
 obtain ⟨hc,ho⟩:=and_t hc
 obtain ⟨hc,he⟩:=and_t hc
 obtain ⟨hox,hcomp⟩:=and_t hc
 obtain ⟨⟨ov,iv⟩,hx,ho⟩:=onSome_true ho
 obtain ⟨p,rfl⟩:=xSub_eq hx
 obtain ⟨ho,hi⟩:=and_t ho
 intro s ρ R
 refine wpAny_Assign_Subscript ((soundE G cx e v he _ m h).go R (.refl _ _ _) fun ρ₁ s₁ m₁ x xv st t1 R₁ rx h₁=>?_) (swaps_no (not_t hcomp) hox _ _ _)
 refine (soundE G cx o ov ho _ m₁ h₁).go R₁ t1 fun ρ₂ s₂ m₂ y yv st2 t2 R₂ ry h₂=>?_
 exact (soundE G cx i iv hi _ m₂ h₂).go R₂ t2 fun ρ₃ s₃ m₃ z zv st3 t3 R₃ rz h₃=>setIdx_ok G cx R₃ t3 (ry.step st3) rz ((rx.step st2).step st3) h₃
theorem ss_expr (G:GOk C) (cx:CxOk C c F n) {e:ME}:SS C X n c F (.expr e):=by
 intro st hc Q m h
 obtain ⟨hv,hc⟩:=and_t hc
 obtain ⟨hc,he⟩:=and_t hc
 obtain ⟨h1,h2⟩:=and_t hc
 rw [isTag_eq hv rfl]
 intro s ρ R
 exact wpAny_Expr_any ((soundE G cx e _ he _ m h).go R (.refl _ _ _) fun ρ₁ s₁ m₁ y w st t1 R₁ rx h₁=>⟨_,_,.next,t1,R₁,.next,h₁⟩) cx.inter (swaps_no (not_t h2) h1 _ _ _)
theorem ss_ite (G:GOk C) (cx:CxOk C c F n) {d:ME}{a b:List MSt}(ia:SSs C X n c F a) (ib:SSs C X n c F b):SS C X n c F (.ite d a b):=by
 intro st hc Q m h
 obtain ⟨hv,hc⟩:=and_t hc
 obtain ⟨hc,hb⟩:=and_t hc
 obtain ⟨hd,ha⟩:=and_t hc
 rw [isTag_eq hv rfl]
 intro s ρ R
 refine wpAny_If ((soundC G cx d _ hd _ m h).go R (.refl _ _ _) fun ρ₁ s₁ m₁ t st t1 R₁ h₁=>?_)
 cases t with
 | true=>exact wpAny_mono (ia _ ha Q m₁ h₁ s₁ ρ₁ R₁) (OutF.back t1) (Er.back t1)
 | false=>exact wpAny_mono (ib _ hb Q m₁ h₁ s₁ ρ₁ R₁) (OutF.back t1) (Er.back t1)
theorem ss_for (G:GOk C) (cx:CxOk C c F n) (fo:FrOn F) {t:List Nat}{many:Bool}{k:IK}{src:List ME}{body:List MSt}(ib:SSs C X n c F body):SS C X n c F (.for_ t many k src body):=by
 intro st hc Q m h
 obtain ⟨hv,hc⟩:=and_t hc
 obtain ⟨hc,hb⟩:=and_t hc
 obtain ⟨hc,hi⟩:=and_t hc
 obtain ⟨hc,hx⟩:=and_t hc
 obtain ⟨hc,hm⟩:=and_t hc
 obtain ⟨hc,ht⟩:=and_t hc
 obtain ⟨hnh,hb2⟩:=and_t hc
 rw [isTag_eq hv rfl,List.isEmpty_iff.mp hb2]
 intro s ρ R
 obtain ⟨xs,hxs,hi⟩:=onSome_true hi
 refine wpAny_For (wpAny_mono (soundIt G cx hnh (fun a ha=>(sEs G src X c F cx a ha).1) hxs hi (chkT_target ht) (fun e=>by
  obtain rfl:=(or_t hm).resolve_left fun q=>q e
  obtain ⟨a,b,d,e,_⟩:=chkT_many ht
  exact ⟨a,b,d,e,trivial⟩) (P:=fun items g m=>forL g (fun v P m=>asg t many v (fun m=>wpSs (Call C) n body P X m) m) Q items m) h R) (fun xv s₁ h₁=>wpAny_mono h₁ (fun itv s₂ h₂=>?_) fun _ _ x=>x) fun _ _ x=>x) (okX_folded hx _)
 obtain ⟨ρ₂,m₂,items,g,S,It,st₂,R₂,wk,h0,as,hS,_,hf⟩:=h₂
 refine for_ok cx fo R.hp.base wk hS (fun x v ρ m s P R rv hst=>?_) st₂ R₂ h0 as hf
 refine wpAny_mono (assign_ok (E:=fun _ _=>False) cx ht rv R hst fun _=>cx.hn hnh) (fun _ s₁ ⟨m',st1,R₁,q⟩=>?_) fun _ _ x=>x.elim
 exact wpAny_mono (ib _ hb P m' q s₁ ρ R₁) (OutF.back st1) (Er.back st1)
theorem ss_while (G:GOk C) (cx:CxOk C c F n) (fo:FrOn F) {d:ME}{body:List MSt}(ib:SSs C X n c F body):SS C X n c F (.while_ d body):=by
 intro st hc Q m h
 obtain ⟨hv,hc⟩:=and_t hc
 obtain ⟨hc,hb⟩:=and_t hc
 obtain ⟨hb2,hd⟩:=and_t hc
 rw [isTag_eq hv rfl,List.isEmpty_iff.mp hb2]
 obtain ⟨k,h⟩:=h
 intro s ρ R
 refine wpAny_While (codeAny_whileLoop (WhI C F (whileN (fun P m=>wpE (Call C) n d (ofBool P) X m) (fun P m=>wpSs (Call C) n body P X m) Q) ρ s) (fun k s₁ hI=>?_) k ⟨ρ,m,.refl _ _ _,R,h⟩)
 obtain ⟨ρ₁,m₁,st₁,R₁,hw⟩:=hI
 cases k with
 | zero=>rw [whileN_zero] at hw;exact hw.elim
 | succ k=>
  rw [whileN_succ] at hw
  refine wpAny_mono (soundC G cx d _ hd _ m₁ hw s₁ ρ₁ R₁) (fun t s₂ ⟨ρ₂,m₂,st₂,R₂,h₂⟩=>?_) fun e s' x=>er_loop cx.fm fo R.hp.base (Er.back st₁ e s' x)
  cases t with
  | true=>
   rw [if_pos rfl]
   refine wpAny_mono (ib _ hb _ m₂ h₂ s₂ ρ₂ R₂) (fun f s₃ ⟨ρ₃,m₃,fl,st₃,R₃,hfl,h₃⟩=>?_) fun e s' x=>er_loop cx.fm fo R.hp.base (Er.back (st₁.trans st₂) e s' x)
   have stt:=(st₁.trans st₂).trans st₃
   cases fl with
   | next=>obtain rfl:=hfl.inv;exact ⟨k,Nat.lt_succ_self k,ρ₃,m₃,stt,R₃,h₃⟩
   | cont=>obtain rfl:=hfl.inv;exact ⟨k,Nat.lt_succ_self k,ρ₃,m₃,stt,R₃,h₃⟩
   | brk=>obtain rfl:=hfl.inv;exact ⟨ρ₃,m₃,.next,stt,R₃,.next,h₃⟩
   | ret r=>obtain ⟨v,rfl,rv⟩:=hfl.inv;exact ⟨ρ₃,m₃,.ret _,stt,R₃,.ret rv,h₃⟩
  | false=>
   rw [if_neg (by decide)]
   exact wpAny_execs_nil ⟨ρ₂,m₂,.next,st₁.trans st₂,R₂,.next,h₂⟩
theorem noneM_is {e:ME}(h:isNoneM e=true):e=.cst .none:=by
 cases e with
 | cst v=>cases v<;>first | rfl | exact ff h
 | _=>exact ff h
theorem ss_ret (G:GOk C) (cx:CxOk C c F n) {e:ME}:SS C X n c F (.ret e):=by
 intro st hc Q m h
 obtain ⟨hv,hc⟩:=and_t hc
 rw [isTag_eq hv rfl]
 clear hv
 intro s ρ R
 cases ho:(viewS st).o1 with
 | some x=>
  rw [ho] at hc
  exact wpAny_Return_some ((soundE G cx e _ hc _ m h).go R (.refl _ _ _) fun ρ₁ s₁ m₁ y w st t1 R₁ rx h₁=>⟨_,_,_,t1,R₁,.ret rx,h₁⟩)
 | none=>
  rw [ho] at hc
  obtain rfl:=noneM_is hc
  exact wpAny_Return_none ⟨ρ,m,.ret .none,.refl _ _ _,R,.ret .none,h⟩
theorem ss_cont:SS C X n c F .cont:=by
 intro st hc Q m h
 rw [isTag_eq hc rfl]
 intro s ρ R
 exact wpAny_Continue ⟨_,_,_,.refl _ _ _,R,.cont,h⟩
theorem sss_nil:SSs C X n c F []:=by
 intro es hc Q m h
 cases es with
 | nil=>intro s ρ R;exact wpAny_execs_nil ⟨_,_,_,.refl _ _ _,R,.next,h⟩
 | cons=>exact ff hc
theorem sss_cons {x:MSt}{ss:List MSt}(ix:SS C X n c F x) (iss:SSs C X n c F ss):SSs C X n c F (x::ss):=by
 intro es hc Q m h
 cases es with
 | nil=>exact ff hc
 | cons e es=>
  replace hc:=and_t hc
  intro s ρ R
  refine wpAny_execs_cons (wpAny_mono (ix e hc.1 _ m h s ρ R) (fun f s₁ ⟨ρ₁,m₁,fl,st,R₁,hfl,h₁⟩=>?_) fun _ _ x=>x)
  cases fl with
  | next=>obtain rfl:=hfl.inv;exact wpAny_mono (iss es hc.2 Q m₁ h₁ s₁ ρ₁ R₁) (OutF.back st) (Er.back st)
  | brk=>obtain rfl:=hfl.inv;exact ⟨_,_,_,st,R₁,.brk,h₁⟩
  | cont=>obtain rfl:=hfl.inv;exact ⟨_,_,_,st,R₁,.cont,h₁⟩
  | ret r=>obtain ⟨v,rfl,rv⟩:=hfl.inv;exact ⟨_,_,_,st,R₁,.ret rv,h₁⟩
end
end Internal
end
section
namespace Internal
open PySem PyProof.Rows
theorem dget_dset_is:∀(es:List (List Nat × MV)) (x:List Nat) (v:MV) (k:List Nat),dget (dset es x v) k=if k=x then some v else dget es k
 | [],x,v,k=>by
  show (match x==k with | true=>some v | false=>none)=_
  by_cases e:k=x
  ·subst e;rw [beq_self_eq_true,if_pos rfl]
  ·rw [if_neg e,beq_eq_false_iff_ne.mpr (Ne.symm e)];rfl
 | (y,w)::r,x,v,k=>by
  have ih:=dget_dset_is r x v k
  by_cases e:y=x
  ·subst e
   show dget (match y==y with | true=>(y,v)::r | false=>(y,w)::dset r y v) k=_
   rw [beq_self_eq_true]
   show (match y==k with | true=>some v | false=>dget r k)=if k=y then some v else (match y==k with | true=>some w | false=>dget r k)
   by_cases e2:k=y
   ·subst e2;rw [beq_self_eq_true,if_pos rfl]
   ·rw [if_neg e2,beq_eq_false_iff_ne.mpr (Ne.symm e2)]
  ·show dget (match y==x with | true=>(y,v)::r | false=>(y,w)::dset r x v) k=_
   rw [beq_eq_false_iff_ne.mpr e]
   show (match y==k with | true=>some w | false=>dget (dset r x v) k)=if k=x then some v else (match y==k with | true=>some w | false=>dget r k)
   by_cases e2:y=k
   ·subst e2;rw [beq_self_eq_true,if_neg e]
   ·rw [beq_eq_false_iff_ne.mpr e2];exact ih
theorem dget_key:∀{es:List (List Nat × MV)}{k:List Nat},dget es k≠none→k∈es.map (·.1)
 | [],_,h=>absurd rfl h
 | (y,w)::r,k,h=>by
  by_cases e:y=k
  ·subst e;exact List.mem_cons_self ..
  ·refine List.mem_cons_of_mem _ (dget_key fun q=>h ?_)
   show (match y==k with | true=>some w | false=>dget r k)=none
   rw [beq_eq_false_iff_ne.mpr e];exact q
section
variable {C:Glo}{F:Fm}{X:XM}{c:Cx}{n:Nat}{ρ:List Addr}{m:MS}{s:Shared}{A:Around}{E:Value→Shared→Prop}
theorem store_ok (G:GOk C) (cx:CxOk C c F n) (R:Rel C F ρ m s) {k i:Nat}{x:List Nat}{y:Str}{v:Value}{u:MV}{uv:Value}(hx:Rep C ρ s.heap (.inst k i) v) (hu:Rep C ρ s.heap u uv) {es:List (List Nat × MV)}(hi:m.heap[i]?=some (.attrs es)) (hl:es.length<1000) (hy:y=str x) (hno:attrNames.contains y=true) (ha:c.at_ k y=true) {P:Unit→Shared→Prop}
  (h:∀s',Step F.W ρ s ρ s'→Rel C F ρ (m.put i (.attrs (dset es x u))) s'→P () s'):wpAny (mod C) A (setAttr v y uv) P E s:=by
 obtain ⟨a,K,N,da,mA,rfl,hc,hN,hao,hρ,hns,I,had,haK,h1,h2⟩:=inst_rep G R hx hi
 obtain ⟨q1,q2,q3⟩:=G.quiet _ _ hc
 obtain ⟨nm,q,bs,sn,sub,col,dd,k0,k1,k2,k3,k5,e⟩:=cls_o hN
 obtain ⟨hp,gg,dr,t,os⟩:=s
 subst hy
 refine store_attr (ns:=es.map fun p=>str p.1) PySem.F.store_object e hN.ns q1 (cx.attr _ _ ha) (obj_attr hno) haK I (fun h' tk' I' hk hx'=>?_) (fun z hz=>?_) (by rw [List.length_map,sizeLine_eq];exact n1 hl (by simp +arith only))
 ·obtain ⟨o₁,e1,e2,e3,e4,e5⟩:=hx' _ hao
  have e6:=e5 da rfl
  obtain ⟨o₂,g1,g2,g3,g4⟩:=I'
  obtain rfl:=same e1 g1
  have hns':h'.Ns1 da (fun y=>if y=str x then some uv else mA y):=by
   rcases g4 with ⟨g4,_⟩ | ⟨d',g4,_,g5⟩
   ·exact nosome g4 e6
   ·obtain rfl:=same e6 g4;exact g5
  have ho:o₁=instO K da:=by
   obtain ⟨c1,d1,t1,s1⟩:=o₁
   simp only at e2 e3 e4 e6
   subst e2;subst e3;subst e4;subst e6;rfl
  subst ho
  have hkk:∀b ob,b≠da→hp.get? b=some ob→h'.get? b=some ob:=fun b ob hb eb=>by
   by_cases hba:b=a
   ·subst hba;obtain rfl:=same hao eb;exact e1
   ·exact hk b ob hba (fun o₀ dx q1 q2=>by obtain rfl:=same hao q1;obtain rfl:=Option.some.inj q2;exact hb) eb
  have hsol:Solids hp h':=solids_but hkk (repO_not_solid (R.hp.objs _ _ _ hi hρ))
  obtain ⟨R',st⟩:=R.put (s':=⟨h',gg,dr,tk',os⟩) cx.fm hρ hi (o:=.attrs (dset es x u)) hkk rfl rfl
   (show RepAs _ _ _ _ _ from ⟨_,hns',fun z w e=>by
    rw [dget_dset_is] at e
    by_cases ez:z=x
    ·subst ez
     obtain rfl:=Option.some.inj ((if_pos rfl).symm.trans e)
     exact ⟨uv,if_pos rfl,hu.up hsol (List.prefix_refl _)⟩
    ·rw [if_neg ez] at e
     obtain ⟨w',hw,rw'⟩:=h1 z w e
     exact ⟨w',by rw [if_neg fun q=>ez (str_inj q)];exact hw,rw'.up hsol (List.prefix_refl _)⟩,fun z e=>by
    rw [dget_dset_is] at e
    by_cases ez:z=x
    ·subst ez;exact nos2 ((if_pos rfl).symm.trans e)
    ·rw [if_neg ez] at e
     rw [if_neg fun q=>ez (str_inj q)];exact h2 z e,Nat.le_trans (dset_len es x u) hl⟩)
  exact h _ st R'
 ·have ez:z=str z.cps.toList:=by obtain ⟨⟨l⟩⟩:=z;rfl
  rw [ez]
  refine List.mem_map.mpr ?_
  have hk:z.cps.toList∈es.map (·.1):=dget_key fun q=>hz (by rw [ez];exact h2 _ q)
  obtain ⟨p,hp,e⟩:=List.mem_map.mp hk
  exact ⟨p,hp,congrArg str e⟩
theorem ss_setAttr (G:GOk C) (cx:CxOk C c F n) {k:Nat}{o e:ME}{x:List Nat}:SS C X n c F (.setAttr k o x e):=by
 intro st hc Q m h
 obtain ⟨hv,hc⟩:=and_t hc
 obtain ⟨tg,h1,hc⟩:=onSome_true hc
 rw [isTag_eq hv rfl,one_eq h1]
 clear hv h1
 generalize (viewS st).e2=v at *
 generalize (viewS st).p=pos at *
 obtain ⟨hc,ho⟩:=and_t hc
 obtain ⟨hc,he⟩:=and_t hc
 obtain ⟨hox,hcomp⟩:=and_t hc
 obtain ⟨⟨ov,name,p⟩,hx,ho⟩:=onSome_true ho
 obtain rfl:=xAttr_eq hx
 obtain ⟨hc,ho⟩:=and_t ho
 obtain ⟨hc,hat⟩:=and_t hc
 obtain ⟨hn,hno⟩:=and_t hc
 intro s ρ R
 refine plainObj_wpAny_Assign_Attribute ((soundE G cx e v he _ m h).go R (.refl _ _ _) fun ρ₁ s₁ m₁ u uv st t1 R₁ ru h₁=>?_) (swaps_no (not_t hcomp) hox _ _ _)
 refine (soundE G cx o ov ho _ m₁ h₁).go R₁ t1 fun ρ₂ s₂ m₂ y yv st2 t2 R₂ ry h₂=>?_
 obtain ⟨i,rfl,h3⟩:=onIn_inv h₂
 obtain ⟨es,hi,hl,hq⟩:=onAs_inv h3
 exact store_ok G cx R₂ ry (ru.step st2) hi hl (str_of hn) hno hat fun s' st3 R'=>⟨_,_,.next,t2.trans st3,R',.next,hq⟩
end
end Internal
end
section
namespace Internal
open PySem PyProof.Rows
theorem or_x {b:Bool}(h:(!useX||b)=true):b=true:=h
section
variable {C:Glo}{F:Fm}{X:XM}{c:Cx}{n:Nat}{ρ:List Addr}{m:MS}{s:Shared}{A:Around}{E:Value→Shared→Prop}
theorem isStrC_is {k:Const}(h:isStrC k=true):∃x,k=.str x:=by
 cases k<;>first | exact ⟨_,rfl⟩ | exact ff h
theorem ss_raise (G:GOk C) (cx:CxOk C c F n) {k:Nat}:SS C X n c F (.raise k):=by
 intro st hc Q m h
 replace hc:=or_x hc
 replace h:=h.2
 obtain ⟨hv,hc⟩:=and_t hc
 obtain ⟨hc,hc2⟩:=and_t hc
 obtain ⟨hno,hnh⟩:=and_t hc
 obtain ⟨tg,htg,hc2⟩:=onSome_true hc2
 rw [isTag_eq hv rfl,htg,Option.isNone_iff_eq_none.mp hno]
 clear hv htg hno
 generalize (viewS st).p=pos at *
 obtain ⟨⟨x,ys,cpos⟩,hx,hc3⟩:=onSome_true hc2
 obtain ⟨px,rfl⟩:=xFn_eq hx
 obtain ⟨hc4,hy⟩:=and_t hc3
 obtain ⟨hg,hxn⟩:=and_t hc4
 obtain ⟨y,h1,hy2⟩:=onSome_true hy
 obtain rfl:=one_eq h1
 obtain ⟨kk,h2,hy2⟩:=onSome_true hy2
 obtain ⟨j,yp,rfl⟩:=xConst_eq h2
 obtain ⟨tx,rfl⟩:=isStrC_is hy2
 intro s ρ R
 obtain ⟨mg,mb,g1,g2,_,_,_,_,g3⟩:=cx.glob
 obtain ⟨K,hK,_⟩:=g3 k x (eq_of_beq hxn)
 obtain ⟨_,_,bm,hcl,_⟩:=G.x.exc k K hK
 have hcl':∀{h:Heap},C.base.StaysIn h→XCl h K bm:=fun hs=>hcl.keeps fun b o e=>hs b o e
 obtain ⟨N,nm,q,bs,hdct,sn,sub,ab,col,dd,k0,k1,k2,k3,k5,mN,hC,hN,hni⟩:=hcl.1
 refine wpAny_Raise_call_subU (C:=K) (nm:=nm) (q:=q) (N:=N) (bs:=bs) (bm:=bm) (hdct:=hdct) (sn:=sn) (sub:=sub) (ab:=ab) (col:=col) (dd:=dd) (k0:=k0) (k1:=k1) (k2:=k2) (k3:=k3) (k5:=k5) (bmB:=vErr) (mN:=mN) PySem.F.excBase_ValueError (by decide +kernel) PySem.F.excBase_ValueError
  (hcl.tail.hasType (X:="BaseException") (b:=true) (by decide +kernel)) (cx.hn hnh) rfl (hni _ (.head _)) ?_
 refine load_exc cx R (eq_of_beq hxn) (glName_ok hg).1 (glName_ok hg).2 fun K' hK'=>?_
 obtain rfl:=same hK hK'
 refine ⟨rfl,Calls.evalArgs_plain (Calls.spliced_cons (wpAny_Constant_str (k:=j) (pos:=yp) (Calls.spliced_nil ?_)))⟩
 obtain ⟨R₁,st₁⟩:=R.tok cx.fm (s.toks+1)
 refine ⟨rfl,(by rw [sizeLine_eq];exact (by decide:1≤16777216)),R₁.hp.base _ _ hC,hN.keeps fun b o e=>R₁.hp.base b o e,(hcl' R₁.hp.base).tail,fun h' e hm=>?_⟩
 obtain ⟨R₂,st₂⟩:=R₁.grow (s':={ s with heap:=h',toks:=s.toks+1 }) cx.fm hm.keeps rfl rfl
 obtain ⟨tt,ht,_⟩:=hm.there
 refine ⟨ρ,m,k,e,K,st₁.trans st₂,R₂,rfl,hK,.new hm.new (fun q=>?_) _ _ ht rfl rfl rfl,h⟩
 obtain ⟨o,ho⟩:=R.hp.there q
 exact nosome hm.new ho
end
end Internal
end
section
namespace Internal
open PySem PyProof.Rows
section
variable {prog:Program}{w:World}{A:Around}{E:Value→Shared→Prop}{s:Shared}{env:Env}
theorem x_matches {M:Model}{h:Heap}{g:Array GenState}{d:Drawn}{t:Nat}{os:OsState}{e K D:Addr}{oe:Obj}{bm bmD:List Value}{Q:Bool→Shared→Prop}(x:XCl h K bm) (y:XCl h D bmD) (he:h.get? e=some oe) (hcls:oe.cls=.ref K)
  (hb:(Value.ref K::bm).contains (.ref D)=true) (hq:Q true ⟨h,g,d,t,os⟩):wpAny M A (excMatches (.ref e) (.ref D)) Q E ⟨h,g,d,t,os⟩:=by
 obtain ⟨N,nm,q,bs,hdct,sn,sub,ab,col,dd,k0,k1,k2,k3,k5,mN,hC,hN,_⟩:=x.1
 obtain ⟨N',nm',q',bs',hdct',sn',sub',ab',col',dd',l0,l1,l2,l3,l5,mN',hD,hN',r'⟩:=y.1
 have hcB:(Value.ref D::bmD).contains (.type "BaseException")=true:=y.has "BaseException" (by decide +kernel)
 have f:=tc_notTuple
 unfold excMatches
 repeat (first | (with_reducible refine wpAny_loadPart_at he ?_;rw [hcls]) | with_reducible refine wpAny_loadPart_at hD ?_ | (with_reducible refine wpAny_isSubtype_exc hD ?_;rw [hcB]) | (with_reducible refine wpAny_isSubtype_exc hC ?_;rw [hb]) | wp_step)
 exact hq
theorem name_goes {M:Model}{n:Str}{pos:Pos}{m:Str→Option Value}{Q:Unit→Shared→Prop}(hl:env.kindOf n=some .local) (hn:s.heap.Ns env.locals m)
  (hp:(env.scope.kind==.class||(env.scope.kind==.module&&env.locals != env.globals))=false)
  (h:∀h' v,h'.Ns env.locals (fun x=>if x=n then v else m x)→Heap.SameBut env.locals s.heap h'→Q () { s with heap:=h',toks:=s.toks+1 }) :
  wpAny M A (do bindName env n .none;unbindBehindTheSuite env n pos) Q E s:=by
 refine wpAny_bind (wpAny_bindName (wpAny_storeName_local hl hn (fun h₁ hn₁ hs₁=>?_) hp))
 unfold unbindBehindTheSuite
 refine wpAny_onRaise ?_
 unfold unbindName
 refine wpAny_bind (wpAny_point (wpAny_bind ?_))
 unfold deleteName
 simp only [hl,hp]
 rw [if_neg (by decide)]
 refine wpAny_bind (wpAny_nsDel_keeps hn₁ fun h₂ v hn₂ hs₂=>?_)
 simp only [if_true,Option.isSome_some,Bool.not_true,Bool.false_eq_true,if_false]
 refine wpAny_pure (wpAny_point (h h₂ v ?_ (hs₁.trans hs₂)))
 have:(fun x=>if x=n then v else m x)=fun x=>if x=n then v else if x=n then some Value.none else m x:=by
  funext x;by_cases e:x=n<;>simp [e]
 rw [this];exact hn₂
end
section
variable {C:Glo}{F:Fm}{X:XM}{c:Cx}{n:Nat}{ρ ρ₀:List Addr}{m:MS}{s s₀:Shared}{A:Around}{E:Value→Shared→Prop}
theorem MS.get_unset (m:MS) (i j:Nat) (w:MV) (h:(m.unset i).get j=some w):j≠i∧m.get j=some w:=by
 have h:(m.vars.set i none)[j]?=some (some w):=MS.get_at h
 by_cases e:i=j
 ·subst e
  have hlt:i<m.vars.length:=by
   have:=(List.getElem?_eq_some_iff.mp h).1
   rw [List.length_set] at this;exact this
  rw [List.getElem?_set_self hlt] at h
  exact nos1 (Option.some.inj h)
 ·rw [List.getElem?_set_ne e] at h
  exact ⟨fun q=>e q.symm,MS.get_of h⟩
theorem Rel.unsetName (x:Rel C F ρ m s) {s':Shared}(ok:FmOk F) {i:Nat}{n:Str}(hi:F.lay i=some (.nm F.env.locals n)) {f:Str→Option Value}{v:Option Value}(hf:s.heap.Ns F.env.locals f)
  (hn:s'.heap.Ns F.env.locals (fun y=>if y=n then v else f y)) (hsb:Heap.SameBut F.env.locals s.heap s'.heap) (hg:s'.gens=s.gens) (hos:s'.os=s.os):Rel C F ρ (m.unset i) s'∧Step F.W ρ s ρ s':=by
 refine x.own ok ok.loc hsb hg hos rfl ?_ (fun _ _ _=>?_) ⟨_,hn⟩ (fun v hc=>?_) fun hs j u e=>?_
 ·obtain ⟨o,es,ep,ho,hd⟩:=ns_obj hn
  exact ⟨o,ho,.inl ⟨es,ep,hd⟩⟩
 ·obtain ⟨o,es,ep,ho,hd⟩:=ns_obj hn
  exact ⟨o,ho,es,ep,hd⟩
 ·exact ns_no_cell hf hc
 ·obtain ⟨hj,e⟩:=MS.get_unset _ _ _ _ e
  obtain ⟨l,h1,h2⟩:=x.vars j u e
  refine ⟨l,h1,?_⟩
  cases l with
  | nm L y=>
   obtain ⟨g,w,k1,k2,k3⟩:=h2
   by_cases q:L=F.env.locals
   ·subst q
    obtain rfl:=ns_unique k1 hf
    have hy:y≠n:=fun q=>by subst q;exact hj (ok.inj j i _ h1 hi)
    exact ⟨_,w,hn,by rw [if_neg hy];exact k2,k3.up hs (List.prefix_refl _)⟩
   ·exact ⟨g,w,ns_data k1 fun o e=>⟨o,(hsb.2 L q).trans e,rfl⟩,k2,k3.up hs (List.prefix_refl _)⟩
  | cl a=>
   obtain ⟨w,k1,k2⟩:=h2
   refine ⟨w,cell_data k1 fun o e=>⟨o,(hsb.2 a fun q=>?_).trans e,rfl⟩,k2.up hs (List.prefix_refl _)⟩
   subst q
   exact ns_no_cell hf k1
theorem Rel.adopt (R:Rel C F ρ m s) (st:Step F.W ρ₀ s₀ ρ s) (hb:C.base.StaysIn s₀.heap) {a:Addr}{o:Obj}{vs:Array Value}(ha:s₀.heap.get? a=none∧a∉ρ) (ho:s.heap.get? a=some o) (hd:o.data=.fields vs) {mo:MO}(hr:RepO C (ρ++[a]) s.heap mo a) :
  Rel C F (ρ++[a]) (m.push mo) s∧Step F.W ρ₀ s₀ (ρ++[a]) s:=by
 have hba:C.base.get? a=none:=by
  cases e:C.base.get? a with
  | none=>rfl
  | some o=>exact nosome ha.1 (hb a o e)
 have hne:∀b ob,s.heap.get? b=some ob→(∀vs,ob.data≠.fields vs)→b∉ρ→b∉ρ++[a]:=fun b ob e h1 h2 h3=>by
  rcases List.mem_append.mp h3 with q | q
  ·exact h2 q
  ·have:b=a:=by exact List.mem_singleton.mp q
   subst this
   obtain rfl:=same ho e;exact h1 _ hd
 refine ⟨⟨R.hp.alloc (fun _ _ e _=>e) (fun _ _ _ e=>e) R.hp.base ha.2 hba hr,R.ns,fun b hb=>?_,fun i v e=>?_,R.cells,fun L hL=>?_,R.gens⟩,st.pre.trans (List.prefix_append _ _),fun b hb=>?_,st.keep,st.solid,st.alive,st.gens,st.os⟩
 ·obtain ⟨h1,h2,ob,h3,h4⟩:=R.w b hb
  refine ⟨hne b ob h3 (fun vs q=>?_) h1,h2,ob,h3,h4⟩
  rcases h4 with ⟨es,k,d⟩ | ⟨v,d⟩<;>exact nomatch d.symm.trans q
 ·obtain ⟨l,h1,h2⟩:=R.vars i v e
  exact ⟨l,h1,h2.up (fun _ _ e _=>e) (List.prefix_append _ _) fun o e=>⟨o,e,rfl,rfl⟩⟩
 ·obtain ⟨h1,h2,ob,h3,es,k,h4⟩:=R.out L hL
  exact ⟨hne L ob h3 (fun vs q=>nomatch h4.symm.trans q) h1,h2,ob,h3,es,k,h4⟩
 ·rcases List.mem_append.mp hb with q | q
  ·exact st.new b q
  ·have:b=a:=by exact List.mem_singleton.mp q
   subst this;exact .inr ha.1
noncomputable abbrev marked (F:Fm) (e:Value):Fm:={ F with A:=F.A.mark (some e) }
theorem marked_cx (cx:CxOk C c F n) (e:Value):CxOk C (inH c) (marked F e) n where
 fm:=⟨cx.fm.loc,cx.fm.lay,cx.fm.inj,cx.fm.kind,cx.fm.frs⟩
 kind:=cx.kind
 nm:=cx.nm
 glob:=cx.glob
 meth:=cx.meth
 attr:=cx.attr
 hn:=fun h=>ff h
 hf:=cx.hf
 units:=cx.units
 room:=cx.room
 inter:=cx.inter
 wr:=cx.wr
 fr:=cx.fr
theorem marked_rel {e:Value}:Rel C F ρ m s→Rel C (marked F e) ρ m s:=fun ⟨a,b,c,d,e,f,g⟩=>⟨a,b,c,d,e,f,g⟩
theorem unmark_rel {e:Value}:Rel C (marked F e) ρ m s→Rel C F ρ m s:=fun ⟨a,b,c,d,e,f,g⟩=>⟨a,b,c,d,e,f,g⟩
theorem ss_try (G:GOk C) (cx:CxOk C c F n) (fo:FrOn F) {body h:List MSt}{k v:Nat}(ib:∀X',SSs C X' n c F body) (ih:∀F',CxOk C (inH c) F' n→FrOn F'→SSs C noX n (inH c) F' h):SS C X n c F (.try_ body k v h):=by
 intro st hc Q m hw
 replace hc:=or_x hc
 replace hw:=hw.2
 obtain ⟨hv,hc⟩:=and_t hc
 obtain ⟨hc2,hc⟩:=and_t hc
 obtain ⟨e2,e3⟩:=and_t hc2
 obtain ⟨hh,e4,hc⟩:=onSome_true hc
 obtain ⟨tg,e5,hc⟩:=onSome_true hc
 obtain ⟨nm,e6,hc⟩:=onSome_true hc
 rw [isTag_eq hv rfl,List.isEmpty_iff.mp e2,List.isEmpty_iff.mp e3,one_eq e4,exh_eq hh,e5,e6]
 clear hv hc2 e2 e3 e4 e5 e6
 generalize (viewS st).p=pos at *
 generalize (exh hh).2.2.2=hpos at *
 generalize (viewS st).b1=b1 at *
 generalize (exh hh).2.2.1=b2 at *
 obtain ⟨hc,hch⟩:=and_t hc
 obtain ⟨hc,hcb⟩:=and_t hc
 obtain ⟨hc,hty⟩:=and_t hc
 obtain ⟨hc,hne⟩:=and_t hc
 obtain ⟨hc,hkd⟩:=and_t hc
 obtain ⟨hk,hnm⟩:=and_t hc
 have hk:=eq_of_beq hk
 have hkd:=eq_of_beq hkd
 have hnm:=eq_of_beq hnm
 subst hk
 obtain ⟨x,hx,hty⟩:=onSome_true hty
 obtain ⟨px,rfl⟩:=xName_eq hx
 obtain ⟨hg,hxn⟩:=and_t hty
 have hlay:F.lay v=some (.nm F.env.locals nm):=by
  rcases cx.nm v nm hnm with ⟨_,q⟩ | ⟨_,q,_⟩
  ·exact q
  ·rw [cx.kind nm,hkd] at q
   rcases q with q | ⟨q,_⟩<;>exact absurd q (by decide)
 cases b2 with
 | nil=>exact ff hne
 | cons b₀ b2=>
 intro s ρ R
 have hbs:=R.hp.base
 refine wpAny_Try_except (wpAny_mono (ib _ _ hcb _ m hw s ρ R) (fun f s₁ ⟨ρ₁,m₁,fl,st₁,R₁,hfl,h₁⟩=>?_) fun e s₁ he=>?_)
 ·cases fl with
  | next=>obtain rfl:=hfl.inv;exact wpAny_execs_nil ⟨_,_,.next,st₁,R₁,.next,h₁⟩
  | brk=>obtain rfl:=hfl.inv;exact ⟨_,_,.brk,st₁,R₁,.brk,h₁⟩
  | cont=>obtain rfl:=hfl.inv;exact ⟨_,_,.cont,st₁,R₁,.cont,h₁⟩
  | ret r=>obtain ⟨v,rfl,rv⟩:=hfl.inv;exact ⟨_,_,.ret _,st₁,R₁,.ret rv,h₁⟩
 ·refine er_note cx.fm fo rfl hbs he fun s₂ h₂=>er_flight cx.fm hbs h₂ fun s₃ h₃=>?_
  have h3:=h₃
  obtain ⟨ρ₃,m₃,kk,a,K,st₃,R₃,rfl,hK,hF,hX⟩:=h3
  refine wpAny_handleBy_cons (codeAny_handlers_test (load_exc cx R₃ (eq_of_beq hxn) (glName_ok hg).1 (glName_ok hg).2 fun K0 hK0=>?_)) (by intro q;cases q)
  obtain ⟨bm,hxc,hhas⟩:=exc_has G hK hK0
  obtain ⟨_,_,bm0,hy0,_⟩:=G.x.exc _ _ hK0
  have hkeep:∀b o,C.base.get? b=some o→s₃.heap.get? b=some o:=fun b o e=>R₃.hp.base b o e
  obtain ⟨_,_,oe,vs,g1,g2,g3,_⟩:=hF
  have hmt:∀{Q:Bool→Shared→Prop} {E:Value→Shared→Prop} {A:Around},Q true s₃→wpAny (mod C) A (excMatches (.ref a) (.ref K0)) Q E s₃:=fun {Q E A} hq=>by
   obtain ⟨hp,gg,dr,t,os⟩:=s₃
   exact x_matches (hxc.keeps hkeep) (hy0.keeps hkeep) g1 g2 (by rw [hhas];simp) hq
  refine hmt ?_
  refine codeAny_handlers_suite_as ?_
  refine er_flight (X:=fun c m=>wpSs (Call C) n h (fun f m=>Q f (m.unset v)) noX ((m.push (.exc c)).set v (.ref m.heap.length))) cx.fm hbs h₃ fun s₄ h₄=>?_
  obtain ⟨ρ₄,m₄,k4,a4,K4,st₄,R₄,ea,hK4,⟨f1,f2,oe4,vs4,f3,f4,f5,_⟩,hX4⟩:=h₄
  cases ea
  obtain ⟨R₅,st₅⟩:=R₄.adopt st₄ hbs ⟨f1,f2⟩ f3 f5 (mo:=.exc k4) ⟨K4,oe4,vs4,hK4,f3,f4,f5⟩
  have hrep:Rep C (ρ₄++[a]) s₄.heap (.ref m₄.heap.length) (.ref a):=.ref (by rw [←R₄.hp.len,List.getElem?_append_right (Nat.le_refl _)];simp)
  have cx':=marked_cx cx (.ref a)
  refine store_var cx (A:=F.A.mark (some (.ref a))) R₅ hnm (.inl hkd) hrep fun s₆ st₆ R₆=>?_
  have hsu:=ih (marked F (.ref a)) cx' ⟨fo.1,fo.2⟩ (b₀::b2) hch (fun f m=>Q f (m.unset v)) _ hX4 s₆ _ (marked_rel R₆)
  refine wpAny_mono hsu (fun f s₇ ⟨ρ₇,m₇,fl,st₇,R₇,hfl,h₇⟩=>?_) fun _ _ x=>x.no
  have R₇':=unmark_rel R₇
  obtain ⟨ff,hff⟩:=R₇'.ns
  refine name_goes (by rw [cx.kind];exact hkd) hff (by rw [cx.fm.kind];rfl) fun h' vv hn' hsb=>?_
  obtain ⟨R₈,st₈⟩:=R₇'.unsetName (s':={ s₇ with heap:=h',toks:=s₇.toks+1 }) cx.fm hlay hff hn' hsb rfl rfl
  have hfl':FlR C ρ₇ h' fl f:=FlR.casesOn (motive:=fun fl f _=>FlR C ρ₇ h' fl f) hfl .next .brk .cont (fun r=>.ret (r.step st₈))
  exact ⟨ρ₇,_,fl,((st₅.trans st₆).trans st₇).trans st₈,R₈,hfl',h₇⟩
end
end Internal
end
section
namespace Internal
open PySem PyProof.Rows
section
variable {C:Glo}{n:Nat}
mutual
theorem soundS (G:GOk C):∀(me:MSt) (X:XM) (c:Cx) (F:Fm),CxOk C c F n→FrOn F→SS C X n c F me
 | .asg t many e,X,c,F,cx,fo=>ss_asg G cx
 | .setAttr k o x e,X,c,F,cx,fo=>ss_setAttr G cx
 | .setIdx o i e,X,c,F,cx,fo=>ss_setIdx G cx
 | .expr e,X,c,F,cx,fo=>ss_expr G cx
 | .ite d a b,X,c,F,cx,fo=>ss_ite G cx (soundSs G a X c F cx fo) (soundSs G b X c F cx fo)
 | .for_ t many k src body,X,c,F,cx,fo=>ss_for G cx fo (soundSs G body X c F cx fo)
 | .while_ d body,X,c,F,cx,fo=>ss_while G cx fo (soundSs G body X c F cx fo)
 | .ret e,X,c,F,cx,fo=>ss_ret G cx
 | .cont,X,c,F,cx,fo=>ss_cont
 | .raise k,X,c,F,cx,fo=>ss_raise G cx
 | .try_ body k v h,X,c,F,cx,fo=>ss_try G cx fo (fun X'=>soundSs G body X' c F cx fo) fun F' cx' fo'=>soundSs G h noX _ F' cx' fo'
theorem soundSs (G:GOk C):∀(ss:List MSt) (X:XM) (c:Cx) (F:Fm),CxOk C c F n→FrOn F→SSs C X n c F ss
 | [],X,c,F,cx,fo=>sss_nil
 | x::ss,X,c,F,cx,fo=>sss_cons (soundS G x X c F cx fo) (soundSs G ss X c F cx fo)
end
end
end Internal
end
section
namespace Internal
open PySem PyProof.Rows
set_option genCtorIdx false in
structure Sg where
 fn:Nat→Option Str
 gl:Nat→Option (Str × MV)
 hf:Nat→Bool
 cn:Nat→Option Str
 xn:Nat→Option Str
 mt:Nat→Option (Nat × Str)
 at_:Nat→Str→Bool
noncomputable def mkCx (sc:Scope) (ns:List Str) (z:Sg) (nh:Bool):Cx:=⟨fun x=>sc.names.lookup x,fun i=>ns[i]?,z.fn,z.gl,true,fun i=>decide (ns.length≤i),nh,z.hf,z.cn,z.xn,z.mt,z.at_⟩
noncomputable def Globs (C:Glo) (g b:Addr) (z:Sg):Prop:=GlobsR C g b z.fn z.gl z.cn z.xn
structure SgOk (C:Glo) (z:Sg):Prop where
 meth:∀f k x,z.mt f=some (k,x)→∃a,C.fa f=some a∧C.cm k x=some (.ref a)∧∃o,C.base.get? a=some o∧o.cls=.type "function"
 attr:∀k x,z.at_ k x=true→C.cm k x=none
 hf:z.hf=C.hf
noncomputable def namesOk (sc:Scope) (ps ns:List Str):Bool:=
 ps.isPrefixOf ns&&decide ns.Nodup&&ns.all (fun x=>sc.names.lookup x==some .local||(sc.names.lookup x==some .cell&&((cellsFrom 0 sc.names []).lookup x).isSome))
theorem names_of_ok {sc:Scope}{ps ns:List Str}(h:namesOk sc ps ns=true):ps<+:ns∧ns.Nodup∧∀x∈ns,sc.names.lookup x=some .local∨(sc.names.lookup x=some .cell∧((cellsFrom 0 sc.names []).lookup x).isSome=true):=by
 obtain ⟨h,h3⟩:=and_t h
 obtain ⟨h1,h2⟩:=and_t h
 refine ⟨List.isPrefixOf_iff_prefix.mp h1,of_decide_eq_true h2,fun x hx=>?_⟩
 rcases Bool.or_eq_true_iff.mp (List.all_eq_true.mp h3 x hx) with q | q
 ·exact .inl (eq_of_beq q)
 ·exact .inr ⟨eq_of_beq (and_t q).1,(and_t q).2⟩
inductive FnIs (C:Glo) (z:Sg) (nh:Bool) (d:Fn) (a:Addr):Prop
 | mk (o:Obj) (fd:FuncData) (body:List Stmt) (ps ns:List Str) (ho:C.base.get? a=some o) (hd:o.data=.func fd) (hcd:C.base.CodeRec fd.code fd.qualname) (hbody:fd.body=.stmts body) (hclo:fd.closure=[]) (hco:fd.scope.isCoroutine=false) (hgen:fd.scope.isGenerator=false)
   (hk:fd.scope.kind=.function) (hbind:∀vals:List Value,vals.length=ps.length→bindArgs fd ⟨vals,[]⟩=pure (ps.zip vals)) (hps:ps.length=d.args) (hns:namesOk fd.scope ps ns=true) (hchk:chkSs (mkCx fd.scope ns z nh) d.body body=true) (hgl:Globs C fd.globals fd.builtins z)
noncomputable def FnsOk (C:Glo) (z:Sg) (P:Nat→Option Fn):Prop:=SgOk C z∧∀f d a,P f=some d→C.fa f=some a→FnIs C z (!C.hf f) d a
theorem cellsFrom_some:∀(names:List (Str × NameKind)) (n k:Nat) (acc acc':List (Str × Addr)) (x:Str),(∀y,(acc.lookup y).isSome=(acc'.lookup y).isSome)→((cellsFrom n names acc).lookup x).isSome=((cellsFrom k names acc').lookup x).isSome
 | [],n,k,acc,acc',x,h=>h x
 | (y,kd)::r,n,k,acc,acc',x,h=>by
  unfold cellsFrom
  split
  ·refine cellsFrom_some r _ _ _ _ x fun z=>?_
   simp only [List.lookup_cons]
   split
   ·rfl
   ·exact h z
  ·exact cellsFrom_some r _ _ _ _ x h
section
variable {C:Glo}{ρ:List Addr}{h:Heap}
theorem zip_get {ps:List Str}{ws:List Value}(hl:ws.length=ps.length) {i:Nat}{x:Str}{w:Value}(e1:ps[i]?=some x) (e2:ws[i]?=some w):(ps.zip ws)[i]?=some (x,w):=by
 rw [List.getElem?_zip_eq_some];exact ⟨e1,e2⟩
theorem bindL_other (k:Str→Option NameKind):∀(l:List (Str × Value)) (m:Str→Option Value) (x:Str),(∀p∈l,p.1≠x)→bindL k l m x=m x
 | [],m,x,_=>rfl
 | (n,v)::r,m,x,h=>by
  unfold bindL
  rw [bindL_other k r _ x fun p hp=>h p (List.mem_cons_of_mem _ hp)]
  have:n≠x:=h _ (List.mem_cons_self ..)
  split
  ·exact if_neg fun q:x=n=>this q.symm
  ·rfl
theorem bindC_other (k:Str→Option NameKind):∀(l:List (Str × Value)) (m:Str→Option Value) (x:Str),(∀p∈l,p.1≠x)→bindC k l m x=m x
 | [],m,x,_=>rfl
 | (n,v)::r,m,x,h=>by
  unfold bindC
  rw [bindC_other k r _ x fun p hp=>h p (List.mem_cons_of_mem _ hp)]
  have:n≠x:=h _ (List.mem_cons_self ..)
  split
  ·rfl
  ·exact if_neg fun q:x=n=>this q.symm
theorem bindL_get (k:Str→Option NameKind) (l:List (Str × Value)) (m:Str→Option Value) (x:Str) (w:Value) (hn:(l.map (·.1)).Nodup) (hm:(x,w)∈l) (hk:k x=some .local):bindL k l m x=some w:=by
 induction l generalizing m with
 | nil=>exact nomem hm
 | cons p r ih=>
  obtain ⟨h1,h2⟩:=List.nodup_cons.mp hn
  unfold bindL
  rcases List.mem_cons.mp hm with e | hm
  ·subst e
   rw [bindL_other k r _ _ fun p hp q=>h1 (List.mem_map.mpr ⟨p,hp,q⟩),if_pos hk];exact if_pos rfl
  ·exact ih _ h2 hm
theorem bindC_get (k:Str→Option NameKind) (l:List (Str × Value)) (m:Str→Option Value) (x:Str) (w:Value) (hn:(l.map (·.1)).Nodup) (hm:(x,w)∈l) (hk:k x≠some .local):bindC k l m x=some w:=by
 induction l generalizing m with
 | nil=>exact nomem hm
 | cons p r ih=>
  obtain ⟨n,v⟩:=p
  simp only [List.map_cons,List.nodup_cons] at hn
  unfold bindC
  rcases List.mem_cons.mp hm with e | hm
  ·cases e
   rw [bindC_other k r _ _ fun p hp q=>hn.1 (List.mem_map.mpr ⟨p,hp,q⟩),if_neg hk];simp
  ·exact ih _ hn.2 hm
theorem start_get {d:Fn}{vs:List MV}{hp:List MO}{i:Nat}{v:MV}(e:(start d vs hp).get i=some v):vs[i]?=some v:=by
 have hw:(vs.map some++List.replicate _ none)[i]?=some (some v):=MS.get_at e
 rcases Nat.lt_or_ge i (vs.map some).length with hi | hi
 ·rw [List.getElem?_append_left hi,List.getElem?_map] at hw
  obtain ⟨u,h1,h2⟩:=Option.map_eq_some_iff.mp hw
  exact h1.trans h2
 ·rw [List.getElem?_append_right hi] at hw
  exact nos1 (List.eq_of_mem_replicate (List.mem_of_getElem? hw)).symm
noncomputable def inFm (A:Around) (env:Env) (ns:List Str) (frs:List Addr):Fm where
 env:=env
 A:=A.deeper env
 W:=env.locals::ns.filterMap (fun x=>if env.kindOf x=some .local then none else env.cells.lookup x)
 V:=[]
 lay:=fun i=>match ns[i]? with
  | some x=>if env.kindOf x=some .local then some (.nm env.locals x) else match env.cells.lookup x with
   | some c=>some (.cl c)
   | none=>none
  | none=>none
 frs:=env.locals::frs
theorem lay_inv {A:Around}{env:Env}{ns:List Str}{frs:List Addr}{i:Nat}{l:Loc}(e:(inFm A env ns frs).lay i=some l):∃x,ns[i]?=some x∧((env.kindOf x=some .local∧l=.nm env.locals x)∨(env.kindOf x≠some .local∧∃c,env.cells.lookup x=some c∧l=.cl c)):=by
 replace e:(match ns[i]? with
  | some x=>if env.kindOf x=some .local then some (.nm env.locals x) else match env.cells.lookup x with
   | some c=>some (.cl c)
   | none=>none
  | none=>none)=some l:=e
 cases hx:ns[i]? with
 | none=>rw [hx] at e;exact nos1 e
 | some x=>
  rw [hx] at e
  refine ⟨x,rfl,?_⟩
  by_cases q:env.kindOf x=some .local
  ·exact .inl ⟨q,(Option.some.inj ((if_pos q).symm.trans e)).symm⟩
  ·replace e:=(if_neg q).symm.trans e
   cases hc:env.cells.lookup x with
   | none=>rw [hc] at e;exact nos1 e
   | some c=>rw [hc] at e;exact .inr ⟨q,c,rfl,(Option.some.inj e).symm⟩
inductive OutC (C:Glo) (Q:MV→List MO→Prop) (ρ:List Addr) (s:Shared) (v:Value) (s':Shared):Prop
 | mk (ρ':List Addr) (hp':List MO) (x:MV) (st:Step [] ρ s ρ' s') (H:Hp C ρ' hp' s'.heap) (rx:Rep C ρ' s'.heap x v) (hq:Q x hp'):OutC C Q ρ s v s'
theorem call_core (G:GOk C) {z:Sg}{P:Nat→Option Fn}(H:FnsOk C z P) {n f:Nat}{vs:List MV}{Q:MV→List MO→Prop}{X:XT}{hp:List MO}{d:Fn}(hP:P f=some d) (hlen:vs.length=d.args)
  (hw:wpSs (Call C) n d.body (fin Q) (fun c m=>X c m.heap) (start d vs hp)) {A:Around}{s:Shared}{ws:List Value}{a:Addr}(hA:A.handled=none∨C.hf f=true) (hH:Hp C ρ hp s.heap) (hgens:s.gens=#[]) (rl:RepL C ρ s.heap vs ws)
  {frs:List Addr}(hfrs:∃es,A.frames=some es∧∀e∈es,e.scope.kind≠.module∧∃L∈frs,e.frame=some L) (hout:∀L∈frs,FrOk C ρ s.heap L)
  (hroom:A.depth+(n+1)≤999) (hunits:A.units≤3 * A.depth+4) (hfa:C.fa f=some a) :
  wpAny (mod C) A (call (.ref a) ws) (OutC C Q ρ s) (ErC C X ρ s) s:=by
 obtain ⟨o,fd,body,ps,ns,ho,hd,hcd,hbody,hclo,hco,hgen,hk,hbind,hps,hns,hchk,hgl⟩:=H.2 f d a hP hfa
 obtain ⟨hpre,hnd,hall⟩:=names_of_ok hns
 have hwl:ws.length=ps.length:=by rw [rl.length,hlen,hps]
 have hmem:∀x∈ps,x∈ns:=fun x hx=>hpre.subset hx
 have hcellS:∀k x,((cellsFrom k fd.scope.names []).lookup x).isSome=((cellsFrom 0 fd.scope.names []).lookup x).isSome:=fun k x=>cellsFrom_some _ _ _ _ _ _ fun _=>rfl
 have hzip:∀p∈ps.zip ws,p.1∈ps:=fun p hp=>(List.of_mem_zip (a:=p.1) (b:=p.2) hp).1
 have hzn:((ps.zip ws).map (·.1)).Nodup:=by
  rw [List.map_fst_zip (n1 (Nat.le_of_eq hwl.symm) (by simp +arith only))]
  exact hnd.sublist hpre.sublist
 refine wpAny_call (codeAny_call_cells (by show _<1000;exact n1 hroom (by simp +arith only)) (hH.base _ _ ho) hd (G.nolimit.keeps hH.base) (hcd.keeps hH.base) hbody (hbind ws hwl) hclo (fun x hx=>?_) (fun s₁ ic=>?_) hco hgen hk)
 ·rcases hall _ (hmem _ (hzip x hx)) with q | ⟨q,q'⟩
  ·exact .inl q
  ·exact .inr ⟨q,by rw [hcellS];exact q'⟩
 ·generalize henv:callEnvC fd s.heap.objs.size a=env at ic ⊢
  have eL:env.locals=s.heap.objs.size:=by rw [←henv];rfl
  have eK:∀x,env.kindOf x=fd.scope.names.lookup x:=fun x=>by rw [←henv];rfl
  have eC:env.cells=cellsFrom (s.heap.objs.size+1) fd.scope.names []:=by rw [←henv];rfl
  have eS:env.scope=fd.scope:=by rw [←henv];rfl
  have eF:env.frame=some env.locals:=by rw [←henv];rfl
  have eG:env.globals=fd.globals∧env.builtins=fd.builtins:=by rw [←henv];exact ⟨rfl,rfl⟩
  obtain ⟨⟨⟨h₁,tk,hs₁⟩,hns1,hkeep,hfresh⟩,hcell,hapart,habove⟩:=ic
  have fL:s.heap.get? env.locals=none:=fresh_at hfresh
  have hcl:∀x c,env.cells.lookup x=some c→s₁.heap.IsCell c (bindC env.kindOf (ps.zip ws) (fun _=>none) x)∧s.heap.get? c=none:=fun x c e=>by
   refine ⟨hcell x c e,fresh_at ?_⟩
   have:=habove x c (mem_of_lookup e)
   exact Nat.le_of_lt (Nat.lt_of_le_of_lt hfresh this)
  have hg1:s₁.gens=s.gens∧s₁.os=s.os:=by rw [hs₁];exact ⟨rfl,rfl⟩
  have hW:∀b∈(inFm A env ns frs).W,s.heap.get? b=none∧WOk s₁.heap b:=fun b hb=>by
   rcases List.mem_cons.mp hb with rfl | hb
   ·obtain ⟨o,es,ep,e1,e2,_⟩:=hns1
    exact ⟨fL,o,e1,.inl ⟨es,ep,e2⟩⟩
   ·obtain ⟨x,hx,e⟩:=List.mem_filterMap.mp hb
    split at e
    ·exact nos1 e
    ·obtain ⟨⟨o,e1,e2⟩,e3⟩:=hcl x b e
     exact ⟨e3,o,e1,.inr ⟨_,e2⟩⟩
  have hlay:∀i l,(inFm A env ns frs).lay i=some l→∃x,ns[i]?=some x∧((env.kindOf x=some .local∧l=.nm env.locals x)∨(env.kindOf x≠some .local∧∃c,env.cells.lookup x=some c∧l=.cl c)):=fun i l e=>lay_inv e
  have hidx:∀(i j:Nat) (x:Str),ns[i]?=some x→ns[j]?=some x→i=j:=fun i j x e1 e2=>by
   have h1:=List.getElem?_eq_some_iff.mp e1
   have h2:=List.getElem?_eq_some_iff.mp e2
   exact (List.getElem_inj hnd).mp (h1.2.trans h2.2.symm)
  have ok':FmOk (inFm A env ns frs):=by
   refine ⟨List.mem_cons_self ..,fun i l e=>?_,fun i j l e1 e2=>?_,?_,?_⟩
   ·obtain ⟨x,hx,⟨q,rfl⟩ | ⟨q,c,hc,rfl⟩⟩:=hlay i l e
    ·exact List.mem_cons_self ..
    ·refine List.mem_append_left _ (List.mem_cons_of_mem _ (List.mem_filterMap.mpr ⟨x,List.mem_of_getElem? hx,?_⟩))
     rw [if_neg q];exact hc
   ·obtain ⟨x,hx,q1⟩:=hlay i l e1
    obtain ⟨y,hy,q2⟩:=hlay j l e2
    rcases q1 with ⟨_,rfl⟩ | ⟨_,c,hc,rfl⟩
    ·rcases q2 with ⟨_,q⟩ | ⟨_,c',_,q⟩
     ·cases q;exact hidx i j x hx hy
     ·cases q
    ·rcases q2 with ⟨_,q⟩ | ⟨_,c',hc',q⟩
     ·cases q
     ·cases q
      have:=name_of_addr hapart (mem_of_lookup hc) (mem_of_lookup hc')
      subst this
      exact hidx i j x hx hy
   ·show env.scope.kind=.function
    rw [eS];exact hk
   ·obtain ⟨es,h1,h2⟩:=hfrs
    refine ⟨env::es,by show A.frames.map (env::·)=_;rw [h1];rfl,fun e he=>?_⟩
    rcases List.mem_cons.mp he with rfl | he
    ·exact ⟨by rw [eS,hk];decide,_,List.mem_cons_self ..,eF⟩
    ·obtain ⟨q1,L,q2,q3⟩:=h2 e he
     exact ⟨q1,L,List.mem_cons_of_mem _ q2,q3⟩
  have fo:FrOn (inFm A env ns frs):=by
   obtain ⟨es,h1,_⟩:=hfrs
   exact ⟨⟨es,by show A.frames.map (env::·)=_;rw [h1];rfl⟩,eF⟩
  have cx:CxOk C (mkCx fd.scope ns z (!C.hf f)) (inFm A env ns frs) n:=by
   refine ⟨ok',fun x=>eK x,fun i x e=>?_,?_,H.1.meth,H.1.attr,fun e=>?_,H.1.hf,?_,?_,?_,fun i a e _=>(List.mem_append.mp (ok'.lay i _ e)).elim id (fun q=>nomatch q),fun i e=>?_⟩
   ·have hx:ns[i]?=some x:=e
    rcases hall x (List.mem_of_getElem? hx) with q | ⟨q,q'⟩
    ·refine .inl ⟨(eK x).trans q,?_⟩
     simp only [inFm,hx,eK,q,if_true]
    ·have hne:fd.scope.names.lookup x≠some .local:=by rw [q];intro q;cases q
     rw [←hcellS (s.heap.objs.size+1),←eC] at q'
     obtain ⟨c,hc⟩:=Option.isSome_iff_exists.mp q'
     refine .inr ⟨c,.inl ((eK x).trans q),hc,?_⟩
     simp only [inFm,hx,eK,q,hc]
     rfl
   ·show Globs C env.globals env.builtins z
    rw [eG.1,eG.2];exact hgl
   ·refine hA.resolve_right fun q=>?_
    replace e:(!C.hf f)=true:=e
    rw [q] at e;cases e
   ·show A.units+3≤3 * (A.depth+1)+4
    exact n1 hunits (by simp +arith only)
   ·show A.depth+1+n≤999
    exact n1 hroom (by simp +arith only)
   ·show interactive env=false
    unfold interactive
    rw [eS,hk];rfl
   ·have e:ns.length≤i:=by simpa [mkCx] using e
    simp only [inFm,List.getElem?_eq_none e]
  have hk':∀b ob,s.heap.get? b=some ob→s₁.heap.get? b=some ob:=hkeep
  have hs0:Solids s.heap s₁.heap:=fun b ob e _=>hk' b ob e
  have R₁:Rel C (inFm A env ns frs) ρ (start d vs hp) s₁:=by
   refine ⟨?_,⟨_,hns1⟩,fun b hb=>?_,fun i v e=>?_,fun i c e=>?_,fun L hL=>?_,hg1.1.trans hgens⟩
   ·show Hp C ρ hp s₁.heap
    exact hH.up hs0 (fun b _ ob e=>hk' b ob e) fun b ob e=>hk' b ob (hH.base b ob e)
   ·have hb:b∈(inFm A env ns frs).W:=(List.mem_append.mp hb).elim id fun q=>by exact nomem q
    obtain ⟨h1,h2⟩:=hW b hb
    refine ⟨fun q=>?_,base_fresh (m:=⟨[],hp⟩) hH h1,h2⟩
    obtain ⟨o',e'⟩:=Hp.there (m:=⟨[],hp⟩) hH q
    exact nosome h1 e'
   ·have hv:=start_get e
    obtain ⟨w,hw1,hw2⟩:=rl.get hv
    have hi:i<ps.length:=by rw [←hwl];exact (List.getElem?_eq_some_iff.mp hw1).1
    have hpi:ps[i]?=some ps[i]:=List.getElem?_eq_getElem hi
    have hni:ns[i]?=some ps[i]:=by
     obtain ⟨t,rfl⟩:=hpre
     rw [List.getElem?_append_left hi];exact hpi
    have hz:(ps[i],w)∈ps.zip ws:=List.mem_of_getElem? (zip_get hwl hpi hw1)
    rcases cx.nm i ps[i] hni with ⟨q1,q2⟩ | ⟨c,q1,q2,q3⟩
    ·refine ⟨_,q2,_,w,hns1,?_,hw2.up hs0 (List.prefix_refl _)⟩
     exact bindL_get _ _ _ _ _ hzn hz q1
    ·refine ⟨_,q3,w,?_,hw2.up hs0 (List.prefix_refl _)⟩
     have:=(hcl ps[i] c q2).1
     rw [bindC_get _ _ _ _ w hzn hz] at this
     ·exact this
     ·intro q
      have q1':env.kindOf ps[i]=some .cell∨env.kindOf ps[i]=some .free∧cdc ps[i]=false:=q1
      rw [q] at q1'
      rcases q1' with q1' | ⟨q1',_⟩<;>cases q1'
   ·obtain ⟨x,hx,⟨q,q'⟩ | ⟨q,c',hc,q'⟩⟩:=hlay i _ e
    ·cases q'
    ·cases q';exact ⟨_,(hcl x c hc).1⟩
   ·rcases List.mem_cons.mp hL with rfl | hL
    ·refine ⟨fun q=>?_,base_fresh (m:=⟨[],hp⟩) hH fL,?_⟩
     ·obtain ⟨o',e'⟩:=Hp.there (m:=⟨[],hp⟩) hH q
      exact nosome fL e'
     ·obtain ⟨o,es,ep,e1,e2,_⟩:=hns1
      exact ⟨o,e1,es,ep,e2⟩
    ·obtain ⟨h1,h2,o,h3,h4⟩:=hout L hL
     exact ⟨h1,h2,o,hk' L o h3,h4⟩
  have hnW:∀b ob,s.heap.get? b=some ob→b∉(inFm A env ns frs).W:=fun b ob e q=>by rw [(hW b q).1] at e;exact nos1 e
  have hnn:∀b,s₁.heap.get? b=none→s.heap.get? b=none:=fun b q=>by
   cases e:s.heap.get? b with
   | none=>rfl
   | some ob=>rw [hk' b ob e] at q;exact nos2 q
  have hst:∀{ρ' s'},Step (inFm A env ns frs).W ρ s₁ ρ' s'→Step [] ρ s ρ' s':=fun {ρ' s'} st=>
   ⟨st.pre,fun b hb=>(st.new b hb).imp id (hnn b),fun b ob e h1 _=>st.keep b ob (hk' b ob e) h1 (hnW b ob e),fun b ob e hsd=>st.solid b ob (hk' b ob e) hsd,fun b ob e=>st.alive b ob (hk' b ob e),st.gens.trans hg1.1,st.os.trans hg1.2⟩
  refine wpAny_mono (soundSs G d.body (fun c m=>X c m.heap) _ _ cx fo body hchk (fin Q) (start d vs hp) hw s₁ ρ R₁) (fun fl s' hf=>?_) fun e s' he=>?_
  rotate_left
  ·have he:=he
   unfold leaving
   refine wpAny_bind (er_note ok' fo rfl R₁.hp.base he fun s₂ h₂=>er_flight ok' R₁.hp.base h₂ fun s₃ h₃=>?_)
   obtain ⟨ρ',m',k,a',K,st,R',ea,hK,hfl,hX⟩:=h₃
   exact ⟨ρ',m'.heap,k,a',K,hst st,R'.hp,ea,hK,hfl.mono hnn,hX⟩
  obtain ⟨ρ',m',f',st,R',hfl,hq⟩:=hf
  have key:∀v x,Rep C ρ' s'.heap x v→Q x m'.heap→OutC C Q ρ s v s':=fun v x rx hq=>⟨ρ',m'.heap,x,hst st,R'.hp,rx,hq⟩
  cases f' with
  | next=>obtain rfl:=hfl.inv;exact key .none .none .none hq
  | brk=>exact hq.elim
  | cont=>exact hq.elim
  | ret r=>obtain ⟨v,rfl,rv⟩:=hfl.inv;exact key _ _ rv hq
theorem call_back {F:Fm}{m:MS}{s s':Shared}{ρ':List Addr}{hp':List MO}(okF:FmOk F) (R:Rel C F ρ m s) (st:Step [] ρ s ρ' s') (hH:Hp C ρ' hp' s'.heap):Step F.W ρ s ρ' s'∧Rel C F ρ' ⟨m.vars,hp'⟩ s':=by
 have hD:∀b ob,s.heap.get? b=some ob→b∉ρ→KeepD s.heap s'.heap b:=fun b ob e hb ob' e'=>by
  obtain rfl:=same e e'
  rcases st.keep b ob e hb (by exact List.not_mem_nil) with q | ⟨_,sl,q⟩
  ·exact ⟨_,q,rfl,rfl⟩
  ·exact ⟨_,q,rfl,rfl⟩
 refine ⟨⟨st.pre,st.new,fun b ob e h1 _=>st.keep b ob e h1 (by exact List.not_mem_nil),st.solid,st.alive,st.gens,st.os⟩,R.up okF st.solid st.pre hH st.new (fun b hb=>?_) (fun L hL=>?_) st.gens⟩
 ·obtain ⟨h1,_,ob,e,_⟩:=R.w b hb
  exact hD b ob e h1
 ·obtain ⟨h1,_,ob,e,_⟩:=R.out L hL
  exact hD L ob e h1
set_option tactic.hygienic true in
theorem closed (G:GOk C) {z:Sg}{P:Nat→Option Fn}(H:FnsOk C z P):Closed P (Call C):=by
 intro n f vs Q X hp d hP hlen hw F m s ρ ws a okF hA hm R rl hroom hunits hfa
 refine wpAny_mono (call_core G H hP hlen hw hA (by rw [←hm];exact R.hp) R.gens rl okF.frs R.out hroom hunits hfa) (fun v s' hr=>?_) fun e s' hr=>?_
 ·obtain ⟨ρ',hp',x,st,hH,rx,hq⟩:=hr
  obtain ⟨st',R'⟩:=call_back okF R st hH
  exact ⟨ρ',⟨m.vars,hp'⟩,x,st',R',rx,rfl,hq⟩
 ·obtain ⟨ρ',hp',k,a',K,st,hH,ea,hK,hfl,hX⟩:=hr
  obtain ⟨st',R'⟩:=call_back okF R st hH
  exact ⟨ρ',⟨m.vars,hp'⟩,k,a',K,st',R',ea,hK,hfl.fly (.inl rfl),rfl,hX⟩
end
end Internal
end
section
namespace Internal
open PySem
theorem xat_of {h:Heap}{chain:List Str}{n:Str}(x:x1Ok h chain n=true):∃K,h.nsMap mainGlobals n=some (.ref K)∧XAt h K ((chain.map fun n=>(h.nsMap mainGlobals n).getD .none)++vErr):=by
 obtain ⟨x1,x2⟩:=Bool.and_eq_true_iff.mp x
 obtain ⟨C,N,nm,q,bs,hdct,sn,sub,ab,col,dd,k0,k1,k2,k3,k5,hb,hC,hN,_⟩:=Heap.ownExc_of_ok x1
 refine ⟨C,hb,N,nm,q,bs,hdct,sn,sub,ab,col,dd,k0,k1,k2,k3,k5,_,hC,hN,fun n' hn=>?_⟩
 unfold xqOk at x2
 cases hf:h.clsAt mainGlobals n with
 | none=>rw [hf] at x2;cases x2
 | some z=>
  obtain ⟨C',o',cd'⟩:=z
  rw [hf] at x2
  obtain ⟨hn',ho',hd'⟩:=Heap.clsAt_spec hf
  rw [hb] at hn'
  obtain rfl:C=C':=by injection hn' with q1;injection q1
  rw [hC] at ho'
  obtain rfl:=Option.some.inj ho'
  obtain rfl:_=cd':=by injection hd'
  exact Option.isNone_iff_eq_none.mp (List.all_eq_true.mp x2 n' hn)
noncomputable def XFacts (ns:List Str) (mg:Str→Option Value) (h:Heap):Prop:=
 (∀(k:Nat) (x:Str),ns[k]?=some x→∃K K0 bm b,mg x=some (.ref K)∧ns[0]?=some b∧mg b=some (.ref K0)∧XCl h K bm∧bm=(match k with
  | 0=>vErr
  | _=>.ref K0::vErr))∧(ns.map mg).Nodup
theorem XFacts.keeps {ns:List Str}{mg:Str→Option Value}{h h':Heap}(x:XFacts ns mg h) (k:∀b o,h.get? b=some o→h'.get? b=some o):XFacts ns mg h':=
 ⟨fun i n e=>by obtain ⟨K,K0,bm,b,h1,h2,h3,h4,h5⟩:=x.1 i n e;exact ⟨K,K0,bm,b,h1,h2,h3,h4.keeps k,h5⟩,x.2⟩
theorem xfacts_of {b:Str}{r:List Str}{h:Heap}(x:xOk b r h=true):XFacts (b::r) (h.nsMap mainGlobals) h:=by
 obtain ⟨x1,x3⟩:=Bool.and_eq_true_iff.mp x
 obtain ⟨x1,x2⟩:=Bool.and_eq_true_iff.mp x1
 obtain ⟨K0,e0,a0⟩:=xat_of x1
 refine ⟨fun k n e=>?_,of_decide_eq_true x3⟩
 cases k with
 | zero=>obtain rfl:=Option.some.inj e;exact ⟨K0,K0,vErr,b,e0,rfl,e0,⟨a0,.inl rfl⟩,rfl⟩
 | succ k=>
  replace e:r[k]?=some n:=e
  obtain ⟨K,e1,a1⟩:=xat_of (List.all_eq_true.mp x2 n (List.mem_of_getElem? e))
  have eb:([b].map fun n=>(h.nsMap mainGlobals n).getD .none)++vErr=.ref K0::vErr:=by
   show (h.nsMap mainGlobals b).getD .none::vErr=_
   rw [e0];rfl
  rw [eb] at a1
  exact ⟨K,K0,_,b,e1,rfl,e0,⟨a1,.inr ⟨K0,rfl,a0⟩⟩,rfl⟩
end Internal
end
section
namespace Internal
open PySem
noncomputable def thSays (x:Str) (es:List (List Nat × Int)) (prog:Program) (w:World) (h:Heap):Prop:=∃mg a kvs,h.Ns mainGlobals mg∧mg x=some (.ref a)∧(a==sysModules)=false∧h.DictOf (strKind prog w) a kvs∧CK es kvs
theorem entryV_inv {e:DictEntry}{x:Int × Str × Int}(h:entryV e=some x):∃k t i u,e.key=.str k t∧e.val=.int i u∧x=(e.hash,k,i):=by
 unfold entryV at h
 cases hk:e.key with
 | str k t=>
  rw [hk] at h
  cases hv:e.val with
  | int i u=>rw [hv] at h;exact ⟨k,t,i,u,rfl,rfl,(Option.some.inj h).symm⟩
  | _=>rw [hv] at h;exact nos1 h
 | _=>rw [hk] at h;exact nos1 h
theorem entriesV_cons {e:DictEntry}{l:List DictEntry}{ys:List (Int × Str × Int)}(h:entriesV (e::l)=some ys):∃x xs,entryV e=some x∧entriesV l=some xs∧ys=x::xs:=by
 replace h:(match entryV e with
  | some x=>match entriesV l with
   | some xs=>some (x::xs)
   | none=>none
  | none=>none)=some ys:=h
 cases h1:entryV e with
 | none=>rw [h1] at h;exact nos1 h
 | some x=>
  rw [h1] at h
  cases h2:entriesV l with
  | none=>rw [h2] at h;exact nos1 h
  | some xs=>rw [h2] at h;exact ⟨x,xs,rfl,rfl,(Option.some.inj h).symm⟩
theorem entries_of {prog:Program}{w:World}{es:List (List Nat × Int)}{l:List DictEntry}(h:entriesV l=some (es.map fun p=>(hashStr w (str p.1),str p.1,p.2))) (hl:∀p∈es,p.1.length≤line) :
  ∃kvs,(∀e∈l,∃k,(strKind prog w).is k e.key=true∧e.hash=(strKind prog w).hash k)∧Pairs (strKind prog w) l kvs∧CK es kvs∧kvs.map (·.1)=es.map fun p=>str p.1:=by
 induction l generalizing es with
 | nil=>
  cases es with
  | nil=>exact ⟨[],fun e he=>nomem he,.nil,.nil,rfl⟩
  | cons=>exact nomatch Option.some.inj h
 | cons e l ih=>
  obtain ⟨x,xs,h1,h2,h3⟩:=entriesV_cons h
  cases es with
  | nil=>exact nomatch h3
  | cons p es=>
   obtain ⟨hx,rfl⟩:=List.cons.inj h3
   obtain ⟨kvs,k1,k2,k3,k4⟩:=ih h2 fun p hp=>hl p (List.mem_cons_of_mem _ hp)
   obtain ⟨s,t,j,u,ek,ev,rfl⟩:=entryV_inv h1
   have e1:hashStr w (str p.1)=e.hash:=congrArg Prod.fst hx
   obtain rfl:str p.1=s:=congrArg (fun q=>q.2.1) hx
   obtain rfl:p.2=j:=congrArg (fun q=>q.2.2) hx
   have hk:(strKind prog w).is (str p.1) e.key=true:=by rw [ek];exact beq_self_eq_true _
   refine ⟨(str p.1,.int p.2 u)::kvs,fun e' he=>?_,.cons hk ev k2,.cons (hl _ (List.mem_cons_self ..)) k3,congrArg (str p.1::·) k4⟩
   rcases List.mem_cons.mp he with rfl | he
   ·exact ⟨str p.1,hk,e1.symm⟩
   ·exact k1 e' he
theorem th_of {prog:Program}{w:World}{x:Str}{es:List (List Nat × Int)}(hl:∀p∈es,p.1.length≤line) (hn:(es.map fun p=>str p.1).Nodup) {s:Shared}(h:thObs x s=thVal es w):thSays x es prog w s.heap:=by
 unfold thObs at h
 refine Classical.byContradiction fun hz=>?_
 cases ha:s.heap.nsMap mainGlobals x with
 | none=>rw [ha] at h;exact nos1 h
 | some v=>
 rw [ha] at h
 cases v with
 | ref a=>
  dsimp only at h
  cases ho:s.heap.get? a with
  | none=>rw [ho] at h;exact nos1 h
  | some o=>
  rw [ho] at h
  dsimp only at h
  cases hd:o.data with
  | dict ds ep=>
   rw [hd] at h
   dsimp only at h
   cases hc:(a != sysModules&&o.cls==.type "dict"&&o.dict.isNone&&o.slots.size==0&&s.heap.isNs mainGlobals) with
   | false=>rw [hc] at h;exact nos1 h
   | true=>
     rw [hc] at h
     refine hz ?_
     obtain ⟨hc,h5⟩:=Bool.and_eq_true_iff.mp hc
     obtain ⟨hc,h4⟩:=Bool.and_eq_true_iff.mp hc
     obtain ⟨hc,h3⟩:=Bool.and_eq_true_iff.mp hc
     obtain ⟨h1,h2⟩:=Bool.and_eq_true_iff.mp hc
     obtain ⟨kvs,k1,k2,k3,k4⟩:=entries_of (prog:=prog) h hl
     refine ⟨_,a,kvs,.of_isNs h5,ha,by simpa using h1,⟨o,ds,ep,ho,⟨eq_of_beq h2,Option.isNone_iff_eq_none.mp h3,?_⟩,hd,fun e he=>k1 e (by simpa using he),k2,by rw [k4];exact hn⟩,k3⟩
     exact Array.eq_empty_of_size_eq_zero (eq_of_beq h4)
  | _=>rw [hd] at h;exact nos1 h
 | _=>exact nos1 h
theorem thSays.keeps {x:Str}{es:List (List Nat × Int)}{prog:Program}{w:World}{h h':Heap}(y:thSays x es prog w h) (k:∀b o,h.get? b=some o→h'.get? b=some o):thSays x es prog w h':=by
 obtain ⟨mg,a,kvs,h1,h2,h3,⟨o,ds,ep,e,r⟩,h5⟩:=y
 exact ⟨mg,a,kvs,h1.keeps k,h2,h3,⟨o,ds,ep,k _ _ e,r⟩,h5⟩
end Internal
end
section
namespace Internal
open PySem PyProof.Rows
noncomputable abbrev Tab:=List (Nat × Str × List Str × Fn)
noncomputable abbrev MTab:=List (Nat × Nat × Str × List Str × Fn)
noncomputable abbrev CTab:=List (Nat × Str × List Str)
noncomputable def fnOf (tab:Tab) (f:Nat):Option Str:=(tab.lookup f).map (·.1)
noncomputable def fnP (tab:Tab) (f:Nat):Option Fn:=(tab.lookup f).map (·.2.2)
noncomputable def mtOf (mt:MTab) (f:Nat):Option (Nat × Str):=(mt.lookup f).map fun e=>(e.1,e.2.1)
noncomputable def mtP (mt:MTab) (f:Nat):Option Fn:=(mt.lookup f).map (·.2.2.2)
set_option genCtorIdx false in
structure Tabs where
 tab:Tab
 mt:MTab
 ct:CTab
 xs:List Str
 hf:Nat→Bool
 gl:Nat→Option (Str × MV)
noncomputable def Tabs.P (t:Tabs) (f:Nat):Option Fn:=(fnP t.tab f).or (mtP t.mt f)
noncomputable def Tabs.sg (t:Tabs):Sg where
 fn:=fnOf t.tab
 gl:=t.gl
 hf:=t.hf
 cn k:=(t.ct.lookup k).map (·.1)
 xn k:=t.xs[k]?
 mt:=mtOf t.mt
 at_ k y:=match t.ct.lookup k with
  | some e=>e.2.contains y
  | none=>false
noncomputable def refOf:Option Value→Option Addr
 | some (.ref a)=>some a
 | _=>none
noncomputable def chkRec (z:Sg) (nh:Bool) (ns:List Str) (d:Fn) (params:Arguments) (scope:Scope) (body:List Stmt):Bool:=
 params.posonlyargs.isEmpty&&params.vararg.isNone&&params.kwonlyargs.isEmpty&&params.kwarg.isNone&&!scope.isCoroutine&&!scope.isGenerator&&scope.kind==.function&&
 (params.args.map (·.arg)).length==d.args&&namesOk scope (params.args.map (·.arg)) ns&&chkSs (mkCx scope ns z nh) d.body body
noncomputable def tabOk (recs:List DefRec) (t:Tabs):Bool:=
 t.tab.all fun e=>recs.any fun r=>r.name==e.2.1&&chkRec t.sg (!t.hf e.1) e.2.2.1 e.2.2.2 r.params r.scope r.body
noncomputable def mtabOk (cs:List ClsRec) (t:Tabs):Bool:=
 t.mt.all fun e=>(t.tab.lookup e.1).isNone&&onSome (t.ct.lookup e.2.1) fun c=>cs.any fun k=>k.name==c.1&&k.meths.any fun m=>m.name==e.2.2.1&&chkRec t.sg (!t.hf e.1) e.2.2.2.1 e.2.2.2.2 m.params m.scope m.body
noncomputable def ctOk (cs:List ClsRec) (t:Tabs):Bool:=t.ct.all fun e=>cs.any fun k=>k.name==e.2.1&&e.2.2.all fun x=>k.statics.contains x
noncomputable def eqV (v w:Value):Bool:=match v with
 | .builtin a=>match w with
  | .builtin b=>a==b
  | _=>false
 | .type a=>match w with
  | .type b=>a==b
  | _=>false
 | _=>false
theorem eqV_eq {v w:Value}(h:eqV v w=true):v=w:=by
 cases v with
 | builtin a=>
  cases w with
  | builtin b=>exact congrArg _ (eq_of_beq h)
  | _=>exact ff h
 | type a=>
  cases w with
  | type b=>exact congrArg _ (eq_of_beq h)
  | _=>exact ff h
 | _=>exact ff h
noncomputable def bltOk (p:Program) (loose:List Str):Bool:=
 bltNames.all fun q=>!startupNames.contains q.1&&!loose.contains q.1&&!((recsOf p).map (·.name)).contains q.1&&!((litsOf p).map (·.1)).contains q.1&&!((clssOf p loose).map (·.name)).contains q.1&&!(q.1==("__name__":Str))&&
  onSome (bootBuiltins q.1) (eqV q.2)
set_option tactic.hygienic true in
theorem lookup_mem {α:Type}:∀{l:List (Nat × α)}{k:Nat}{v:α},l.lookup k=some v→(k,v)∈l
 | [],k,v,h=>by exact nos1 h
 | (a,b)::r,k,v,h=>by
  rw [List.lookup_cons] at h
  split at h
  ·rename_i e
   obtain rfl:=Option.some.inj h
   have:k=a:=by exact eq_of_beq e
   subst this
   exact List.mem_cons_self ..
  ·exact List.mem_cons_of_mem _ (lookup_mem h)
set_option tactic.hygienic true in
theorem lookup_zip:∀{ps:List Str}{vs:List Value}{x:Str},vs.length=ps.length→x∈ps→((ps.zip vs).lookup x).isSome=true
 | [],_,_,_,h=>by exact nomem h
 | p::ps,[],_,h,_=>by cases h
 | p::ps,v::vs,x,hl,h=>by
  rw [List.zip_cons_cons,List.lookup_cons]
  split
  ·rfl
  ·rename_i e
   refine lookup_zip (by simpa using hl) ?_
   rcases List.mem_cons.mp h with rfl | h
   ·simp at e
   ·exact h
theorem filterMap_zip:∀{ps:List Str}{vs:List Value}(pre:List (Str × Value)),vs.length=ps.length→ps.Nodup→(∀x∈ps,pre.lookup x=none)→ps.filterMap (fun n=>((pre++ps.zip vs).lookup n).map (n,·))=ps.zip vs
 | [],_,_,_,_,_=>rfl
 | p::ps,[],_,h,_,_=>by cases h
 | p::ps,v::vs,pre,hl,hn,hp=>by
  rw [List.nodup_cons] at hn
  have e1:(pre++(p::ps).zip (v::vs)).lookup p=some v:=by
   rw [List.lookup_append,hp p (List.mem_cons_self ..)]
   simp [List.lookup_cons]
  rw [List.filterMap_cons,e1]
  simp only [Option.map_some]
  rw [List.zip_cons_cons]
  congr 1
  have e2:pre++(p,v)::ps.zip vs=(pre++[(p,v)])++ps.zip vs:=by simp
  rw [e2]
  refine filterMap_zip (pre++[(p,v)]) (by simpa using hl) hn.2 fun x hx=>?_
  rw [List.lookup_append,hp x (List.mem_cons_of_mem _ hx)]
  have:(x==p)=false:=by
   cases e:x==p with
   | false=>rfl
   | true=>
    have:x=p:=by exact eq_of_beq e
    subst this;exact absurd hx hn.1
  simp [List.lookup_cons,this]
theorem bind_plain' {fd:FuncData}{vals:List Value}(h1:fd.params.posonlyargs=[]) (h2:fd.params.vararg=none) (h3:fd.params.kwonlyargs=[]) (h4:fd.params.kwarg=none) (h5:fd.defaults=.none)
  (e5:(decide (vals.length > (fd.params.args.map (·.arg)).length))=false) (e2:(fd.params.args.map (·.arg)).filter (fun n=>(((fd.params.args.map (·.arg)).zip vals).lookup n).isNone)=[])
  (e3:(fd.params.args.map (·.arg)).filterMap (fun n=>(((fd.params.args.map (·.arg)).zip vals).lookup n).map (n,·))=(fd.params.args.map (·.arg)).zip vals):bindArgs fd ⟨vals,[]⟩=pure ((fd.params.args.map (·.arg)).zip vals):=by
 obtain ⟨a1,a2,⟨b1,b2,b3,b4,b5,b6,b7⟩,a4,a5,a6,a7,a8,a9,a10,a11,a12,a13,a14,a15⟩:=fd
 dsimp only at h1 h2 h3 h4 h5 e5 e2 e3 ⊢
 subst h1 h2 h3 h4 h5
 refine (if_neg (c:=(decide (vals.length > (b2.map (·.arg)).length)&&true)=true) (by rw [e5];decide)).trans ?_
 have hd:∀k,List.drop k ((none:Option (Array Value)).getD #[]).toList=[]:=fun k=>List.drop_nil
 rw [hd]
 refine (if_neg (c:=(!(((b2.map (·.arg)).take ((b2.map (·.arg)).length-0)).filter (fun n=>(((b2.map (·.arg)).zip vals).lookup n).isNone)).isEmpty)=true) (by rw [Nat.sub_zero,List.take_length,e2];decide)).trans ?_
 have hz:(List.drop ((b2.map (·.arg)).length-0) (b2.map (·.arg))).zip ([]:List Value)=[]:=List.zip_nil_right
 refine (congrArg (fun l=>(forIn (m:=Sem) l ((b2.map (·.arg)).zip vals) _ >>= _)) hz).trans ?_
 exact congrArg (fun l=>(pure l:Sem (List (Str × Value)))) ((congrArg (List.filterMap _) (List.append_nil (b2.map (·.arg)))).trans e3)
theorem bind_plain {fd:FuncData}{vals:List Value}(h1:fd.params.posonlyargs=[]) (h2:fd.params.vararg=none) (h3:fd.params.kwonlyargs=[]) (h4:fd.params.kwarg=none) (h5:fd.defaults=.none)
  (hn:(fd.params.args.map (·.arg)).Nodup) (hl:vals.length=(fd.params.args.map (·.arg)).length):bindArgs fd ⟨vals,[]⟩=pure ((fd.params.args.map (·.arg)).zip vals):=by
 have e1:∀x∈fd.params.args.map (·.arg),(((fd.params.args.map (·.arg)).zip vals).lookup x).isNone=false:=fun x hx=>by
  have:=lookup_zip hl hx
  cases e:((fd.params.args.map (·.arg)).zip vals).lookup x with
  | none=>rw [e] at this;cases this
  | some=>rfl
 have e2:(fd.params.args.map (·.arg)).filter (fun n=>(((fd.params.args.map (·.arg)).zip vals).lookup n).isNone)=[]:=by
  rw [List.filter_eq_nil_iff];intro x hx;rw [e1 x hx];simp
 have e3:=filterMap_zip (ps:=fd.params.args.map (·.arg)) (vs:=vals) [] hl hn fun _ _=>rfl
 rw [List.nil_append] at e3
 exact bind_plain' h1 h2 h3 h4 h5 (decide_eq_false (by rw [hl];exact Nat.lt_irrefl _)) e2 e3
end Internal
end
section
namespace Internal
open PySem PySem.W PyProof.Rows
section
variable {p:Program}{loose:List Str}{mean:ExcName→Option Value}{mg mb:Str→Option Value}{h:Heap}{prog:Program}{w:World}{t:Tabs}{cm:Nat→Str→Option Value}
noncomputable abbrev topG (prog:Program) (w:World) (h:Heap) (t:Tabs) (mg:Str→Option Value) (cm:Nat→Str→Option Value):Glo where
 prog:=prog
 w:=w
 base:=h
 fa f:=match fnOf t.tab f with
  | some x=>refOf (mg x)
  | none=>match mtOf t.mt f with
   | some q=>refOf (cm q.1 q.2)
   | none=>none
 ca k:=match t.ct.lookup k with
  | some e=>refOf (mg e.1)
  | none=>none
 xa k:=match t.xs[k]? with
  | some x=>refOf (mg x)
  | none=>none
 cm:=cm
 hf:=t.hf
theorem refOf_eq {o:Option Value}{a:Addr}(e:refOf o=some a):o=some (.ref a):=by
 cases o with
 | none=>exact nos1 e
 | some v=>cases v<;>first | ((first | exact nos1 e | obtain rfl:=Option.some.inj e);rfl) | exact nos1 e
end
end Internal
end
section
namespace Internal
open PySem PySem.W PyProof.Rows
section
variable {p:Program}{loose:List Str}{mean:ExcName→Option Value}{mg mb:Str→Option Value}{h:Heap}{prog:Program}{w:World}{t:Tabs}{cm:Nat→Str→Option Value}
theorem xa_inv {k:Nat}{K:Addr}(e:(topG prog w h t mg cm).xa k=some K):∃x,t.xs[k]?=some x∧mg x=some (.ref K):=by
 replace e:(match t.xs[k]? with
  | some x=>refOf (mg x)
  | none=>none)=some K:=e
 cases q:t.xs[k]? with
 | none=>rw [q] at e;cases e
 | some x=>rw [q] at e;exact ⟨x,rfl,refOf_eq e⟩
theorem xa_is {k:Nat}{x:Str}{K:Addr}(e:t.xs[k]?=some x) (h1:mg x=some (.ref K)):(topG prog w h t mg cm).xa k=some K:=by
 show (match t.xs[k]? with
  | some x=>refOf (mg x)
  | none=>none)=some K
 rw [e]
 show refOf (mg x)=some K
 rw [h1];rfl
theorem top_x (XF:XFacts t.xs mg h):GX (topG prog w h t mg cm) where
 exc:=fun k K e=>by
  obtain ⟨x,h1,h2⟩:=xa_inv e
  obtain ⟨K',K0,bm,b,g1,g2,g3,g4,g5⟩:=XF.1 k x h1
  rw [h2] at g1;cases g1
  exact ⟨K0,xa_is g2 g3,bm,g4,g5⟩
 xinj:=fun j k K e1 e2=>by
  obtain ⟨x,h1,h2⟩:=xa_inv e1
  obtain ⟨y,h3,h4⟩:=xa_inv e2
  have a1:(t.xs.map mg)[j]?=some (some (.ref K)):=by rw [List.getElem?_map,h1,←h2];rfl
  have a2:(t.xs.map mg)[k]?=some (some (.ref K)):=by rw [List.getElem?_map,h3,←h4];rfl
  have b1:=List.getElem?_eq_some_iff.mp a1
  have b2:=List.getElem?_eq_some_iff.mp a2
  exact (List.getElem_inj XF.2).mp (b1.2.trans b2.2.symm)
theorem top_xn (XF:XFacts t.xs mg h) {k:Nat}{x:Str}(e:t.sg.xn k=some x):∃K,(topG prog w h t mg cm).xa k=some K∧mg x=some (.ref K):=by
 obtain ⟨K,_,_,_,h1,_⟩:=XF.1 k x e
 exact ⟨K,xa_is e h1,h1⟩
theorem no_erc {C:Glo}{ρ:List Addr}{s s':Shared}{e:Value}{P:Prop}(hx:ErC C (fun _ _=>False) ρ s e s'):P:=by
 obtain ⟨_,_,_,_,_,_,_,_,_,_,hx⟩:=hx;exact hx.elim
end
end Internal
end
section
namespace Internal
open PySem PySem.W PyProof.Rows
section
variable {p:Program}{loose:List Str}{mean:ExcName→Option Value}{mg mb:Str→Option Value}{h:Heap}{prog:Program}{w:World}{t:Tabs}{cm:Nat→Str→Option Value}
noncomputable def CmOk (t:Tabs) (mg:Str→Option Value) (h:Heap) (cm:Nat→Str→Option Value):Prop:=∀k e,t.ct.lookup k=some e→∃K N,mg e.1=some (.ref K)∧ClsAt h K N (cm k)
inductive FdO (h:Heap) (v:Option Value) (ps:Arguments) (sc:Scope) (body:List Stmt):Prop
 | mk (a:Addr) (o:Obj) (fd:FuncData) (h1:v=some (.ref a)) (h2:h.get? a=some o) (h3:o.data=.func fd) (h4:h.CodeRec fd.code fd.qualname) (h5:fd.body=.stmts body) (h6:fd.closure=[]) (h7:fd.defaults=.none) (h8:fd.params=ps) (h9:fd.scope=sc) (h10:fd.globals=mainGlobals) (h11:fd.builtins=builtinsNs)
theorem fn_o (T:Top p loose mean mg mb h) {r:DefRec}(hr:r∈recsOf p):FdO h (mg r.name) r.params r.scope r.body:=by
 obtain ⟨a,o,pm,code,doc,h1,h2,h3,h4⟩:=T.fn r hr
 exact ⟨a,o,_,h1,h2,h3,h4,rfl,rfl,rfl,rfl,rfl,rfl,rfl⟩
theorem meth_o {c:ClsRec}{K N:Addr}{mN:Str→Option Value}(P:PlainAt h c K N mN) {m:MethRec}(hm:m∈c.meths):FdO h (mN m.name) m.params m.scope m.body:=by
 obtain ⟨a,o,pm,code,doc,h1,h2,_,h3,h4⟩:=P.meths m hm
 exact ⟨a,o,_,h1,h2,h3,h4,rfl,rfl,rfl,rfl,rfl,rfl,rfl⟩
theorem rec_at (hchk:tabOk (recsOf p) t=true) {f:Nat}{x:Str}{ns:List Str}{d:Fn}(e:t.tab.lookup f=some (x,ns,d)):∃r∈recsOf p,r.name=x∧chkRec t.sg (!t.hf f) ns d r.params r.scope r.body=true:=by
 unfold tabOk at hchk
 rw [List.all_eq_true] at hchk
 have:=hchk _ (lookup_mem e)
 rw [List.any_eq_true] at this
 obtain ⟨r,hr,h⟩:=this
 rw [Bool.and_eq_true] at h
 exact ⟨r,hr,eq_of_beq h.1,h.2⟩
theorem cls_one {K N N':Addr}{m m':Str→Option Value}(x:ClsAt h K N m) (y:ClsAt h K N' m'):m=m':=by
 obtain ⟨nm,q,bs,sn,sub,col,dd,k0,k1,k2,k3,k5,e⟩:=cls_o x
 obtain ⟨nm',q',bs',sn',sub',col',dd',l0,l1,l2,l3,l5,e'⟩:=cls_o y
 have hN:N=N':=by
  have:=congrArg Obj.data (same e e')
  injection this with q
  injection q
 subst hN
 exact ns_unique x.ns y.ns
theorem cls_at (TE:TopE p loose mg h) (hcm:CmOk t mg h cm) {k:Nat}{e:Str × List Str}(hk:t.ct.lookup k=some e) {c:ClsRec}(hc:c∈plainsOf p loose) (hn:c.name=e.1):∃K N,mg e.1=some (.ref K)∧PlainAt h c K N (cm k):=by
 obtain ⟨K,N,h1,h2⟩:=hcm k e hk
 obtain ⟨C,N',mN,h3,P⟩:=TE c hc
 rw [hn,h1] at h3;cases h3
 have:=cls_one P.cls h2
 subst this
 exact ⟨K,N',h1,P.ofCmp⟩
inductive MethAt (pl:List ClsRec) (t:Tabs) (f k:Nat) (x:Str) (ns:List Str) (d:Fn):Prop
 | mk (h0:(t.tab.lookup f).isNone=true) (ce:Str × List Str) (hce:t.ct.lookup k=some ce) (c:ClsRec) (hc:c∈pl) (hn:c.name=ce.1) (m:MethRec) (hm:m∈c.meths) (hmn:m.name=x) (hck:chkRec t.sg (!t.hf f) ns d m.params m.scope m.body=true)
theorem meth_at (hm:mtabOk (plainsOf p loose) t=true) {f k:Nat}{x:Str}{ns:List Str}{d:Fn}(e:t.mt.lookup f=some (k,x,ns,d)):MethAt (plainsOf p loose) t f k x ns d:=by
 unfold mtabOk at hm
 rw [List.all_eq_true] at hm
 have:=hm _ (lookup_mem e)
 rw [Bool.and_eq_true] at this
 obtain ⟨h0,h1⟩:=this
 obtain ⟨ce,hce,h1⟩:=onSome_true h1
 rw [List.any_eq_true] at h1
 obtain ⟨c,hc,h1⟩:=h1
 rw [Bool.and_eq_true] at h1
 obtain ⟨h2,h3⟩:=h1
 rw [List.any_eq_true] at h3
 obtain ⟨m,hm,h3⟩:=h3
 rw [Bool.and_eq_true] at h3
 exact ⟨h0,ce,hce,c,hc,eq_of_beq h2,m,hm,eq_of_beq h3.1,h3.2⟩
theorem cm_of (TE:TopE p loose mg h) (hct:ctOk (plainsOf p loose) t=true):∃cm,CmOk t mg h cm:=by
 refine Classical.axiomOfChoice (r:=fun k m=>∀e,t.ct.lookup k=some e→∃K N,mg e.1=some (.ref K)∧ClsAt h K N m) fun k=>?_
 cases hk:t.ct.lookup k with
 | none=>exact ⟨fun _=>none,fun e he=>by exact nos1 he⟩
 | some e=>
  unfold ctOk at hct
  rw [List.all_eq_true] at hct
  have:=hct _ (lookup_mem hk)
  rw [List.any_eq_true] at this
  obtain ⟨c,hc,h1⟩:=this
  rw [Bool.and_eq_true] at h1
  obtain ⟨C,N,mN,h3,P⟩:=TE c hc
  refine ⟨mN,fun e' he=>?_⟩
  obtain rfl:=Option.some.inj he
  exact ⟨C,N,by rw [←eq_of_beq h1.1];exact h3,P.cls⟩
theorem ct_at (hct:ctOk (plainsOf p loose) t=true) {k:Nat}{e:Str × List Str}(hk:t.ct.lookup k=some e):∃c∈plainsOf p loose,c.name=e.1∧∀x,e.2.contains x=true→x∈c.statics:=by
 unfold ctOk at hct
 rw [List.all_eq_true] at hct
 have:=hct _ (lookup_mem hk)
 rw [List.any_eq_true] at this
 obtain ⟨c,hc,h1⟩:=this
 rw [Bool.and_eq_true] at h1
 refine ⟨c,hc,eq_of_beq h1.1,fun x hx=>?_⟩
 have:=List.all_eq_true.mp h1.2 x (List.contains_iff_mem.mp hx)
 exact List.contains_iff_mem.mp this
theorem fa_fn {f:Nat}{x:Str}{ns:List Str}{d:Fn}(e:t.tab.lookup f=some (x,ns,d)) {a:Addr}(h1:mg x=some (.ref a)):(topG prog w h t mg cm).fa f=some a:=by
 show (match fnOf t.tab f with
  | some x=>refOf (mg x)
  | none=>_)=some a
 unfold fnOf
 rw [e]
 show refOf (mg x)=some a
 rw [h1];rfl
theorem fa_mt {f k:Nat}{x:Str}{ns:List Str}{d:Fn}(e0:(t.tab.lookup f).isNone=true) (e:t.mt.lookup f=some (k,x,ns,d)) {a:Addr}(h1:cm k x=some (.ref a)):(topG prog w h t mg cm).fa f=some a:=by
 show (match fnOf t.tab f with
  | some x=>refOf (mg x)
  | none=>match mtOf t.mt f with
   | some q=>refOf (cm q.1 q.2)
   | none=>none)=some a
 unfold fnOf mtOf
 rw [Option.isNone_iff_eq_none.mp e0,e]
 show refOf (cm k x)=some a
 rw [h1];rfl
theorem fa_inv {f:Nat}{a:Addr}(e:(topG prog w h t mg cm).fa f=some a):(∃x ns d,t.tab.lookup f=some (x,ns,d)∧mg x=some (.ref a))∨(t.tab.lookup f=none∧∃k x ns d,t.mt.lookup f=some (k,x,ns,d)∧cm k x=some (.ref a)):=by
 replace e:(match fnOf t.tab f with
  | some x=>refOf (mg x)
  | none=>match mtOf t.mt f with
   | some q=>refOf (cm q.1 q.2)
   | none=>none)=some a:=e
 unfold fnOf mtOf at e
 cases q:t.tab.lookup f with
 | some z=>
  obtain ⟨x,ns,d⟩:=z
  rw [q] at e
  exact .inl ⟨x,ns,d,rfl,refOf_eq e⟩
 | none=>
  rw [q] at e
  cases q2:t.mt.lookup f with
  | none=>rw [q2] at e;cases e
  | some z=>
   obtain ⟨k,x,ns,d⟩:=z
   rw [q2] at e
   exact .inr ⟨rfl,k,x,ns,d,rfl,refOf_eq e⟩
theorem ca_inv {k:Nat}{K:Addr}(e:(topG prog w h t mg cm).ca k=some K):∃ce,t.ct.lookup k=some ce∧mg ce.1=some (.ref K):=by
 replace e:(match t.ct.lookup k with
  | some e=>refOf (mg e.1)
  | none=>none)=some K:=e
 cases q:t.ct.lookup k with
 | none=>rw [q] at e;cases e
 | some ce=>rw [q] at e;exact ⟨ce,rfl,refOf_eq e⟩
theorem top_g (T:Top p loose mean mg mb h) (TE:TopE p loose mg h) (XF:XFacts t.xs mg h) (hcm:CmOk t mg h cm) (hi:importsNone p=true) (hchk:tabOk (recsOf p) t=true) (hm:mtabOk (plainsOf p loose) t=true) (hct:ctOk (plainsOf p loose) t=true):GOk (topG prog w h t mg cm) where
 sys:=by
  obtain ⟨mm,⟨o,es,ep,e,_⟩,_⟩:=(T.seer hi).mods
  show (h.get? sysModules).isSome=true
  rw [e];rfl
 nolimit:=T.nolimit
 fns:=fun f a e=>by
  rcases fa_inv e with ⟨x,ns,d,e1,e2⟩ | ⟨_,k,x,ns,d,e1,e2⟩
  ·obtain ⟨r,hr,rfl,_⟩:=rec_at hchk e1
   obtain ⟨a',o,fd,h1,h2,h3⟩:=fn_o T hr
   rw [e2] at h1;cases h1
   exact ⟨o,_,h2,h3⟩
  ·obtain ⟨_,ce,hce,c,hc,hn,m,hm,rfl,_⟩:=meth_at hm e1
   obtain ⟨K,N,_,P⟩:=cls_at TE hcm hce hc hn
   obtain ⟨a',o,fd,h1,h2,h3⟩:=meth_o P hm
   rw [e2] at h1;cases h1
   exact ⟨o,_,h2,h3⟩
 cls:=fun k K e=>by
  obtain ⟨ce,h1,h2⟩:=ca_inv e
  obtain ⟨K',N,h3,h4⟩:=hcm k ce h1
  rw [h2] at h3;cases h3
  exact ⟨N,h4⟩
 quiet:=fun k K e=>by
  obtain ⟨ce,h1,h2⟩:=ca_inv e
  obtain ⟨c,hc,hn,_⟩:=ct_at hct h1
  obtain ⟨K',N,_,P⟩:=cls_at TE hcm h1 hc hn
  exact ⟨P.quiet _ (List.mem_append_left _ (.head _)),P.quiet _ (List.mem_append_left _ (.tail _ (.head _))),P.quiet _ (List.mem_append_left _ (.tail _ (.tail _ (.head _))))⟩
 x:=top_x XF
theorem rec_is {C:Glo}{z:Sg}{nh:Bool}{ns:List Str}{d:Fn}{a:Addr}{v:Option Value}{ps:Arguments}{sc:Scope}{body:List Stmt}(fo:FdO C.base v ps sc body) (hv:v=some (.ref a)) (hc:chkRec z nh ns d ps sc body=true) (hg:Globs C mainGlobals builtinsNs z):FnIs C z nh d a:=by
 obtain ⟨a',o,fd,h1,ho,hd,hcr,hb,hcl,hdf,rfl,rfl,h10,h11⟩:=fo
 obtain rfl:a=a':=by rw [hv] at h1;exact Value.ref.inj (Option.some.inj h1)
 obtain ⟨hc,c10⟩:=and_t hc
 obtain ⟨hc,c9⟩:=and_t hc
 obtain ⟨hc,c8⟩:=and_t hc
 obtain ⟨hc,c7⟩:=and_t hc
 obtain ⟨hc,c6⟩:=and_t hc
 obtain ⟨hc,c5⟩:=and_t hc
 obtain ⟨hc,c4⟩:=and_t hc
 obtain ⟨hc,c3⟩:=and_t hc
 obtain ⟨c1,c2⟩:=and_t hc
 have hnd:(fd.params.args.map (·.arg)).Nodup:=by
  have:=(and_t (and_t c9).1)
  exact (of_decide_eq_true this.2).sublist (List.isPrefixOf_iff_prefix.mp this.1).sublist
 exact ⟨o,fd,body,fd.params.args.map (fun x:Arg=>x.arg),ns,ho,hd,hcr,hb,hcl,not_t c5,not_t c6,eq_of_beq c7,fun vals hv=>bind_plain (List.isEmpty_iff.mp c1) (Option.isNone_iff_eq_none.mp c2) (List.isEmpty_iff.mp c3) (Option.isNone_iff_eq_none.mp c4) hdf hnd hv,eq_of_beq c8,c9,c10,by rw [h10,h11];exact hg⟩
theorem top_f (T:Top p loose mean mg mb h) (TE:TopE p loose mg h) (XF:XFacts t.xs mg h) (hcm:CmOk t mg h cm) (hchk:tabOk (recsOf p) t=true) (hm:mtabOk (plainsOf p loose) t=true) (hct:ctOk (plainsOf p loose) t=true) (hb:bltOk p loose=true)
  (hgl:∀g x v,t.gl g=some (x,v)→∃u,mg x=some u∧∀ρ h',h.StaysIn h'→Rep (topG prog w h t mg cm) ρ h' v u):FnsOk (topG prog w h t mg cm) t.sg t.P:=by
 have hG:Globs (topG prog w h t mg cm) mainGlobals builtinsNs t.sg:=by
  refine ⟨mg,mb,T.g,T.b,fun f' x' e'=>?_,hgl,fun x' v' hm=>?_,fun k x e=>?_,fun k x e=>?_⟩
  ·obtain ⟨⟨y,ns,d⟩,q,rfl⟩:=Option.map_eq_some_iff.mp e'
   obtain ⟨r,hr,hrn,_⟩:=rec_at hchk q
   obtain ⟨a,_,_,g1,_⟩:=fn_o T hr
   rw [hrn] at g1
   exact ⟨a,fa_fn q g1,g1⟩
  ·have:=List.all_eq_true.mp hb _ hm
   obtain ⟨hc,b7⟩:=and_t this
   obtain ⟨hc,b6⟩:=and_t hc
   obtain ⟨hc,b5⟩:=and_t hc
   obtain ⟨hc,b4⟩:=and_t hc
   obtain ⟨hc,b3⟩:=and_t hc
   obtain ⟨b1,b2⟩:=and_t hc
   have no:∀{l:List Str},(!l.contains x')=true→x'∉l:=fun q hx=>by
    have q:=not_t q
    rw [List.contains_iff_mem.mpr hx] at q;exact tf q
   refine ⟨T.free x' (no b1) (no b2) (no b3) (no b4) (no b5),?_⟩
   rw [T.builtins x' fun e=>by
    have q:=not_t b6
    rw [beq_iff_eq.mpr e] at q;exact tf q]
   obtain ⟨u,h1,h2⟩:=onSome_true b7
   exact h1.trans (congrArg some (eqV_eq h2).symm)
  ·obtain ⟨ce,q,rfl⟩:=Option.map_eq_some_iff.mp e
   obtain ⟨K,N,h1,_⟩:=hcm k ce q
   refine ⟨K,?_,h1⟩
   show (match t.ct.lookup k with
    | some e=>refOf (mg e.1)
    | none=>none)=some K
   rw [q]
   show refOf (mg ce.1)=some K
   rw [h1];rfl
  ·exact top_xn XF e
 refine ⟨⟨fun f k x e=>?_,fun k x e=>?_,rfl⟩,fun f d a hP e=>?_⟩
 ·obtain ⟨⟨k',x',ns,d⟩,q,e⟩:=Option.map_eq_some_iff.mp e
  obtain ⟨rfl,rfl⟩:=Prod.mk.inj e
  obtain ⟨h0,ce,hce,c,hc,hn,m,hm,hmn,_⟩:=meth_at hm q
  obtain ⟨K,N,_,P⟩:=cls_at TE hcm hce hc hn
  obtain ⟨a',o,pm,cd,doc,h1,h2,h3,_⟩:=P.meths m hm
  rw [hmn] at h1
  exact ⟨a',fa_mt h0 q h1,h1,o,h2,h3⟩
 ·replace e:(match t.ct.lookup k with
   | some e=>e.2.contains x
   | none=>false)=true:=e
  cases q:t.ct.lookup k with
  | none=>rw [q] at e;exact ff e
  | some ce=>
   rw [q] at e
   obtain ⟨c,hc,hn,hq⟩:=ct_at hct q
   obtain ⟨K',N,_,P⟩:=cls_at TE hcm q hc hn
   exact P.quiet _ (List.mem_append_right _ (hq x e))
 ·replace hP:(fnP t.tab f).or (mtP t.mt f)=some d:=hP
  unfold fnP mtP at hP
  rcases fa_inv e with ⟨x,ns,d',e1,e2⟩ | ⟨e0,k,x,ns,d',e1,e2⟩
  ·rw [e1] at hP
   obtain rfl:d'=d:=Option.some.inj hP
   obtain ⟨r,hr,hrn,hc⟩:=rec_at hchk e1
   exact rec_is (C:=topG prog w h t mg cm) (fn_o T hr) (by rw [hrn];exact e2) hc hG
  ·rw [e0,e1] at hP
   obtain rfl:d'=d:=Option.some.inj hP
   obtain ⟨_,ce,hce,c,hc,hn,m,hm,hmn,hck⟩:=meth_at hm e1
   obtain ⟨K,N,_,P⟩:=cls_at TE hcm hce hc hn
   exact rec_is (C:=topG prog w h t mg cm) (meth_o P hm) (by rw [hmn];exact e2) hck hG
theorem scr_of {P:Params}{a:Addr}{vs:List Value}{is:List Int}{xs:List WData}(W:Well P h (.ref a) (.list xs)) (hl:h.IsList a vs.toArray) (hI:IntsAre vs is) (hz:is.length≤line) {ρ:List Addr}{h':Heap} :
  Rep (topG prog w h t mg cm) ρ h' (.scr is) (.ref a):=by
 cases W with
 | @list _ us _ e _=>
  obtain ⟨o,e',hc,n,hd⟩:=hl
  obtain rfl:=same e e'
  simp only [Data.seq.injEq] at hd
  have:us=vs:=by simpa using hd.1
  subst this
  exact .scr e hI hz
theorem law_call (T:Top p loose mean mg mb h) (TE:TopE p loose mg h) (XF:XFacts t.xs mg h) (hcm:CmOk t mg h cm) (hi:importsNone p=true) (hchk:tabOk (recsOf p) t=true) (hm:mtabOk (plainsOf p loose) t=true) (hct:ctOk (plainsOf p loose) t=true) (hb:bltOk p loose=true)
  (hgl:∀g x v,t.gl g=some (x,v)→∃u,mg x=some u∧∀ρ h',h.StaysIn h'→Rep (topG prog w h t mg cm) ρ h' v u)
  {s:Shared}(hs:s.heap=h) (hg:s.gens=#[]) {f:Nat}{x:Str}{ns:List Str}{d:Fn}(hf:t.tab.lookup f=some (x,ns,d)) {fa:Addr}(hmg:mg x=some (.ref fa)) (hd:d.args=1) {is:List Int}{a:Addr}
  (hr:Rep (topG prog w h t mg cm) [] h (.scr is) (.ref a)) (hlaw:∀K:KT,Closed t.P K→wpSs K 600 d.body (fin fun v _=>v=.bool true) (fun _ _=>False) (start d [.scr is] [])) {E:Value→Shared→Prop}{Q:Value→Shared→Prop}
  (hQ:∀s',(∀b o,h.get? b=some o→s'.heap.get? b=some o)→s'.os=s.os→s'.gens=#[]→Q (.bool true) s'):wpAny (model prog w) callerA (call (.ref fa) [.ref a]) Q E s:=by
 subst hs
 have G:GOk (topG prog w s.heap t mg cm):=top_g T TE XF hcm hi hchk hm hct
 have H:FnsOk (topG prog w s.heap t mg cm) t.sg t.P:=top_f T TE XF hcm hchk hm hct hb hgl
 have hfa:(topG prog w s.heap t mg cm).fa f=some fa:=fa_fn hf hmg
 have hP:t.P f=some d:=by
  show (fnP t.tab f).or (mtP t.mt f)=some d
  unfold fnP
  rw [hf];rfl
 have hH:Hp (topG prog w s.heap t mg cm) [] [] s.heap:=⟨fun b o e=>e,rfl,List.nodup_nil,fun _ h=>(by exact nomem h),fun i o a e=>(by simp at e)⟩
 refine wpAny_mono (call_core (C:=topG prog w s.heap t mg cm) (X:=fun _ _=>False) G H hP (vs:=[.scr is]) (by rw [hd];rfl) (hlaw _ (closed G H)) (A:=callerA) (.inl rfl) hH hg (.cons hr .nil) (frs:=[]) ⟨[],rfl,fun e he=>(by exact nomem he)⟩ (fun L hL=>(by exact nomem hL)) (by show 1+300+601≤999;exact nb rfl) (by show 4≤3 * 301+4;exact nb rfl) hfa)
  (fun v s' hr=>?_) fun e s' hx=>no_erc hx
 obtain ⟨ρ',hp',y,st,hH',ry,hq⟩:=hr
 subst hq
 cases ry
 exact hQ s' hH'.base st.os (st.gens.trans hg)
theorem post_true (l:OpenLaw) (args ds:List WData):l.row.toRowW.claim.post args (.bool true) ds=true:=by
 show (WShape.has [] (.bool true) .bool&&WTm.holds [] (.eq .res (.lit (.bool true))) _)=true
 rw [Bool.and_eq_true]
 have e:W.same (WData.bool true) (WData.bool true)=true:=by decide +kernel
 refine ⟨by decide +kernel,?_⟩
 unfold WTm.holds
 simp [WTm.value,e]
end
end Internal
end
section
namespace Internal
open PySem PySem.W PyProof.Rows
section
variable {p:Program}{loose:List Str}{mean:ExcName→Option Value}{mg mb:Str→Option Value}{h:Heap}{prog:Program}{w w':World}{t:Tabs}{cm:Nat→Str→Option Value}
noncomputable def GlOk (prog:Program) (w:World) (h:Heap) (t:Tabs) (mg:Str→Option Value) (cm:Nat→Str→Option Value) (x:Str) (v:MV):Prop:=∃u,mg x=some u∧∀ρ h',h.StaysIn h'→Rep (topG prog w h t mg cm) ρ h' v u
noncomputable def isI (o:Option PyData) (i:Int):Bool:=match o with
 | some (.int j)=>j==i
 | _=>false
theorem isI_eq {o:Option PyData}{i:Int}(h:isI o i=true):o=some (.int i):=by
 cases o with
 | none=>exact ff h
 | some d=>
  cases d with
  | int j=>exact congrArg (fun j=>some (PyData.int j)) (eq_of_beq h)
  | _=>exact ff h
noncomputable def isT (o:Option PyData) (s:List Nat):Bool:=match o with
 | some (.str x)=>x.cps.toList==s
 | _=>false
theorem isT_eq {o:Option PyData}{s:List Nat}(h:isT o s=true):o=some (.str (str s)):=by
 cases o with
 | none=>exact ff h
 | some d=>
  cases d with
  | str x=>obtain rfl:=eq_of_beq h;rfl
  | _=>exact ff h
theorem gl_int (T:Top p loose mean mg mb h) {x:Str}{i:Int}(e:isI (valOf p x) i=true):GlOk prog w h t mg cm x (.int i):=by
 obtain ⟨v,h1,h2⟩:=T.const x _ (isI_eq e)
 refine ⟨v,h1,fun ρ h' _=>?_⟩
 cases h2 h'
 exact .int _ _
theorem gl_str (T:Top p loose mean mg mb h) {x:Str}{s:List Nat}(e:isT (valOf p x) s=true) (hs:s.length≤line):GlOk prog w h t mg cm x (.str s):=by
 obtain ⟨v,h1,h2⟩:=T.const x _ (isT_eq e)
 refine ⟨v,h1,fun ρ h' _=>?_⟩
 cases h2 h'
 exact .str _ _ hs
theorem gl_tup (B:Tables p w' mg h) {x:Str}{ss:List (List Nat)}(e:tupStrsOf p x=some (ss.map fun s=>(str s:Str))) (hs:∀s∈ss,s.length≤line):GlOk prog w h t mg cm x (.gt ss):=by
 obtain ⟨a,vs,h1,⟨o,h2,h3,n,h4⟩,h5⟩:=B.tupS x _ e
 refine ⟨.ref a,h1,fun ρ h' _=>.gt h2 h3 h4 ?_⟩
 clear e h1 h2 h3 h4
 induction ss generalizing vs with
 | nil=>cases h5;exact .nil
 | cons s ss ih=>
  cases h5 with
  | cons _ t r=>exact .cons (.str _ _ (hs s (List.mem_cons_self ..))) (ih (fun x hx=>hs x (List.mem_cons_of_mem _ hx)) _ r)
theorem gl_dict (T:Top p loose mean mg mb h) {x:Str}{es:List (List Nat × Int)}(y:thSays x es prog w h):GlOk prog w h t mg cm x (.cdict es):=by
 obtain ⟨mg',a,kvs,h1,h2,h3,h4,h5⟩:=y
 cases ns_unique h1 T.g
 exact ⟨.ref a,h2,fun ρ h' _=>.cdict h3 h4 h5⟩
end
end Internal
end
section
namespace Internal
open PySem
noncomputable def fn_is_whole:Fn:=⟨2,2,[.ret (.and [.isi (.var 0) [.int],.not (.isi (.var 0) [.bool]),.cmp2 .le .le (.cst (.int 0)) (.var 0) (.var 1)])]⟩
noncomputable def fn_is_number:Fn:=⟨1,1,[.ret (.call 22 [.var 0,.bin .sub (.glob 0 (.int 1000000)) (.cst (.int 1))])]⟩
noncomputable def fn_is_name:Fn:=⟨1,2,[.ite (.or [.not (.isi (.var 0) [.str]),.not (.cmp2 .le .le (.cst (.int 1)) (.blt .len [.var 0]) (.glob 5 (.int 8))),.cmp .inn (.var 0) (.glob 1 (.gt [[115,101,116],[116,101,108,108],[115,107,105,112],[105,102],[101,108,115,101],[119,104,105,108,101],[101,110,100]]))]) [.ret (.cst (.bool false))] [],.ite (.cmp .nin (.idx (.var 0) (.cst (.int 0))) (.glob 3 (.str [97,98,99,100,101,102,103,104,105,106,107,108,109,110,111,112,113,114,115,116,117,118,119,120,121,122]))) [.ret (.cst (.bool false))] [],.for_ [1] false .val [.var 0] [.ite (.and [.cmp .nin (.var 1) (.glob 3 (.str [97,98,99,100,101,102,103,104,105,106,107,108,109,110,111,112,113,114,115,116,117,118,119,120,121,122])),.cmp .nin (.var 1) (.glob 4 (.str [48,49,50,51,52,53,54,55,56,57]))]) [.ret (.cst (.bool false))] []],.ret (.cst (.bool true))]⟩
noncomputable def fn_blocks_in:Fn:=⟨1,1,[.ite (.cmp .eq (.idx (.var 0) (.cst (.int 0))) (.cst (.str [105,102]))) [.ret (.list [.idx (.var 0) (.cst (.int 2)),.idx (.var 0) (.cst (.int 3))])] [],.ite (.cmp .eq (.idx (.var 0) (.cst (.int 0))) (.cst (.str [119,104,105,108,101]))) [.ret (.list [.idx (.var 0) (.cst (.int 2))])] [],.ret (.list [])]⟩
noncomputable def fn_formula_of:Fn:=⟨1,1,[.ite (.cmp .eq (.idx (.var 0) (.cst (.int 0))) (.cst (.str [115,107,105,112]))) [.ret (.cst .none)] [],.ite (.cmp .eq (.idx (.var 0) (.cst (.int 0))) (.cst (.str [115,101,116]))) [.ret (.idx (.var 0) (.cst (.int 2)))] [],.ret (.idx (.var 0) (.cst (.int 1)))]⟩
noncomputable def fn_formula_text:Fn:=⟨1,1,[.ite (.cmp .eq (.blt .len [.var 0]) (.cst (.int 2))) [.ret (.blt .str [.idx (.var 0) (.cst (.int 1))])] [],.ret (.bin .add (.bin .add (.bin .add (.bin .add (.idx (.var 0) (.cst (.int 0))) (.cst (.str [32]))) (.call 27 [.idx (.var 0) (.cst (.int 1))])) (.cst (.str [32]))) (.call 27 [.idx (.var 0) (.cst (.int 2))]))]⟩
noncomputable def fn_row_lines:Fn:=⟨1,4,[.ite (.cmp .eq (.idx (.var 0) (.cst (.int 0))) (.cst (.str [115,107,105,112]))) [.ret (.list [.cst (.str [115,107,105,112])])] [],.ite (.cmp .eq (.idx (.var 0) (.cst (.int 0))) (.cst (.str [115,101,116]))) [.ret (.list [.bin .add (.bin .add (.bin .add (.cst (.str [115,101,116,32])) (.idx (.var 0) (.cst (.int 1)))) (.cst (.str [32]))) (.call 27 [.idx (.var 0) (.cst (.int 2))])])] [],.asg [1] false (.list [.bin .add (.bin .add (.idx (.var 0) (.cst (.int 0))) (.cst (.str [32]))) (.call 27 [.call 26 [.var 0]])]),.asg [2] false (.call 25 [.var 0]),.for_ [3] false .range1 [.blt .len [.var 2]] [.ite (.cmp .gt (.var 3) (.cst (.int 0))) [.expr (.mth .append (.var 1) [.cst (.str [101,108,115,101])])] [],.expr (.mth .extend (.var 1) [.call 29 [.idx (.var 2) (.var 3)]])],.ite (.cmp .ne (.var 2) (.list [])) [.expr (.mth .append (.var 1) [.cst (.str [101,110,100])])] [],.ret (.var 1)]⟩
noncomputable def fn_written:Fn:=⟨1,3,[.asg [1] false (.list []),.for_ [2] false .val [.var 0] [.expr (.mth .extend (.var 1) [.call 28 [.var 2]])],.ret (.var 1)]⟩
noncomputable def fn_leaf_of:Fn:=⟨1,3,[.ite (.call 24 [.var 0]) [.ret (.tup [.cst (.str [110,97,109,101]),.var 0])] [],.ite (.or [.not (.cmp2 .le .le (.cst (.int 1)) (.blt .len [.var 0]) (.glob 8 (.int 6))),.and [.cmp .eq (.idx (.var 0) (.cst (.int 0))) (.cst (.str [48])),.cmp .ne (.var 0) (.cst (.str [48]))]]) [.raise 7] [],.for_ [1] false .val [.var 0] [.ite (.cmp .nin (.var 1) (.glob 4 (.str [48,49,50,51,52,53,54,55,56,57]))) [.raise 7] []],.asg [2] false (.blt .int [.var 0]),.ite (.not (.call 23 [.var 2])) [.raise 7] [],.ret (.tup [.cst (.str [110,117,109,98,101,114]),.var 2])]⟩
noncomputable def fn_formula_from:Fn:=⟨3,8,[.ite (.or [.cmp .ge (.var 1) (.blt .len [.var 0]),.cmp .gt (.var 2) (.glob 6 (.int 12))]) [.raise 7] [],.asg [3] false (.idx (.var 0) (.var 1)),.ite (.cmp .nin (.var 3) (.glob 2 (.gt [[43],[45],[42],[47],[60],[61]]))) [.ret (.tup [.call 30 [.var 3],.bin .add (.var 1) (.cst (.int 1))])] [],.asg [4,5] true (.call 31 [.var 0,.bin .add (.var 1) (.cst (.int 1)),.bin .add (.var 2) (.cst (.int 1))]),.asg [6,7] true (.call 31 [.var 0,.var 5,.bin .add (.var 2) (.cst (.int 1))]),.ret (.tup [.tup [.var 3,.var 4,.var 6],.var 7])]⟩
noncomputable def fn_whole_formula:Fn:=⟨1,3,[.asg [1,2] true (.call 31 [.var 0,.cst (.int 0),.cst (.int 1)]),.ite (.cmp .ne (.var 2) (.blt .len [.var 0])) [.raise 7] [],.ret (.var 1)]⟩
noncomputable def fn_need_line:Fn:=⟨3,3,[.ite (.or [.cmp .ge (.var 1) (.blt .len [.var 0]),.cmp .ne (.idx (.var 0) (.var 1)) (.var 2)]) [.raise 7] []]⟩
noncomputable def fn_row_from:Fn:=⟨3,10,[.ite (.cmp .gt (.var 2) (.glob 7 (.int 8))) [.raise 7] [],.asg [3] false (.mth .split (.idx (.var 0) (.var 1)) [.cst (.str [32])]),.ite (.cmp .eq (.var 3) (.list [.cst (.str [115,107,105,112])])) [.ret (.tup [.tup [.cst (.str [115,107,105,112])],.bin .add (.var 1) (.cst (.int 1))])] [],.ite (.and [.cmp .eq (.idx (.var 3) (.cst (.int 0))) (.cst (.str [115,101,116])),.cmp .gt (.blt .len [.var 3]) (.cst (.int 1)),.call 24 [.idx (.var 3) (.cst (.int 1))]]) [.ret (.tup [.tup [.cst (.str [115,101,116]),.idx (.var 3) (.cst (.int 1)),.call 32 [.sl (.var 3) (some (.cst (.int 2))) none]],.bin .add (.var 1) (.cst (.int 1))])] [],.ite (.cmp .eq (.idx (.var 3) (.cst (.int 0))) (.cst (.str [116,101,108,108]))) [.ret (.tup [.tup [.cst (.str [116,101,108,108]),.call 32 [.sl (.var 3) (some (.cst (.int 1))) none]],.bin .add (.var 1) (.cst (.int 1))])] [],.ite (.cmp .eq (.idx (.var 3) (.cst (.int 0))) (.cst (.str [119,104,105,108,101]))) [.asg [4] false (.call 32 [.sl (.var 3) (some (.cst (.int 1))) none]),.asg [5,6] true (.call 35 [.var 0,.bin .add (.var 1) (.cst (.int 1)),.bin .add (.var 2) (.cst (.int 1))]),.expr (.call 33 [.var 0,.var 6,.cst (.str [101,110,100])]),.ret (.tup [.tup [.cst (.str [119,104,105,108,101]),.var 4,.var 5],.bin .add (.var 6) (.cst (.int 1))])] [],.ite (.cmp .ne (.idx (.var 3) (.cst (.int 0))) (.cst (.str [105,102]))) [.raise 7] [],.asg [4] false (.call 32 [.sl (.var 3) (some (.cst (.int 1))) none]),.asg [7,8] true (.call 35 [.var 0,.bin .add (.var 1) (.cst (.int 1)),.bin .add (.var 2) (.cst (.int 1))]),.expr (.call 33 [.var 0,.var 8,.cst (.str [101,108,115,101])]),.asg [9,6] true (.call 35 [.var 0,.bin .add (.var 8) (.cst (.int 1)),.bin .add (.var 2) (.cst (.int 1))]),.expr (.call 33 [.var 0,.var 6,.cst (.str [101,110,100])]),.ret (.tup [.tup [.cst (.str [105,102]),.var 4,.var 7,.var 9],.bin .add (.var 6) (.cst (.int 1))])]⟩
noncomputable def fn_block_from:Fn:=⟨3,5,[.asg [3] false (.list []),.while_ (.and [.cmp .lt (.var 1) (.blt .len [.var 0]),.cmp .ne (.idx (.var 0) (.var 1)) (.cst (.str [101,108,115,101])),.cmp .ne (.idx (.var 0) (.var 1)) (.cst (.str [101,110,100]))]) [.asg [4,1] true (.call 34 [.var 0,.var 1,.var 2]),.expr (.mth .append (.var 3) [.var 4])],.ret (.tup [.blt .tuple [.var 3],.var 1])]⟩
noncomputable def fn_read:Fn:=⟨1,3,[.asg [1,2] true (.call 35 [.var 0,.cst (.int 0),.cst (.int 1)]),.ite (.cmp .ne (.var 2) (.blt .len [.var 0])) [.raise 7] [],.ret (.var 1)]⟩
noncomputable def fn_law_cell_at:Fn:=⟨2,2,[.ite (.cmp .lt (.var 1) (.blt .len [.var 0])) [.ret (.idx (.var 0) (.var 1))] [],.ret (.cst (.int 0))]⟩
noncomputable def fn_law_mixed:Fn:=⟨1,1,[.ret (.bin .mod (.bin .add (.bin .mul (.var 0) (.cst (.int 48271))) (.cst (.int 7919))) (.cst (.int 2147483647)))]⟩
noncomputable def fn_law_name_by:Fn:=⟨1,4,[.asg [1] false (.idx (.cst (.str [97,98,99,100,101,102,103,104,105,106,107,108,109,110,111,112,113,114,115,116,117,118,119,120,121,122])) (.bin .mod (.bin .fdiv (.var 0) (.cst (.int 8))) (.cst (.int 26)))),.asg [2] false (.var 0),.for_ [3] false .range1 [.bin .mod (.var 0) (.cst (.int 8))] [.asg [2] false (.call 6 [.var 2]),.asg [1] false (.bin .add (.var 1) (.idx (.cst (.str [97,98,99,100,101,102,103,104,105,106,107,108,109,110,111,112,113,114,115,116,117,118,119,120,121,122,48,49,50,51,52,53,54,55,56,57])) (.bin .mod (.var 2) (.cst (.int 36)))))],.ite (.cmp .inn (.var 1) (.list [.cst (.str [115,101,116]),.cst (.str [116,101,108,108]),.cst (.str [115,107,105,112]),.cst (.str [105,102]),.cst (.str [101,108,115,101]),.cst (.str [119,104,105,108,101]),.cst (.str [101,110,100])])) [.ret (.bin .add (.var 1) (.cst (.str [48])))] [],.ret (.var 1)]⟩
noncomputable def fn_law_twin:Fn:=⟨2,6,[.asg [2] false (.cst (.str [97,98,99,100,101,102,103,104,105,106,107,108,109,110,111,112,113,114,115,116,117,118,119,120,121,122])),.asg [3] false (.bin .mod (.var 1) (.blt .len [.var 0])),.ite (.cmp .gt (.var 3) (.cst (.int 0))) [.asg [2] false (.bin .add (.var 2) (.cst (.str [48,49,50,51,52,53,54,55,56,57])))] [],.asg [4] false (.bin .add (.bin .add (.mth .find (.var 2) [.idx (.var 0) (.var 3)]) (.cst (.int 1))) (.bin .mod (.bin .fdiv (.var 1) (.cst (.int 8))) (.bin .sub (.blt .len [.var 2]) (.cst (.int 1))))),.asg [5] false (.bin .add (.bin .add (.sl (.var 0) none (some (.var 3))) (.idx (.var 2) (.bin .mod (.var 4) (.blt .len [.var 2])))) (.sl (.var 0) (some (.bin .add (.var 3) (.cst (.int 1)))) none)),.ite (.cmp .inn (.var 5) (.list [.cst (.str [115,101,116]),.cst (.str [116,101,108,108]),.cst (.str [115,107,105,112]),.cst (.str [105,102]),.cst (.str [101,108,115,101]),.cst (.str [119,104,105,108,101]),.cst (.str [101,110,100])])) [.ret (.bin .add (.var 5) (.cst (.str [48])))] [],.ret (.var 5)]⟩
noncomputable def fn_law_names:Fn:=⟨2,5,[.asg [2] false (.list []),.for_ [3] false .range1 [.cst (.int 10)] [.asg [0] false (.call 6 [.var 0]),.asg [4] false (.call 7 [.bin .fdiv (.var 0) (.cst (.int 5))]),.ite (.and [.cmp .eq (.bin .mod (.var 3) (.cst (.int 2))) (.cst (.int 1)),.cmp .eq (.bin .mod (.bin .fdiv (.var 1) (.cst (.int 4))) (.cst (.int 2))) (.cst (.int 1))]) [.asg [4] false (.call 8 [.idx (.var 2) (.bin .sub (.var 3) (.cst (.int 1))),.call 6 [.bin .add (.var 1) (.var 3)]])] [],.while_ (.or [.cmp .inn (.var 4) (.var 2),.cmp .inn (.var 4) (.list [.cst (.str [115,101,116]),.cst (.str [116,101,108,108]),.cst (.str [115,107,105,112]),.cst (.str [105,102]),.cst (.str [101,108,115,101]),.cst (.str [119,104,105,108,101]),.cst (.str [101,110,100])])]) [.asg [4] false (.bin .add (.sl (.var 4) none (some (.cst (.int 7)))) (.idx (.cst (.str [97,98,99,100,101,102,103,104,105,106,107,108,109,110,111,112,113,114,115,116,117,118,119,120,121,122])) (.bin .mod (.bin .add (.bin .add (.var 1) (.blt .len [.var 4])) (.var 3)) (.cst (.int 26))))),.asg [1] false (.bin .add (.var 1) (.cst (.int 5)))],.expr (.mth .append (.var 2) [.var 4])],.ret (.var 2)]⟩
noncomputable def fn_law_end_by:Fn:=⟨2,2,[.ite (.and [.cmp .ne (.var 1) (.list []),.cmp .gt (.bin .mod (.var 0) (.cst (.int 3))) (.cst (.int 0))]) [.ret (.tup [.cst (.str [110,97,109,101]),.idx (.var 1) (.bin .mod (.bin .fdiv (.var 0) (.cst (.int 3))) (.blt .len [.var 1]))])] [],.ite (.cmp .eq (.bin .mod (.bin .fdiv (.var 0) (.cst (.int 3))) (.cst (.int 4))) (.cst (.int 0))) [.ret (.tup [.cst (.str [110,117,109,98,101,114]),.bin .mod (.bin .fdiv (.var 0) (.cst (.int 12))) (.bin .pow (.cst (.int 10)) (.cst (.int 6)))])] [],.ret (.tup [.cst (.str [110,117,109,98,101,114]),.bin .mod (.bin .fdiv (.var 0) (.cst (.int 12))) (.cst (.int 5))])]⟩
noncomputable def fn_law_formula_by:Fn:=⟨5,7,[.asg [0] false (.call 6 [.var 0]),.ite (.or [.cmp .eq (.var 4) (.cst (.int 1)),.cmp .lt (.bin .mod (.var 0) (.cst (.int 8))) (.cst (.int 3))]) [.ret (.call 10 [.bin .fdiv (.var 0) (.cst (.int 8)),.var 1])] [],.asg [5] false (.idx (.list [.cst (.str [43]),.cst (.str [45]),.cst (.str [42]),.cst (.str [60]),.cst (.str [61]),.cst (.str [43]),.cst (.str [45]),.cst (.str [60]),.cst (.str [47]),.cst (.str [47])]) (.bin .mod (.bin .fdiv (.var 0) (.cst (.int 8))) (.idx (.list [.cst (.int 8),.cst (.int 10)]) (.blt .int [.var 3])))),.asg [6] false (.call 11 [.bin .add (.bin .mul (.var 0) (.cst (.int 3))) (.cst (.int 1)),.var 1,.var 2,.var 3,.bin .sub (.var 4) (.cst (.int 1))]),.ite (.and [.cmp .eq (.var 5) (.cst (.str [47])),.cmp .lt (.bin .mod (.bin .fdiv (.var 0) (.cst (.int 80))) (.cst (.int 4))) (.cst (.int 3))]) [.ret (.tup [.var 5,.var 6,.tup [.cst (.str [110,117,109,98,101,114]),.bin .add (.cst (.int 1)) (.bin .mod (.bin .fdiv (.var 0) (.cst (.int 320))) (.cst (.int 9)))]])] [],.ite (.cmp .eq (.var 5) (.cst (.str [47]))) [.ret (.tup [.var 5,.var 6,.call 11 [.bin .add (.bin .mul (.var 0) (.cst (.int 5))) (.cst (.int 2)),.var 2,.var 2,.var 3,.bin .sub (.var 4) (.cst (.int 1))]])] [],.ret (.tup [.var 5,.var 6,.call 11 [.bin .add (.bin .mul (.var 0) (.cst (.int 5))) (.cst (.int 2)),.var 1,.var 2,.var 3,.bin .sub (.var 4) (.cst (.int 1))]])]⟩
noncomputable def fn_law_all_names:Fn:=⟨1,1,[.ite (.cmp .eq (.idx (.var 0) (.cst (.int 0))) (.cst (.str [110,117,109,98,101,114]))) [.ret (.list [])] [],.ite (.cmp .eq (.idx (.var 0) (.cst (.int 0))) (.cst (.str [110,97,109,101]))) [.ret (.list [.idx (.var 0) (.cst (.int 1))])] [],.ret (.bin .add (.call 37 [.idx (.var 0) (.cst (.int 1))]) (.call 37 [.idx (.var 0) (.cst (.int 2))]))]⟩
noncomputable def fn_law_row_by:Fn:=⟨4,8,[.asg [4] false (.sl (.var 0) none (some (.cst (.int 5)))),.asg [5] false (.var 0),.ite (.or [.and [.cmp .eq (.var 3) (.cst (.int 0)),.cmp .eq (.bin .mod (.bin .fdiv (.var 1) (.cst (.int 12))) (.cst (.int 2))) (.cst (.int 0))],.and [.cmp .eq (.var 3) (.cst (.int 2)),.var 2,.cmp .gt (.bin .mod (.bin .fdiv (.var 1) (.cst (.int 12))) (.cst (.int 3))) (.cst (.int 0))]]) [.asg [5] false (.var 4)] [.ite (.cmp .eq (.var 3) (.cst (.int 2))) [.asg [5] false (.sl (.var 0) (some (.cst (.int 5))) none)] []],.ite (.cmp .gt (.var 3) (.cst (.int 0))) [.asg [4] false (.var 5)] [],.asg [6] false (.call 11 [.var 1,.var 5,.var 4,.or [.cmp .gt (.var 3) (.cst (.int 0)),.not (.var 2)],.bin .add (.cst (.int 1)) (.bin .mod (.bin .fdiv (.var 1) (.cst (.int 24))) (.cst (.int 4)))]),.ret (.tup [.var 6,.cmp .ne (.comp (.var 7) [7] false .val [.call 37 [.var 6]] [.cmp .inn (.var 7) (.sl (.var 0) (some (.cst (.int 5))) none)]) (.list [])])]⟩
noncomputable def fn_law_closed:Fn:=⟨1,2,[.asg [1] false (.mth .pop (.var 0) []),.ite (.cmp .eq (.idx (.var 1) (.cst (.int 0))) (.cst (.str [119,104,105,108,101]))) [.ite (.and [.cmp .eq (.idx (.idx (.var 1) (.cst (.int 1))) (.cst (.int 0))) (.cst (.str [60])),.cmp .eq (.idx (.idx (.idx (.var 1) (.cst (.int 1))) (.cst (.int 1))) (.cst (.int 0))) (.cst (.str [110,97,109,101]))]) [.expr (.mth .append (.idx (.var 1) (.cst (.int 2))) [.tup [.cst (.str [115,101,116]),.idx (.idx (.idx (.var 1) (.cst (.int 1))) (.cst (.int 1))) (.cst (.int 1)),.tup [.cst (.str [43]),.idx (.idx (.var 1) (.cst (.int 1))) (.cst (.int 1)),.tup [.cst (.str [110,117,109,98,101,114]),.cst (.int 1)]]]])] [],.expr (.mth .append (.idx (.idx (.var 0) (.neg (.cst (.int 1)))) (.cst (.int 2))) [.tup [.cst (.str [119,104,105,108,101]),.idx (.var 1) (.cst (.int 1)),.blt .tuple [.idx (.var 1) (.cst (.int 2))]]])] [.ite (.isN true (.idx (.var 1) (.cst (.int 4)))) [.expr (.mth .append (.var 0) [.list [.idx (.var 1) (.cst (.int 0)),.idx (.var 1) (.cst (.int 1)),.list [],.idx (.var 1) (.cst (.int 3)),.blt .tuple [.idx (.var 1) (.cst (.int 2))]]])] [.expr (.mth .append (.idx (.idx (.var 0) (.neg (.cst (.int 1)))) (.cst (.int 2))) [.tup [.cst (.str [105,102]),.idx (.var 1) (.cst (.int 1)),.idx (.var 1) (.cst (.int 4)),.blt .tuple [.idx (.var 1) (.cst (.int 2))]]])]]]⟩
noncomputable def fn_law_put:Fn:=⟨4,11,[.asg [4] false (.bin .mod (.var 2) (.cst (.int 12))),.asg [5] false (.cmp .ne (.comp (.var 10) [10] false .val [.var 0] [.idx (.var 10) (.cst (.int 3))]) (.list [])),.asg [6,7] true (.call 38 [.var 1,.var 2,.var 5,.var 3]),.asg [8] false (.and [.cmp .eq (.var 3) (.cst (.int 0)),.or [.var 5,.var 7]]),.ite (.cmp .eq (.var 3) (.cst (.int 2))) [.asg [4] false (.idx (.list [.cst (.int 0),.cst (.int 4),.cst (.int 8),.cst (.int 0)]) (.bin .mod (.bin .fdiv (.var 2) (.cst (.int 7))) (.cst (.int 4))))] [],.ite (.cmp .lt (.var 4) (.cst (.int 4))) [.asg [9] false (.idx (.list [.var 1,.var 1,.idx (.list [.sl (.var 1) none (some (.cst (.int 5))),.sl (.var 1) (some (.cst (.int 5))) none]) (.blt .int [.cmp .eq (.bin .mod (.bin .fdiv (.var 2) (.cst (.int 7))) (.cst (.int 4))) (.cst (.int 3))])]) (.var 3)),.ite (.var 8) [.asg [9] false (.sl (.var 1) (some (.cst (.int 5))) none)] [],.expr (.mth .append (.idx (.idx (.var 0) (.neg (.cst (.int 1)))) (.cst (.int 2))) [.tup [.cst (.str [115,101,116]),.idx (.var 9) (.bin .mod (.bin .fdiv (.var 2) (.cst (.int 96))) (.blt .len [.var 9])),.var 6]])] [.ite (.and [.cmp .eq (.var 4) (.cst (.int 4)),.not (.var 8)]) [.expr (.mth .append (.idx (.idx (.var 0) (.neg (.cst (.int 1)))) (.cst (.int 2))) [.tup [.cst (.str [116,101,108,108]),.var 6]])] [.ite (.cmp .eq (.var 4) (.cst (.int 5))) [.expr (.mth .append (.idx (.idx (.var 0) (.neg (.cst (.int 1)))) (.cst (.int 2))) [.tup [.cst (.str [115,107,105,112])]])] [.ite (.and [.cmp .lt (.var 4) (.cst (.int 8)),.cmp .lt (.blt .len [.var 0]) (.cst (.int 8))]) [.expr (.mth .append (.var 0) [.list [.cst (.str [105,102]),.var 6,.list [],.var 7,.cst .none]])] [.ite (.and [.cmp .lt (.var 4) (.cst (.int 10)),.cmp .lt (.blt .len [.var 0]) (.cst (.int 8)),.not (.var 8)]) [.ite (.and [.cmp .eq (.var 3) (.cst (.int 0)),.cmp .gt (.bin .mod (.bin .fdiv (.var 2) (.cst (.int 96))) (.cst (.int 4))) (.cst (.int 0))]) [.asg [6] false (.tup [.cst (.str [60]),.tup [.cst (.str [110,97,109,101]),.idx (.var 1) (.bin .mod (.bin .fdiv (.var 2) (.cst (.int 384))) (.cst (.int 5)))],.tup [.cst (.str [110,117,109,98,101,114]),.bin .add (.cst (.int 1)) (.bin .mod (.bin .fdiv (.var 2) (.cst (.int 1920))) (.cst (.int 4)))]])] [],.expr (.mth .append (.var 0) [.list [.cst (.str [119,104,105,108,101]),.var 6,.list [],.var 7,.cst .none]])] [.ite (.cmp .gt (.blt .len [.var 0]) (.cst (.int 1))) [.expr (.call 39 [.var 0])] []]]]]]]⟩
noncomputable def fn_law_block_by:Fn:=⟨3,8,[.asg [3] false (.list [.list [.cst (.str []),.cst .none,.list [],.cst (.bool false),.cst .none]]),.for_ [4,5] true .enum [.var 0] [.asg [6] false (.call 6 [.bin .mul (.call 6 [.bin .add (.var 5) (.bin .mul (.cst (.int 131)) (.var 4))]) (.bin .add (.var 4) (.cst (.int 2)))]),.asg [7] false (.cst (.int 0)),.ite (.and [.cmp .eq (.var 2) (.cst (.int 1)),.cmp .eq (.bin .mod (.bin .fdiv (.var 6) (.cst (.int 4096))) (.cst (.int 4))) (.cst (.int 0))]) [.asg [7] false (.cst (.int 1))] [],.ite (.and [.cmp .gt (.var 2) (.cst (.int 1)),.cmp .eq (.var 4) (.bin .mod (.var 2) (.blt .len [.var 0]))]) [.asg [7] false (.cst (.int 2))] [],.expr (.call 40 [.var 3,.var 1,.var 6,.var 7])],.while_ (.cmp .gt (.blt .len [.var 3]) (.cst (.int 1))) [.expr (.call 39 [.var 3])],.ret (.idx (.idx (.var 3) (.cst (.int 0))) (.cst (.int 2)))]⟩
noncomputable def fn_law_alone:Fn:=⟨1,2,[.asg [1] false (.list [.isi (.var 0) [.cls 1],.isi (.var 0) [.cls 2],.isi (.var 0) [.cls 3],.isi (.var 0) [.cls 4]]),.asg [1] false (.bin .add (.var 1) (.list [.isi (.var 0) [.cls 5],.isi (.var 0) [.cls 6],.isi (.var 0) [.cls 7]])),.ret (.and [.isi (.var 0) [.valueError],.cmp .eq (.mth .count (.var 1) [.cst (.bool true)]) (.cst (.int 1))])]⟩
noncomputable def fn_law_refused:Fn:=⟨1,2,[.try_ [.expr (.call 36 [.var 0])] 0 1 [.ret (.and [.isi (.var 1) [.cls 7],.call 47 [.var 1]])],.ret (.cst (.bool false))]⟩
noncomputable def fn_law_own:Fn:=⟨1,3,[.try_ [.asg [1] false (.call 36 [.blt .list [.var 0]])] 0 2 [.ret (.and [.isi (.var 2) [.cls 7],.call 47 [.var 2]])],.ret (.and [.isi (.var 1) [.tuple],.cmp .eq (.call 29 [.var 1]) (.var 0)])]⟩
noncomputable def fn_law_changed:Fn:=⟨2,5,[.asg [2] false (.cst (.str [32,33,34,35,36,38,39,40,41,42,43,44,45,46,47,48,49,50,51,52,53,54,55,56,57,58,59,60,61,62,63,64,65,66,67,68,69,70,71,72,73,74,75,76,77,78,79,80,81,82,83,84,85,86,87,88,89,90,91,92,93,94,95,96])),.asg [2] false (.bin .add (.var 2) (.cst (.str [97,98,99,100,101,102,103,104,105,106,107,108,109,110,111,112,113,114,115,116,117,118,119,120,121,122,123,124,125,126,9,10]))),.asg [3] false (.bin .mod (.bin .fdiv (.var 1) (.cst (.int 3))) (.bin .add (.blt .len [.var 0]) (.cst (.int 1)))),.asg [4] false (.idx (.var 2) (.bin .mod (.bin .fdiv (.var 1) (.cst (.int 48271))) (.blt .len [.var 2]))),.ite (.cmp .eq (.bin .mod (.bin .fdiv (.var 1) (.cst (.int 7))) (.cst (.int 3))) (.cst (.int 0))) [.asg [4] false (.idx (.cst (.str [32,48,43,47,60])) (.bin .mod (.bin .fdiv (.var 1) (.cst (.int 48271))) (.cst (.int 5))))] [],.ite (.cmp .eq (.bin .mod (.var 1) (.cst (.int 3))) (.cst (.int 0))) [.ret (.bin .add (.bin .add (.sl (.var 0) none (some (.var 3))) (.var 4)) (.sl (.var 0) (some (.var 3)) none))] [],.ite (.cmp .eq (.bin .mod (.var 1) (.cst (.int 3))) (.cst (.int 1))) [.ret (.bin .add (.bin .add (.sl (.var 0) none (some (.var 3))) (.var 4)) (.sl (.var 0) (some (.bin .add (.var 3) (.cst (.int 1)))) none))] [],.ret (.bin .add (.sl (.var 0) none (some (.var 3))) (.sl (.var 0) (some (.bin .add (.var 3) (.cst (.int 1)))) none))]⟩
noncomputable def fn_law_spoilt:Fn:=⟨2,5,[.asg [2] false (.bin .mod (.bin .fdiv (.var 1) (.cst (.int 8))) (.blt .len [.var 0])),.ite (.cmp .eq (.bin .mod (.var 1) (.cst (.int 8))) (.cst (.int 0))) [.ret (.bin .add (.sl (.var 0) none (some (.var 2))) (.sl (.var 0) (some (.bin .add (.var 2) (.cst (.int 1)))) none))] [],.ite (.cmp .eq (.bin .mod (.var 1) (.cst (.int 8))) (.cst (.int 1))) [.ret (.bin .add (.bin .add (.sl (.var 0) none (some (.var 2))) (.list [.idx (.var 0) (.var 2)])) (.sl (.var 0) (some (.var 2)) none))] [],.ite (.and [.cmp .eq (.bin .mod (.var 1) (.cst (.int 8))) (.cst (.int 2)),.cmp .gt (.var 2) (.cst (.int 0))]) [.ret (.bin .add (.bin .add (.sl (.var 0) none (some (.bin .sub (.var 2) (.cst (.int 1))))) (.list [.idx (.var 0) (.var 2),.idx (.var 0) (.bin .sub (.var 2) (.cst (.int 1)))])) (.sl (.var 0) (some (.bin .add (.var 2) (.cst (.int 1)))) none))] [],.ite (.cmp .eq (.bin .mod (.var 1) (.cst (.int 8))) (.cst (.int 3))) [.asg [3] false (.mth .split (.idx (.var 0) (.var 2)) [.cst (.str [32])]),.asg [4] false (.bin .mod (.bin .fdiv (.var 1) (.cst (.int 64))) (.blt .len [.var 3])),.setIdx (.var 3) (.var 4) (.bin .add (.cst (.str [48])) (.idx (.var 3) (.var 4))),.ret (.bin .add (.bin .add (.sl (.var 0) none (some (.var 2))) (.list [.mth .join (.cst (.str [32])) [.var 3]])) (.sl (.var 0) (some (.bin .add (.var 2) (.cst (.int 1)))) none))] [],.ret (.bin .add (.bin .add (.sl (.var 0) none (some (.var 2))) (.list [.call 50 [.idx (.var 0) (.var 2),.call 6 [.var 1]]])) (.sl (.var 0) (some (.bin .add (.var 2) (.cst (.int 1)))) none))]⟩
noncomputable def fn_law_deep:Fn:=⟨2,8,[.asg [2] false (.idx (.list [.cst (.str [43,32]),.cst (.str [47,32]),.cst (.str [61,32])]) (.bin .mod (.var 1) (.cst (.int 3)))),.for_ [3] false .range1 [.cst (.int 12)] [.asg [4] false (.list []),.for_ [5] false .val [.list [.cst (.int 13),.cst (.int 12)]] [.asg [6] false (.bin .mul (.bin .add (.bin .add (.var 2) (.var 0)) (.cst (.str [32]))) (.var 3)),.asg [7] false (.bin .add (.bin .mul (.var 2) (.bin .sub (.bin .sub (.var 5) (.cst (.int 1))) (.var 3))) (.mth .join (.cst (.str [32])) [.bin .mul (.list [.var 0]) (.bin .sub (.var 5) (.var 3))])),.expr (.mth .append (.var 4) [.call 48 [.list [.bin .add (.bin .add (.cst (.str [116,101,108,108,32])) (.var 6)) (.var 7)]]])],.ite (.cmp .ne (.var 4) (.list [.cst (.bool true),.cst (.bool false)])) [.ret (.cst (.bool false))] []],.ret (.cst (.bool true))]⟩
noncomputable def fn_law_deep_rows:Fn:=⟨3,6,[.asg [3] false (.list [.cst (.str [115,107,105,112])]),.for_ [4] false .range1 [.bin .sub (.var 1) (.cst (.int 1))] [.asg [5] false (.bin .mod (.var 2) (.cst (.int 3))),.asg [2] false (.bin .fdiv (.var 2) (.cst (.int 3))),.ite (.cmp .eq (.var 5) (.cst (.int 0))) [.asg [3] false (.bin .add (.bin .add (.list [.bin .add (.cst (.str [119,104,105,108,101,32])) (.var 0)]) (.var 3)) (.list [.cst (.str [101,110,100])]))] [.ite (.cmp .eq (.var 5) (.cst (.int 1))) [.asg [3] false (.bin .add (.bin .add (.list [.bin .add (.cst (.str [105,102,32])) (.var 0)]) (.var 3)) (.list [.cst (.str [101,108,115,101]),.cst (.str [115,107,105,112]),.cst (.str [101,110,100])]))] [.asg [3] false (.bin .add (.bin .add (.list [.bin .add (.cst (.str [105,102,32])) (.var 0),.cst (.str [115,107,105,112]),.cst (.str [101,108,115,101])]) (.var 3)) (.list [.cst (.str [101,110,100])]))]]],.ret (.var 3)]⟩
noncomputable def fn_law_4:Fn:=⟨1,7,[.asg [1] false (.call 9 [.call 5 [.var 0,.cst (.int 0)],.call 5 [.var 0,.cst (.int 1)]]),.asg [2] false (.call 29 [.blt .tuple [.bin .add (.call 41 [.sl (.var 0) (some (.cst (.int 10))) (some (.cst (.int 40))),.var 1,.cst (.int 1)]) (.list [.tup [.cst (.str [116,101,108,108]),.tup [.cst (.str [110,97,109,101]),.idx (.var 1) (.cst (.int 0))]]])]]),.ite (.or [.not (.call 49 [.var 2]),.not (.call 49 [.list []]),.call 48 [.var 2]]) [.ret (.cst (.bool false))] [],.for_ [3] false .range1 [.cst (.int 8)] [.ite (.not (.call 49 [.call 51 [.var 2,.call 6 [.bin .add (.call 5 [.var 0,.bin .add (.cst (.int 2)) (.var 3)]) (.var 3)]]])) [.ret (.cst (.bool false))] []],.asg [4] false (.call 6 [.call 5 [.var 0,.cst (.int 2)]]),.ite (.or [.not (.call 48 [.call 53 [.idx (.var 1) (.cst (.int 0)),.cst (.int 9),.var 4]]),.call 48 [.call 53 [.idx (.var 1) (.cst (.int 0)),.cst (.int 8),.var 4]]]) [.ret (.cst (.bool false))] [],.asg [5] false (.blt .list [.var 2]),.for_ [6] false .val [.list [.cst (.str [101,108,115,101]),.cst (.str [101,110,100]),.cst (.str []),.cst (.str [105,102,32,49]),.cst (.str [115,101,116]),.cst (.str [115,101,116,32,105,102,32,49]),.cst (.str [116,101,108,108]),.cst (.str [116,101,108,108,32,49,48,48,48,48,48,48]),.cst (.str [115,107,105,112,32,115,107,105,112]),.cst (.str [119,104,105,108,101,32,49,32,49])]] [.expr (.mth .append (.var 5) [.var 6]),.ite (.not (.call 48 [.var 5])) [.ret (.cst (.bool false))] [],.expr (.mth .pop (.var 5) []),.ite (.or [.call 48 [.var 5],.not (.call 49 [.var 5])]) [.ret (.cst (.bool false))] []],.ret (.call 52 [.idx (.var 1) (.cst (.int 0)),.call 5 [.var 0,.cst (.int 2)]])]⟩
noncomputable def gl:Nat→Option (Str × MV)
 | 0=>some ("MODULUS",(.int 1000000))
 | 1=>some ("WORDS",(.gt [[115,101,116],[116,101,108,108],[115,107,105,112],[105,102],[101,108,115,101],[119,104,105,108,101],[101,110,100]]))
 | 2=>some ("SIGNS",(.gt [[43],[45],[42],[47],[60],[61]]))
 | 3=>some ("LETTERS",(.str [97,98,99,100,101,102,103,104,105,106,107,108,109,110,111,112,113,114,115,116,117,118,119,120,121,122]))
 | 4=>some ("FIGURES",(.str [48,49,50,51,52,53,54,55,56,57]))
 | 5=>some ("MOST_SIGNS",(.int 8))
 | 6=>some ("DEEPEST",(.int 12))
 | 7=>some ("DEEPEST_ROW",(.int 8))
 | 8=>some ("MOST_FIGURES",(.int 6))
 | _=>none
noncomputable def tab:Tab:=(22,"is_whole",["thing","most"],fn_is_whole)::
 (23,"is_number",["thing"],fn_is_number)::
 (24,"is_name",["thing","sign"],fn_is_name)::
 (25,"blocks_in",["row"],fn_blocks_in)::
 (26,"formula_of",["row"],fn_formula_of)::
 (27,"formula_text",["formula"],fn_formula_text)::
 (28,"row_lines",["row","found","blocks","k"],fn_row_lines)::
 (29,"written",["block","found","row"],fn_written)::
 (30,"leaf_of",["word","sign","number"],fn_leaf_of)::
 (31,"formula_from",["words","at","deep","word","one","behind","other","end"],fn_formula_from)::
 (32,"whole_formula",["words","formula","end"],fn_whole_formula)::
 (33,"need_line",["lines","at","line"],fn_need_line)::
 (34,"row_from",["lines","at","deep","words","formula","block","end","first","between","second"],fn_row_from)::
 (35,"block_from",["lines","at","deep","rows","row"],fn_block_from)::
 (36,"read",["lines","block","end"],fn_read)::
 (5,"_law_cell_at",["_law_script","_law_k"],fn_law_cell_at)::
 (6,"_law_mixed",["_law_number"],fn_law_mixed)::
 (7,"_law_name_by",["_law_cell","_law_found","_law_number","_law_k"],fn_law_name_by)::
 (8,"_law_twin",["_law_name","_law_cell","_law_some","_law_at","_law_step","_law_found"],fn_law_twin)::
 (9,"_law_names",["_law_one","_law_other","_law_names_here","_law_k","_law_name"],fn_law_names)::
 (10,"_law_end_by",["_law_number","_law_names_here"],fn_law_end_by)::
 (11,"_law_formula_by",["_law_number","_law_names_here","_law_low","_law_divide","_law_left","_law_sign","_law_one"],fn_law_formula_by)::
 (37,"_law_all_names",["_law_formula"],fn_law_all_names)::
 (38,"_law_row_by",["_law_names_here","_law_more","_law_dark","_law_mode","_law_low","_law_some","_law_formula"],fn_law_row_by)::
 (39,"_law_closed",["_law_stack","_law_frame"],fn_law_closed)::
 (40,"_law_put",["_law_stack","_law_names_here","_law_more","_law_mode","_law_way","_law_dark","_law_formula","_law_secret","_law_shut","_law_some"],fn_law_put)::
 (41,"_law_block_by",["_law_cells","_law_names_here","_law_loose","_law_stack","_law_turn","_law_cell","_law_more","_law_mode"],fn_law_block_by)::
 (47,"_law_alone",["_law_e","_law_told"],fn_law_alone)::
 (48,"_law_refused",["_law_lines","_law_e"],fn_law_refused)::
 (49,"_law_own",["_law_lines","_law_block","_law_e"],fn_law_own)::
 (50,"_law_changed",["_law_line","_law_cell","_law_some","_law_at","_law_sign"],fn_law_changed)::
 (51,"_law_spoilt",["_law_lines","_law_cell","_law_at","_law_words","_law_k"],fn_law_spoilt)::
 (52,"_law_deep",["_law_name","_law_cell","_law_sign","_law_low","_law_found","_law_many","_law_right","_law_left"],fn_law_deep)::
 (53,"_law_deep_rows",["_law_name","_law_many","_law_cell","_law_lines","_law_k","_law_way"],fn_law_deep_rows)::
 (54,"law",["_law_script","_law_names_here","_law_lines","_law_k","_law_more","_law_handed","_law_line"],fn_law_4)::[]
noncomputable def mtab:MTab:=[]
noncomputable def PP (f:Nat):Option Fn:=(fnP tab f).or (mtP mtab f)
end Internal
end
section
namespace Internal
theorem forL_inv {g:Option (Nat × List MV)}{step:MV→(Fl→MS→Prop)→MS→Prop}{Q:Fl→MS→Prop}(I:Nat→MS→Prop) (Rt:MV→MS→Prop) {items:List MV}{m:MS}(h0:I 0 m) (hg:∀i m,I i m→guardOk g m.heap)
  (hstep:∀i x m (P:Fl→MS→Prop),items[i]?=some x→I i m→(∀m',I (i+1) m'→P .next m')→(∀m',I (i+1) m'→P .cont m')→(∀r m',Rt r m'→P (.ret r) m')→step x P m)
  (hend:∀m,I items.length m→Q .next m) (hret:∀r m,Rt r m→Q (.ret r) m):forL g step Q items m:=by
 have key:∀(l:List MV) (i:Nat) (m:MS),i+l.length=items.length→items.drop i=l→I i m→forL g step Q l m:=by
  intro l
  induction l with
  | nil=>
   intro i m hl e hI
   have hl:i=items.length:=hl
   subst hl
   rw [forL_nil]
   exact ⟨hg _ m hI,hend m hI⟩
  | cons x l ih=>
   intro i m hl e hI
   have hlt:i<items.length:=by simp only [List.length_cons] at hl;exact n1 (Nat.le_of_eq hl) (by simp +arith only)
   have e':=List.drop_eq_getElem_cons hlt
   rw [e] at e'
   simp only [List.cons.injEq] at e'
   rw [forL_cons]
   refine ⟨hg i m hI,hstep i x m _ (by rw [List.getElem?_eq_getElem hlt,e'.1]) hI (fun m' h'=>?_) (fun m' h'=>?_) fun r m' h'=>hret r m' h'⟩
   ·exact ih (i+1) m' (by simp only [List.length_cons] at hl;lia) e'.2.symm h'
   ·exact ih (i+1) m' (by simp only [List.length_cons] at hl;lia) e'.2.symm h'
 exact key items 0 m (by simp) (by simp) h0
theorem forL_w {σ:Type}(st:Nat→σ→MS) (I:Nat→σ→Prop) {g:Option (Nat × List MV)}{step:MV→(Fl→MS→Prop)→MS→Prop}{Q:Fl→MS→Prop}{items:List MV}{m:MS}(w:σ) (e0:m=st 0 w) (h0:I 0 w) (hg:∀i w,I i w→guardOk g (st i w).heap)
  (hstep:∀i x w (P:Fl→MS→Prop),items[i]?=some x→I i w→(∀w,I (i+1) w→P .next (st (i+1) w))→(∀w,I (i+1) w→P .cont (st (i+1) w))→step x P (st i w)) (hend:∀w,I items.length w→Q .next (st items.length w)):forL g step Q items m:=by
 refine forL_inv (fun i m=>∃w,m=st i w∧I i w) (fun _ _=>False) ⟨w,e0,h0⟩ (fun i m hI=>?_) (fun i x m P hx hI h1 h2 _=>?_) (fun m hI=>?_) (fun _ _ h=>h.elim)
 ·obtain ⟨w,rfl,h⟩:=hI;exact hg i w h
 ·obtain ⟨w,rfl,h⟩:=hI;exact hstep i x w P hx h (fun w h=>h1 _ ⟨w,rfl,h⟩) fun w h=>h2 _ ⟨w,rfl,h⟩
 ·obtain ⟨w,rfl,h⟩:=hI;exact hend w h
theorem forL_w2 {α β:Type}(st:Nat→α→β→MS) (I:Nat→α→β→Prop) {g:Option (Nat × List MV)}{step:MV→(Fl→MS→Prop)→MS→Prop}{Q:Fl→MS→Prop}{items:List MV}{m:MS}(a:α) (b:β) (e0:m=st 0 a b) (h0:I 0 a b) (hg:∀i a b,I i a b→guardOk g (st i a b).heap)
  (hstep:∀i x a b (P:Fl→MS→Prop),items[i]?=some x→I i a b→(∀a b,I (i+1) a b→P .next (st (i+1) a b))→(∀a b,I (i+1) a b→P .cont (st (i+1) a b))→step x P (st i a b)) (hend:∀a b,I items.length a b→Q .next (st items.length a b)):forL g step Q items m:=
 forL_w (fun i (w:α × β)=>st i w.1 w.2) (fun i w=>I i w.1 w.2) (a,b) e0 h0 (fun i w=>hg i w.1 w.2) (fun i x w P hx hI h1 h2=>hstep i x w.1 w.2 P hx hI (fun a b h=>h1 (a,b) h) fun a b h=>h2 (a,b) h) fun w=>hend w.1 w.2
theorem forL_w3 {α β γ:Type}(st:Nat→α→β→γ→MS) (I:Nat→α→β→γ→Prop) {g:Option (Nat × List MV)}{step:MV→(Fl→MS→Prop)→MS→Prop}{Q:Fl→MS→Prop}{items:List MV}{m:MS}(a:α) (b:β) (c:γ) (e0:m=st 0 a b c) (h0:I 0 a b c) (hg:∀i a b c,I i a b c→guardOk g (st i a b c).heap)
  (hstep:∀i x a b c (P:Fl→MS→Prop),items[i]?=some x→I i a b c→(∀a b c,I (i+1) a b c→P .next (st (i+1) a b c))→(∀a b c,I (i+1) a b c→P .cont (st (i+1) a b c))→step x P (st i a b c)) (hend:∀a b c,I items.length a b c→Q .next (st items.length a b c)):forL g step Q items m:=
 forL_w (fun i (w:α × β × γ)=>st i w.1 w.2.1 w.2.2) (fun i w=>I i w.1 w.2.1 w.2.2) (a,b,c) e0 h0 (fun i w=>hg i w.1 w.2.1 w.2.2) (fun i x w P hx hI h1 h2=>hstep i x w.1 w.2.1 w.2.2 P hx hI (fun a b c h=>h1 (a,b,c) h) fun a b c h=>h2 (a,b,c) h) fun w=>hend w.1 w.2.1 w.2.2
theorem forL_w4 {α β γ δ:Type}(st:Nat→α→β→γ→δ→MS) (I:Nat→α→β→γ→δ→Prop) {g:Option (Nat × List MV)}{step:MV→(Fl→MS→Prop)→MS→Prop}{Q:Fl→MS→Prop}{items:List MV}{m:MS}(a:α) (b:β) (c:γ) (d:δ) (e0:m=st 0 a b c d) (h0:I 0 a b c d) (hg:∀i a b c d,I i a b c d→guardOk g (st i a b c d).heap)
  (hstep:∀i x a b c d (P:Fl→MS→Prop),items[i]?=some x→I i a b c d→(∀a b c d,I (i+1) a b c d→P .next (st (i+1) a b c d))→(∀a b c d,I (i+1) a b c d→P .cont (st (i+1) a b c d))→step x P (st i a b c d)) (hend:∀a b c d,I items.length a b c d→Q .next (st items.length a b c d)):forL g step Q items m:=
 forL_w (fun i (w:α × β × γ × δ)=>st i w.1 w.2.1 w.2.2.1 w.2.2.2) (fun i w=>I i w.1 w.2.1 w.2.2.1 w.2.2.2) (a,b,c,d) e0 h0 (fun i w=>hg i w.1 w.2.1 w.2.2.1 w.2.2.2) (fun i x w P hx hI h1 h2=>hstep i x w.1 w.2.1 w.2.2.1 w.2.2.2 P hx hI (fun a b c d h=>h1 (a,b,c,d) h) fun a b c d h=>h2 (a,b,c,d) h) fun w=>hend w.1 w.2.1 w.2.2.1 w.2.2.2
theorem forL_w5 {α β γ δ ε:Type}(st:Nat→α→β→γ→δ→ε→MS) (I:Nat→α→β→γ→δ→ε→Prop) {g:Option (Nat × List MV)}{step:MV→(Fl→MS→Prop)→MS→Prop}{Q:Fl→MS→Prop}{items:List MV}{m:MS}(a:α) (b:β) (c:γ) (d:δ) (e:ε) (e0:m=st 0 a b c d e) (h0:I 0 a b c d e) (hg:∀i a b c d e,I i a b c d e→guardOk g (st i a b c d e).heap)
  (hstep:∀i x a b c d e (P:Fl→MS→Prop),items[i]?=some x→I i a b c d e→(∀a b c d e,I (i+1) a b c d e→P .next (st (i+1) a b c d e))→(∀a b c d e,I (i+1) a b c d e→P .cont (st (i+1) a b c d e))→step x P (st i a b c d e)) (hend:∀a b c d e,I items.length a b c d e→Q .next (st items.length a b c d e)):forL g step Q items m:=
 forL_w (fun i (w:α × β × γ × δ × ε)=>st i w.1 w.2.1 w.2.2.1 w.2.2.2.1 w.2.2.2.2) (fun i w=>I i w.1 w.2.1 w.2.2.1 w.2.2.2.1 w.2.2.2.2) (a,b,c,d,e) e0 h0 (fun i w=>hg i w.1 w.2.1 w.2.2.1 w.2.2.2.1 w.2.2.2.2) (fun i x w P hx hI h1 h2=>hstep i x w.1 w.2.1 w.2.2.1 w.2.2.2.1 w.2.2.2.2 P hx hI (fun a b c d e h=>h1 (a,b,c,d,e) h) fun a b c d e h=>h2 (a,b,c,d,e) h) fun w=>hend w.1 w.2.1 w.2.2.1 w.2.2.2.1 w.2.2.2.2
theorem forL_w6 {α β γ δ ε ζ:Type}(st:Nat→α→β→γ→δ→ε→ζ→MS) (I:Nat→α→β→γ→δ→ε→ζ→Prop) {g:Option (Nat × List MV)}{step:MV→(Fl→MS→Prop)→MS→Prop}{Q:Fl→MS→Prop}{items:List MV}{m:MS}(a:α) (b:β) (c:γ) (d:δ) (e:ε) (f:ζ) (e0:m=st 0 a b c d e f) (h0:I 0 a b c d e f) (hg:∀i a b c d e f,I i a b c d e f→guardOk g (st i a b c d e f).heap)
  (hstep:∀i x a b c d e f (P:Fl→MS→Prop),items[i]?=some x→I i a b c d e f→(∀a b c d e f,I (i+1) a b c d e f→P .next (st (i+1) a b c d e f))→(∀a b c d e f,I (i+1) a b c d e f→P .cont (st (i+1) a b c d e f))→step x P (st i a b c d e f)) (hend:∀a b c d e f,I items.length a b c d e f→Q .next (st items.length a b c d e f)):forL g step Q items m:=
 forL_w (fun i (w:α × β × γ × δ × ε × ζ)=>st i w.1 w.2.1 w.2.2.1 w.2.2.2.1 w.2.2.2.2.1 w.2.2.2.2.2) (fun i w=>I i w.1 w.2.1 w.2.2.1 w.2.2.2.1 w.2.2.2.2.1 w.2.2.2.2.2) (a,b,c,d,e,f) e0 h0 (fun i w=>hg i w.1 w.2.1 w.2.2.1 w.2.2.2.1 w.2.2.2.2.1 w.2.2.2.2.2) (fun i x w P hx hI h1 h2=>hstep i x w.1 w.2.1 w.2.2.1 w.2.2.2.1 w.2.2.2.2.1 w.2.2.2.2.2 P hx hI (fun a b c d e f h=>h1 (a,b,c,d,e,f) h) fun a b c d e f h=>h2 (a,b,c,d,e,f) h) fun w=>hend w.1 w.2.1 w.2.2.1 w.2.2.2.1 w.2.2.2.2.1 w.2.2.2.2.2
structure A3 (p1 p2 p3:Prop):Prop where
 h1:p1
 h2:p2
 h3:p3
structure A4 (p1 p2 p3 p4:Prop):Prop where
 h1:p1
 h2:p2
 h3:p3
 h4:p4
structure A5 (p1 p2 p3 p4 p5:Prop):Prop where
 h1:p1
 h2:p2
 h3:p3
 h4:p4
 h5:p5
structure A6 (p1 p2 p3 p4 p5 p6:Prop):Prop where
 h1:p1
 h2:p2
 h3:p3
 h4:p4
 h5:p5
 h6:p6
structure A7 (p1 p2 p3 p4 p5 p6 p7:Prop):Prop where
 h1:p1
 h2:p2
 h3:p3
 h4:p4
 h5:p5
 h6:p6
 h7:p7
theorem while_inv {c:(Bool→MS→Prop)→MS→Prop}{b:(Fl→MS→Prop)→MS→Prop}{Q:Fl→MS→Prop}(I:Nat→MS→Prop) (hno:∀m,¬ I 0 m)
  (hturn:∀k m (W:MS→Prop),I (k+1) m→(∀m',I k m'→W m')→c (fun t m=>match t with
   | true=>b (fun f m=>match f with
    | .next=>W m
    | .cont=>W m
    | .brk=>Q .next m
    | .ret r=>Q (.ret r) m) m
   | false=>Q .next m) m):∀(k:Nat) (m:MS),I k m→whileN c b Q k m
 | 0,m,h=>(hno m h).elim
 | k+1,m,h=>by
  rw [whileN_succ]
  exact hturn k m (fun m=>whileN c b Q k m) h fun m' h'=>while_inv I hno hturn k m' h'
noncomputable abbrev Hpp:=List MO
theorem pre_push {h hp:List MO}{o:MO}(x:h<+:hp):h<+:hp++[o]:=x.trans (List.prefix_append _ _)
theorem pre_self (h:List MO):h<+:h:=List.prefix_refl _
theorem pre_at {h hp:List MO}(x:h<+:hp) {i:Nat}{o:MO}(e:h[i]?=some o):hp[i]?=some o:=by
 obtain ⟨t,rfl⟩:=x
 rw [List.getElem?_append_left (List.getElem?_eq_some_iff.mp e).1];exact e
theorem pre_set {h hp:List MO}(x:h<+:hp) {i:Nat}{o:MO}(e:h.length≤i):h<+:hp.set i o:=by
 obtain ⟨t,rfl⟩:=x
 rw [List.set_append_right _ _ e]
 exact List.prefix_append _ _
theorem get_last {α:Type}(h:List α) (o:α):(h++[o])[h.length]?=some o:=by simp
theorem get_old {α:Type}{h:List α}{o o':α}{i:Nat}(e:h[i]?=some o):(h++[o'])[i]?=some o:=by
 rw [List.getElem?_append_left (List.getElem?_eq_some_iff.mp e).1];exact e
theorem get_set {α:Type}{h:List α}{o o':α}{i:Nat}(e:h[i]?=some o):(h.set i o')[i]?=some o':=by
 have:=(List.getElem?_eq_some_iff.mp e).1
 simp [this]
theorem get_push {m:MS}{o:MO}:(m.push o).heap[m.heap.length]?=some o:=get_last _ _
theorem get_push_old {m:MS}{o o':MO}{i:Nat}(e:m.heap[i]?=some o):(m.push o').heap[i]?=some o:=get_old e
theorem get_push2 {m:MS}{o o':MO}:((m.push o).push o').heap[m.heap.length]?=some o:=get_old (get_last _ _)
theorem get_put {m:MS}{o o':MO}{i:Nat}(e:m.heap[i]?=some o):(m.put i o').heap[i]?=some o':=get_set e
theorem iter_range1 {k:Int}{hp:List MO}(h1:-16777216≤k) (h2:k≤16777216):iterOf .range1 [.int k] hp=some ((List.range k.toNat).map (fun (i:Nat)=>.int i),none):=by
 show (match decide (-16777216≤k∧k≤16777216) with
  | true=>some ((List.range k.toNat).map (fun (i:Nat)=>MV.int i),none)
  | false=>none)=_
 rw [decide_eq_true ⟨h1,h2⟩]
theorem iter_list {r:Nat}{xs:List MV}{hp:List MO}(e:hp[r]?=some (.list xs)):iterOf .val [.ref r] hp=some (xs,some (r,xs)):=by
 show (match hp[r]? with
  | some (.list xs)=>some (xs,some (r,xs))
  | _=>none)=_
 rw [e]
theorem iter_enum {r:Nat}{xs:List MV}{hp:List MO}(e:hp[r]?=some (.list xs)):iterOf .enum [.ref r] hp=some (xs.zipIdx.map (fun p=>.tup [.int p.2,p.1]),some (r,xs)):=by
 show (match hp[r]? with
  | some (.list xs)=>some (xs.zipIdx.map (fun p:MV × Nat=>MV.tup [.int p.2,p.1]),some (r,xs))
  | _=>none)=_
 rw [e]
theorem range_at {k i:Nat}{x:MV}(e:((List.range k).map (fun (i:Nat)=>MV.int i))[i]?=some x):i<k∧x=.int i:=by
 simp only [List.getElem?_map,Option.map_eq_some_iff] at e
 obtain ⟨j,h1,h2⟩:=e
 obtain ⟨h3,h4⟩:=List.getElem?_eq_some_iff.mp h1
 simp at h3 h4;subst h4
 exact ⟨h3,h2.symm⟩
theorem range_len (k:Nat):((List.range k).map (fun (i:Nat)=>MV.int i)).length=k:=by simp
theorem enum_at {xs:List MV}{i:Nat}{x:MV}(e:(xs.zipIdx.map (fun p=>MV.tup [.int p.2,p.1]))[i]?=some x):∃y,xs[i]?=some y∧x=.tup [.int i,y]:=by
 simp only [List.getElem?_map,Option.map_eq_some_iff] at e
 obtain ⟨⟨y,j⟩,hj,rfl⟩:=e
 rw [List.getElem?_zipIdx] at hj
 simp only [Option.map_eq_some_iff,Nat.zero_add] at hj
 obtain ⟨y',hy,hj⟩:=hj
 cases hj
 exact ⟨y,hy,rfl⟩
theorem enum_len (xs:List MV):(xs.zipIdx.map (fun p=>MV.tup [.int p.2,p.1])).length=xs.length:=by simp
theorem lst_at {hp:List MO}{r:Nat}{xs:List MV}(e:hp[r]?=some (.list xs)):lst (.ref r) hp=some (r,xs):=by
 show lstO r hp[r]?=_;rw [e];rfl
theorem ok_append {hp:List MO}{r:Nat}{xs:List MV}(e:hp[r]?=some (.list xs)):mthOk .append (.ref r) hp=true:=by
 show (lstO r hp[r]?).isSome=true;rw [e];rfl
noncomputable def b2n:Bool→Nat
 | true=>1
 | false=>0
noncomputable def sel {α:Type}(d:Bool) (a b:α):α:=match d with
 | true=>b
 | false=>a
theorem pidx_b2i {α:Type}{a b:α}{d:Bool}:pidx (b2i d) [a,b].length=some (b2n d):=by cases d<;>rfl
theorem get_b2n {α:Type}{a b:α}{d:Bool}:[a,b][b2n d]?=some (sel d a b):=by cases d<;>rfl
inductive AllAt {α:Type}(P:Nat→α→Prop):Nat→List α→Prop
 | nil {n}:AllAt P n []
 | cons {n a l}:P n a→AllAt P (n+1) l→AllAt P n (a::l)
theorem AllAt.get {α:Type}{P:Nat→α→Prop}{n:Nat}{l:List α}(h:AllAt P n l) (j:Nat) (hj:j<l.length):∃t,l[j]?=some t∧P (j+n) t:=by
 induction h generalizing j with
 | nil=>exact absurd hj (Nat.not_lt_zero _)
 | @cons n a l h _ ih=>
  cases j with
  | zero=>exact ⟨a,rfl,by rw [Nat.zero_add];exact h⟩
  | succ j=>
   obtain ⟨t,h1,h2⟩:=ih j (Nat.lt_of_succ_lt_succ hj)
   exact ⟨t,h1,by rw [Nat.succ_add];exact h2⟩
noncomputable def okS (s:List Nat):Prop:=∀c∈s,c<55296
theorem okS.d {s:List Nat}(h:okS s):D.ok (.str s)=true:=List.all_eq_true.mpr fun c hc=>decide_eq_true (h c hc)
theorem oks_strs:∀{ss:List (List Nat)},(∀s∈ss,okS s)→D.oks (ss.map .str)=true
 | [],_=>rfl
 | s::ss,h=>by
  show (D.ok (.str s)&&D.oks (ss.map .str))=true
  rw [(h s (List.mem_cons_self ..)).d,oks_strs fun t ht=>h t (List.mem_cons_of_mem _ ht)];rfl
theorem rds_strs {hp:List MO}:∀(ss:List (List Nat)),Rds hp (ss.map .str) (ss.map .str)
 | []=>.nil
 | s::ss=>.cons (.str s) (rds_strs ss)
theorem e_var {K:KT}{n i:Nat}{Q:PQ}{X:XM}{m:MS}{v:MV}(hv:m.get i=some v) (h:Q v m):wpE K n (.var i) Q X m:=by
 show (match m.get i with | some v=>Q v m | none=>False)
 rw [hv];exact h
theorem in_strs {hp:List MO}{x:List Nat}{ss:List (List Nat)}{Q:Bool→Prop}(hx:okS x) (hs:∀s∈ss,okS s) (h:Q (ss.contains x)):InP hp (.str x) (ss.map .str) Q:=by
 refine .mk (.str x) (ss.map .str) (.str x) (rds_strs ss) (Nat.zero_le _) hx.d (oks_strs hs) ?_
 have e:(ss.map D.str).any (fun e=>e.deq (.str x))=ss.contains x:=by
  clear h hs
  induction ss with
  | nil=>rfl
  | cons s ss ih=>
   show ((s==x)||(ss.map D.str).any (fun e=>e.deq (.str x)))=(x==s||ss.contains x)
   rw [ih,BEq.comm]
 rw [e];exact h
theorem pidx_nat {k:Int}{n:Nat}(h0:0≤k) (h1:k<n):pidx k n=some k.toNat:=by
 unfold pidx
 rw [decide_eq_true h0,decide_eq_true h1]
theorem get_some {α:Type}{xs:List α}{i:Nat}(h:i<xs.length):xs[i]?=some xs[i]:=List.getElem?_eq_getElem h
theorem pend_nat {k:Int}{n:Nat}(h:0≤k):pend k n=min k.toNat n:=by
 unfold pend;rw [decide_eq_true h]
theorem pslice_to {α:Type}{xs:List α}{k:Int}(h:0≤k):pslice xs none (some k)=xs.take k.toNat:=by
 unfold pslice
 simp only [pend_nat h,List.drop_zero]
 rw [←List.take_eq_take_min]
theorem pslice_from {α:Type}{xs:List α}{k:Int}(h:0≤k):pslice xs (some k) none=xs.drop k.toNat:=by
 unfold pslice
 simp only [pend_nat h,List.take_length]
 rcases Nat.le_total k.toNat xs.length with q | q
 ·rw [Nat.min_eq_left q]
 ·rw [Nat.min_eq_right q,List.drop_length,List.drop_eq_nil_of_le q]
theorem le_line {n:Nat}(h:n≤1000000):n≤line:=by unfold line;exact Nat.le_trans h (nb rfl)
theorem pigeon:∀(l t:List (List Nat)),l.Nodup→(∀x∈l,x∈t)→l.length≤t.length
 | [],_,_,_=>Nat.zero_le _
 | a::l,t,hn,hs=>by
  rw [List.nodup_cons] at hn
  have ha:a∈t:=hs a (List.mem_cons_self ..)
  have:=pigeon l (t.erase a) hn.2 fun x hx=>by
   have hne:x≠a:=fun q=>hn.1 (q▸hx)
   exact (List.mem_erase_of_ne hne).mpr (hs x (List.mem_cons_of_mem _ hx))
  rw [List.length_erase_of_mem ha] at this
  have:=List.length_pos_of_mem ha
  simp only [List.length_cons];lia
end Internal
end
section
namespace Internal
variable {K:KT}(hK:Closed PP K)
noncomputable def mix (x:Int):Int:=(x * 48271+7919) % 2147483647
theorem mix_pos (x:Int):0≤mix x∧mix x<2147483647:=by unfold mix;exact em rfl
noncomputable def cell (is:List Int) (k:Int):Int:=match is[k.toNat]? with
 | some v=>v
 | none=>0
noncomputable abbrev abc:List Nat:=[97,98,99,100,101,102,103,104,105,106,107,108,109,110,111,112,113,114,115,116,117,118,119,120,121,122]
noncomputable abbrev abc36:List Nat:=[97,98,99,100,101,102,103,104,105,106,107,108,109,110,111,112,113,114,115,116,117,118,119,120,121,122,48,49,50,51,52,53,54,55,56,57]
theorem abc_lt:∀c∈abc,c<128:=by decide
theorem abc_sub:∀c∈abc,c∈abc36:=by decide
theorem abc36_lt:∀c∈abc36,c<128:=by decide
noncomputable def Nm (s:List Nat):Prop:=s≠[]∧s.length≤8∧(∀c∈s,c∈abc36)∧s.headD 0∈abc
theorem Nm.ok {s:List Nat}(h:Nm s):okS s:=fun c hc=>Nat.lt_trans (abc36_lt c (h.2.2.1 c hc)) (by decide)
theorem headD_app {s t:List Nat}(h:s≠[]):(s++t).headD 0=s.headD 0:=by
 cases s with
 | nil=>exact absurd rfl h
 | cons=>rfl
theorem headD_take {s:List Nat}{k:Nat}(h:0<k):(s.take k).headD 0=s.headD 0:=by
 cases s with
 | nil=>rw [List.take_nil]
 | cons=>cases k with
  | zero=>cases h
  | succ=>rfl
noncomputable def kws:List (List Nat):=[[115,101,116],[116,101,108,108],[115,107,105,112],[105,102],[101,108,115,101],[119,104,105,108,101],[101,110,100]]
theorem kws_ok:∀s∈kws,okS s:=by unfold okS kws;decide
theorem kws_len:∀s∈kws,s.length≤5:=by unfold kws;decide
include hK
theorem k_mixed {n:Nat}{x:Int}{Q:MV→List MO→Prop}{X:XT}{h:List MO}(hq:Q (.int (mix x)) h):K (n+1) 6 [.int x] Q X h:=by
 refine hK _ _ _ _ _ _ fn_law_mixed rfl rfl ?_
 refine ⟨.inr (by unfold small;decide),?_⟩
 exact hq
theorem k_cell {n:Nat}{is:List Int}{k:Int}(hk:0≤k) {Q:MV→List MO→Prop}{X:XT}{h:List MO}(hq:Q (.int (cell is k)) h):K (n+1) 5 [.scr is,.int k] Q X h:=by
 refine hK _ _ _ _ _ _ fn_law_cell_at rfl rfl ?_
 conv=>whnf
 unfold cell at hq
 by_cases hlt:k<is.length
 ·rw [decide_eq_true hlt]
  conv=>whnf
  rw [pidx_nat hk hlt]
  dsimp only
  rw [get_some (tn hk hlt)] at hq ⊢
  exact hq
 ·rw [decide_eq_false hlt]
  rw [List.getElem?_eq_none (by lia)] at hq
  exact hq
theorem kw_end {n:Nat}{s:List Nat}{Q:MV→List MO→Prop}{X:XM}{m:MS}(v:Nat) (hv:m.get v=some (.str s)) (hs:Nm s) (hq:∀s' h',Nm s'→m.heap<+:h'→Q (.str s') h') :
  wpSs K n [.ite (.cmp .inn (.var v) (.list [.cst (.str [115,101,116]),.cst (.str [116,101,108,108]),.cst (.str [115,107,105,112]),.cst (.str [105,102]),.cst (.str [101,108,115,101]),.cst (.str [119,104,105,108,101]),.cst (.str [101,110,100])])) [.ret (.bin .add (.var v) (.cst (.str [48])))] [],.ret (.var v)] (fin Q) X m:=by
 have e:∀{Q:PQ} {X:XM} {m':MS},m'.vars=m.vars→Q (.str s) m'→wpE K n (.var v) Q X m':=fun {Q X m'} e h=>by
  exact e_var (by rw [←hv];unfold MS.get;rw [e]) h
 show wpE K n (.var v) _ X _
 refine e (X:=X) rfl ?_
 refine onLD_list get_push ?_
 show InP _ _ (kws.map .str) _
 refine in_strs hs.ok kws_ok ?_
 cases hc:kws.contains s with
 | true=>
  show wpE K n (.var v) _ X _
  refine e (X:=X) rfl ?_
  have hl:=kws_len s (by simpa using hc)
  refine ⟨by show s.length+1≤2 ^ 24;lia,hq _ _ ⟨by simp,by simp;exact Nat.le_trans hl (nb rfl),?_,by rw [headD_app hs.1];exact hs.2.2.2⟩ (pre_push (pre_self _))⟩
  intro c hc
  rcases List.mem_append.mp hc with h | h
  ·exact hs.2.2.1 c h
  ·rw [List.mem_singleton.mp h];decide
 | false=>
  show wpE K n (.var v) _ X _
  refine e (X:=X) rfl ?_
  exact hq s _ hs (pre_push (pre_self _))
theorem k_name_by {n:Nat}{x:Int}{Q:MV→List MO→Prop}{X:XT}{h:List MO}(hq:∀s h',Nm s→h<+:h'→Q (.str s) h'):K (n+2) 7 [.int x] Q X h:=by
 refine hK _ _ _ _ _ _ fn_law_name_by rfl rfl ?_
 conv=>whnf
 rw [pidx_nat (em0 rfl) (by show (_:Int)<26;exact em2 rfl)]
 refine onO_at (get_some (by show _<26;exact emN rfl)) ?_
 refine onIt_at (iter_range1 (by lia) (by lia)) ?_
 refine forL_w3 (fun i s (z:Int) w=>⟨[some (.int x),some (.str s),some (.int z),w],h⟩) (fun i s (z:Int) w=>A3 (s.length=i+1) (∀c∈s,c∈abc36) (s.headD 0∈abc)) _ _ _ rfl ⟨rfl,?_,List.getElem_mem _⟩ (fun _ _ _ _ _=>trivial) (fun i y s z w P hy hI hn _=>?_) (fun s z w hI=>?_)
 ·intro c hc
  simp only [List.mem_singleton] at hc;subst hc;exact abc_sub _ (List.getElem_mem _)
 ·obtain ⟨hi,rfl⟩:=range_at hy
  obtain ⟨hl,hc,hh⟩:=hI
  refine k_mixed hK ?_
  conv=>whnf
  rw [pidx_nat (em0 rfl) (by show (_:Int)<36;exact em2 rfl)]
  refine onO_at (get_some (by show _<36;exact emN rfl)) ?_
  refine ⟨by show s.length+1≤2 ^ 24;lia,?_⟩
  refine hn _ _ _ ⟨by simp;exact hl,?_,by rw [headD_app (fun q=>by rw [q] at hl;simp at hl)];exact hh⟩
  intro c h
  rcases List.mem_append.mp h with h | h
  ·exact hc c h
  ·simp only [List.mem_singleton] at h;subst h;exact List.getElem_mem _
 ·obtain ⟨hl,hc,hh⟩:=hI
  rw [range_len] at hl
  exact kw_end hK 1 rfl ⟨fun q=>by rw [q] at hl;simp at hl,by lia,hc,hh⟩ hq
end Internal
end
section
namespace Internal
variable {K:KT}(hK:Closed PP K)
include hK
theorem twin_rest {n:Nat}{s so:List Nat}{c a:Int}{Q:MV→List MO→Prop}{X:XM}{h:List MO}(hs:Nm s) (ha:0≤a) (hb:a<s.length) (h1:2≤so.length) (h2:so.length≤36) (h3:∀c∈so,c∈abc36) (h4:a=0→∀c∈so,c∈abc) (hq:∀s' h',Nm s'→h<+:h'→Q (.str s') h') :
  wpSs K n (fn_law_twin.body.drop 3) (fin Q) X ⟨[some (.str s),some (.int c),some (.str so),some (.int a),none,none],h⟩:=by
 conv=>whnf
 rw [pidx_nat ha hb]
 dsimp only
 have hA:=tn ha hb
 refine onO_at (get_some hA) ?_
 intro k hk
 refine onT_at (decide_eq_true (by lia)) ?_
 refine onT_at (decide_eq_true (cpos (n1 h1 (by simp +arith only)))) ?_
 conv=>whnf
 have hm:∀x:Int,0≤x % so.length∧x % so.length<so.length:=fun x=>have hp:0<so.length:=Nat.le_trans (nb rfl) h1;⟨Int.emod_nonneg _ (cne hp),Int.emod_lt_of_pos _ (cpos hp)⟩
 rw [pidx_nat (hm _).1 (hm _).2]
 refine onO_at (get_some (tn (hm _).1 (hm _).2)) ?_
 have hlen:=hs.2.1
 have key:min a.toNat s.length+1+(s.length-(a+1).toNat)≤8:=by
  rw [Int.toNat_add ha (by decide),Nat.min_eq_left (Nat.le_of_lt hA)]
  exact Nat.le_trans (Nat.le_of_eq (Nat.add_sub_cancel' hA)) hlen
 rw [pslice_to ha]
 refine ⟨le_line (by rw [List.length_take];exact Nat.le_trans (Nat.le_add_right _ _) (lk key rfl)),?_⟩
 conv=>whnf
 rw [pslice_from (z1 ha (by simp +arith only))]
 refine ⟨le_line (by rw [List.length_append,List.length_take,List.length_drop];exact lk key rfl),?_⟩
 refine kw_end hK 5 rfl ⟨by simp,?_,?_,?_⟩ hq
 ·rw [List.length_append,List.length_append,List.length_take,List.length_drop];exact key
 ·intro c hc
  rcases List.mem_append.mp hc with h | h
  ·rcases List.mem_append.mp h with h | h
   ·exact hs.2.2.1 c (List.mem_of_mem_take h)
   ·simp only [List.mem_singleton] at h;subst h;exact h3 _ (List.getElem_mem _)
  ·exact hs.2.2.1 c (List.mem_of_mem_drop h)
 ·rw [List.append_assoc]
  by_cases q:a=0
  ·subst q;exact h4 rfl _ (List.getElem_mem _)
  ·rw [headD_app (fun e=>by have:=congrArg List.length e;rw [List.length_take,List.length_nil] at this;lia),headD_take (by lia)]
   exact hs.2.2.2
theorem k_twin {n:Nat}{s:List Nat}{c:Int}{Q:MV→List MO→Prop}{X:XT}{h:List MO}(hs:Nm s) (hq:∀s' h',Nm s'→h<+:h'→Q (.str s') h'):K (n+1) 8 [.str s,.int c] Q X h:=by
 refine hK _ _ _ _ _ _ fn_law_twin rfl rfl ?_
 have hp:0<s.length:=List.length_pos_iff.mpr hs.1
 refine onT_at (decide_eq_true (cpos hp)) ?_
 conv=>whnf
 have h0:0≤c % (s.length:Int):=Int.emod_nonneg _ (cne hp)
 have h1:c % (s.length:Int)<s.length:=Int.emod_lt_of_pos _ (cpos hp)
 by_cases q:0<c % (s.length:Int)
 ·rw [decide_eq_true q]
  refine ⟨le_line (by decide),?_⟩
  exact twin_rest hK (so:=abc36) hs h0 h1 (by decide) (by decide) (fun _ h=>h) (fun e=>by lia) hq
 ·rw [decide_eq_false q]
  exact twin_rest hK (so:=abc) hs h0 h1 (by decide) (by decide) abc_sub (fun _ _ h=>h) hq
end Internal
end
section
namespace Internal
noncomputable def lt26 (x:Int):Nat:=97+(x % 26).toNat
theorem abc_at (x:Int):abc[(x % 26).toNat]?=some (lt26 x):=by
 have h:∀i,i<26→abc[i]?=some (97+i):=by decide
 exact h _ (emN rfl)
theorem lt26_in (x:Int):lt26 x∈abc36:=abc_sub _ (List.mem_of_getElem? (abc_at x))
noncomputable def cand (p:List Nat) (o:Int) (j:Nat):List Nat:=p++[lt26 (o+5 * j)]
theorem cand_ne {p:List Nat}{o:Int}{i j:Nat}(h:i<j) (hj:j≤9):cand p o i≠cand p o j:=fun e=>by
 unfold cand at e
 have:=List.append_cancel_left e
 simp only [List.cons.injEq,and_true] at this
 have h1:(o+5 * (i:Int)) % 26=(o+5 * (j:Int)) % 26:=by rw [←Int.toNat_of_nonneg (em0 rfl:0≤(o+5 * (i:Int)) % 26),Nat.add_left_cancel this,Int.toNat_of_nonneg (em0 rfl)]
 have h2:=Int.emod_eq_emod_iff_emod_sub_eq_zero.mp h1.symm
 rw [show o+5 * (j:Int)-(o+5 * (i:Int))=((5 * (j-i):Nat):Int) by first | lia | omega] at h2
 exact (by decide:∀d:Fin 10,0<d.1→((5 * d.1:Nat):Int) % 26≠0) ⟨j-i,Nat.lt_succ_of_le (Nat.le_trans (Nat.sub_le _ _) hj)⟩ (Nat.sub_pos_of_lt h) h2
theorem cand_in {p:List Nat}{o:Int}{ss:List (List Nat)}(hl:ss.length≤9) (h:∀i,i≤9→cand p o i∈ss):False:=by
 have hn:((List.range 10).map (cand p o)).Nodup:=by
  refine List.pairwise_map.mpr ((List.pairwise_lt_range (n:=10)).imp_of_mem fun {a b} ha hb hlt=>cand_ne hlt ?_)
  simp at hb;exact n1 hb (by simp +arith only)
 have:=pigeon _ ss hn fun x hx=>by
  obtain ⟨i,hi,rfl⟩:=List.mem_map.mp hx
  simp at hi
  exact h i (n1 hi (by simp +arith only))
 simp at this;exact nf (n2 this hl (by simp +arith only))
noncomputable def Ph (ss:List (List Nat)) (i:Int) (k:Nat) (s:List Nat) (u:Int):Prop:=
 21-s.length≤k∨∃p o j,p.length=7∧j≤9∧s=cand p o j∧(∀i',i'<j→cand p o i'∈ss)∧u+8+i=o+5 * ((j:Int)+1)∧11-j≤k
theorem ph_step {ss:List (List Nat)}{i:Int}{k:Nat}{s:List Nat}{u:Int}(hs:Nm s) (hl:ss.length≤9) (hin:s∈ss∨s∈kws) (h:Ph ss i (k+1) s u) :
  Nm (s.take 7++[lt26 (u+s.length+i)])∧Ph ss i k (s.take 7++[lt26 (u+s.length+i)]) (u+5):=by
 have hlen:=hs.2.1
 have hne:0<s.length:=List.length_pos_iff.mpr hs.1
 refine ⟨⟨by simp,by simp;lia,fun c hc=>?_,by rw [headD_app (fun e=>by have:=congrArg List.length e;rw [List.length_take,List.length_nil] at this;lia),headD_take (by decide)];exact hs.2.2.2⟩,?_⟩
 ·rcases List.mem_append.mp hc with h | h
  ·exact hs.2.2.1 c (List.mem_of_mem_take h)
  ·simp only [List.mem_singleton] at h;subst h;exact lt26_in _
 ·rcases h with h | ⟨p,o,j,hp,hj,hc,hv,hu,hk⟩
  ·by_cases q:s.length=8
   ·refine .inr ⟨s.take 7,u+s.length+i,0,by rw [List.length_take,q];rfl,nb rfl,?_,fun i' hi=>absurd hi (Nat.not_lt_zero _),by lia,by rw [q] at h;exact Nat.le_trans (nb rfl:11≤12) (Nat.le_of_succ_le_succ h)⟩
    unfold cand;simp
   ·refine .inl ?_
    rw [List.length_append,List.length_take]
    rw [Nat.min_eq_right (Nat.le_of_lt_succ (Nat.lt_of_le_of_ne hlen q))]
    exact Nat.sub_le_iff_le_add.mpr (Nat.le_trans (Nat.sub_le_iff_le_add.mp h) (show k+1+s.length≤k+(s.length+1) by simp +arith only))
  ·have h8:s.length=8:=by rw [hc];unfold cand;rw [List.length_append,hp];rfl
   have hss:s∈ss:=hin.elim id fun q=>by have:=kws_len s q;lia
   by_cases q:j=9
   ·subst q
    exact (cand_in (p:=p) (o:=o) hl fun i' hi=>by
     by_cases q:i'=9
     ·subst q;rw [←hc];exact hss
     ·exact hv i' (Nat.lt_of_le_of_ne hi q)).elim
   ·refine .inr ⟨p,o,j+1,hp,Nat.lt_of_le_of_ne hj q,?_,fun i' hi=>?_,by lia,Nat.pred_le_pred hk⟩
    ·have:s.take 7=p:=by rw [hc];unfold cand;rw [←hp];simp
     rw [this,h8]
     unfold cand
     congr 3
    ·by_cases q:i'=j
     ·subst q;rw [←hc];exact hss
     ·exact hv i' (Nat.lt_of_le_of_ne (Nat.le_of_lt_succ hi) q)
variable {K:KT}(hK:Closed PP K)
include hK
theorem names_while {n:Nat}{s:List Nat}{o u i:Int}{r:Nat}{ss:List (List Nat)}{hp:List MO}{Q:Fl→MS→Prop}{X:XM}(hr:hp[r]?=some (.list (ss.map .str))) (hss:∀s∈ss,Nm s) (hl:ss.length≤9) (hs:Nm s)
  (hq:∀s' u' hp',Nm s'→s'∉ss→s'∉kws→hp<+:hp'→Q .next ⟨[some (.int o),some (.int u'),some (.ref r),some (.int i),some (.str s')],hp'⟩) :
  wpS K n (.while_ (.or [.cmp .inn (.var 4) (.var 2),.cmp .inn (.var 4) (.list [.cst (.str [115,101,116]),.cst (.str [116,101,108,108]),.cst (.str [115,107,105,112]),.cst (.str [105,102]),.cst (.str [101,108,115,101]),.cst (.str [119,104,105,108,101]),.cst (.str [101,110,100])])])
   [.asg [4] false (.bin .add (.sl (.var 4) none (some (.cst (.int 7)))) (.idx (.cst (.str [97,98,99,100,101,102,103,104,105,106,107,108,109,110,111,112,113,114,115,116,117,118,119,120,121,122])) (.bin .mod (.bin .add (.bin .add (.var 1) (.blt .len [.var 4])) (.var 3)) (.cst (.int 26))))),.asg [1] false (.bin .add (.var 1) (.cst (.int 5)))])
   Q X ⟨[some (.int o),some (.int u),some (.ref r),some (.int i),some (.str s)],hp⟩:=by
 refine ⟨30,while_inv (fun k m=>∃s u hp',m=⟨[some (.int o),some (.int u),some (.ref r),some (.int i),some (.str s)],hp'⟩∧hp<+:hp'∧Nm s∧Ph ss i k s u) (fun m ⟨s,u,hp',_,_,hs,h⟩=>?_) (fun k m W hI hW=>?_) 30 _ ⟨s,u,hp,rfl,pre_self _,hs,.inl (by lia)⟩⟩
 ·have:=hs.2.1
  rcases h with h | ⟨_,_,j,_,hj,_,_,_,h⟩<;>lia
 ·obtain ⟨s,u,hp',rfl,hpre,hs,hph⟩:=hI
  have body:∀hp'',hp<+:hp''→(s∈ss∨s∈kws)→wpSs K n [.asg [4] false (.bin .add (.sl (.var 4) none (some (.cst (.int 7)))) (.idx (.cst (.str [97,98,99,100,101,102,103,104,105,106,107,108,109,110,111,112,113,114,115,116,117,118,119,120,121,122])) (.bin .mod (.bin .add (.bin .add (.var 1) (.blt .len [.var 4])) (.var 3)) (.cst (.int 26))))),.asg [1] false (.bin .add (.var 1) (.cst (.int 5)))]
    (fun f m=>match f with
    | .next=>W m
    | .cont=>W m
    | .brk=>Q .next m
    | .ret r=>Q (.ret r) m) X ⟨[some (.int o),some (.int u),some (.ref r),some (.int i),some (.str s)],hp''⟩:=fun hp'' hpre hin=>by
   obtain ⟨g1,g2⟩:=ph_step hs hl hin hph
   conv=>whnf
   rw [pidx_nat (em0 rfl) (by show (_:Int)<26;exact em2 rfl)]
   dsimp only
   rw [abc_at]
   rw [pslice_to (by decide)]
   refine ⟨le_line (by have:=hs.2.1;rw [List.length_take];show _+1≤_;lia),?_⟩
   exact hW _ ⟨_,_,hp'',rfl,hpre,g1,g2⟩
  refine onLD_list (pre_at hpre hr) ?_
  refine in_strs hs.ok (fun t ht=>(hss t ht).ok) ?_
  cases hc:ss.contains s with
  | true=>exact body hp' hpre (.inl (by simpa using hc))
  | false=>
   refine onLD_list get_push ?_
   show InP _ _ (kws.map .str) _
   refine in_strs hs.ok kws_ok ?_
   cases hc':kws.contains s with
   | true=>exact body _ (pre_push hpre) (.inr (by simpa using hc'))
   | false=>exact hq s u _ hs (by simpa using hc) (by simpa using hc') (pre_push hpre)
noncomputable def inner:List MSt→List MSt
 | .for_ _ _ _ _ b::_=>b
 | _=>[]
theorem k_names {n:Nat}{a b:Int}{Q:MV→List MO→Prop}{X:XT}{h:List MO}(hq:∀(h':List MO) (r:Nat) (ss:List (List Nat)),h<+:h'→h.length≤r→h'[r]?=some (.list (ss.map .str))→ss.length=10→(∀s∈ss,Nm s)→ss.Nodup→(∀s∈ss,s∉kws)→Q (.ref r) h') :
  K (n+3) 9 [.int a,.int b] Q X h:=by
 refine hK _ _ _ _ _ _ fn_law_names rfl rfl ?_
 refine forL_w6 (fun i (o:Int) (u:Int) (ss:List (List Nat)) (w3:Option MV) (w4:Option MV) (hp:List MO)=>⟨[some (.int o),some (.int u),some (.ref h.length),w3,w4],hp⟩) (fun i (o:Int) (u:Int) (ss:List (List Nat)) (w3:Option MV) (w4:Option MV) (hp:List MO)=>A6 (h<+:hp) (hp[h.length]?=some (.list (ss.map .str))) (ss.length=i) (∀s∈ss,Nm s) ss.Nodup (∀s∈ss,s∉kws))
  a b [] none none _ rfl ⟨pre_push (pre_self _),get_last _ _,rfl,by simp,List.nodup_nil,by simp⟩ (fun _ _ _ _ _ _ _ _=>trivial) (fun i y o u ss w3 w4 hp P hy hI hn _=>?_) (fun o u ss w3 w4 hp hI=>?_)
 ·obtain ⟨hi,rfl⟩:=range_at hy
  obtain ⟨hpre,hr,hl,hss,hnd,hkw⟩:=hI
  have hi:i<10:=hi
  have rest:∀s hp',Nm s→hp<+:hp'→wpSs K (n+2) ((inner (fn_law_names.body.drop 1)).drop 3) P (fun c m=>X c m.heap) ⟨[some (.int (mix o)),some (.int u),some (.ref h.length),some (.int i),some (.str s)],hp'⟩:=fun s hp' hs hpre'=>by
   show wpS K (n+2) _ _ _ _
   refine names_while hK (pre_at hpre' hr) hss (n2 hi (Nat.le_of_eq hl) (by simp +arith only)) hs fun s' u' hp'' hs' h1 h2 hpre''=>?_
   have hr':=pre_at (hpre'.trans hpre'') hr
   refine onT_at (ok_append hr') ?_
   refine onL_at (lst_at hr') ?_
   refine ⟨by simp only [List.length_map];unfold line;lia,?_⟩
   refine hn _ _ (ss++[s']) _ _ _ ⟨pre_set ((hpre.trans hpre').trans hpre'') (Nat.le_refl _),?_,by simp [hl],?_,?_,?_⟩
   ·rw [get_set hr'];simp
   ·intro t ht
    rcases List.mem_append.mp ht with ht | ht
    ·exact hss t ht
    ·simp at ht;subst ht;exact hs'
   ·rw [List.nodup_append]
    exact ⟨hnd,by simp,fun t ht t' ht'=>by simp at ht';subst ht';exact fun q=>h1 (q▸ht)⟩
   ·intro t ht
    rcases List.mem_append.mp ht with ht | ht
    ·exact hkw t ht
    ·simp at ht;subst ht;exact h2
  refine k_mixed hK ?_
  refine k_name_by hK fun s h' hs hpre'=>?_
  conv=>whnf
  have hpre':hp<+:h':=hpre'
  cases hodd:((i:Int) % 2==1) with
  | false=>exact rest s h' hs hpre'
  | true=>
   have hodd:(i:Int) % 2=1:=by simpa using hodd
   conv=>whnf
   cases hu:(u / 4 % 2==1) with
   | false=>exact rest s h' hs hpre'
   | true=>
    conv=>whnf
    dsimp only [MS.set,List.set]
    refine onLs_at (pre_at hpre' hr) ?_
    have hi:0<i:=Nat.pos_of_ne_zero fun q=>by subst q;exact absurd hodd (by decide)
    have hlt:i-1<ss.length:=Nat.lt_of_lt_of_eq (Nat.sub_lt hi Nat.one_pos) hl.symm
    rw [show (i:Int)-1=((i-1:Nat):Int) from (Int.natCast_sub hi).symm]
    refine wpNth_at (j:=i-1) (v:=.str ss[i-1]) (pidx_nat (Int.natCast_nonneg _) (by rw [List.length_map];exact Int.ofNat_lt.mpr hlt)) (by rw [List.getElem?_map,get_some hlt];rfl) ?_
    refine k_mixed hK ?_
    refine k_twin hK (hss _ (List.getElem_mem _)) fun s' h'' hs' hpre''=>?_
    exact rest s' h'' hs' (hpre'.trans hpre'')
 ·obtain ⟨hpre,hr,hl,hss,hnd,hkw⟩:=hI
  exact hq hp h.length ss hpre (Nat.le_refl _) hr hl hss hnd hkw
end Internal
end
section
namespace Internal
set_option genCtorIdx false in
inductive Tm where
 | num (k:Int) | nm (s:List Nat) | op (c:Nat) (a b:Tm)
gen_injective_theorems% Tm
noncomputable abbrev sNum:List Nat:=[110,117,109,98,101,114]
noncomputable abbrev sName:List Nat:=[110,97,109,101]
noncomputable def Tm.mv:Tm→MV
 | .num k=>.tup [.str sNum,.int k]
 | .nm s=>.tup [.str sName,.str s]
 | .op c a b=>.tup [.str [c],a.mv,b.mv]
noncomputable def Tm.deep:Tm→Nat
 | .op _ a b=>max a.deep b.deep+1
 | _=>0
noncomputable def Tm.lv:Tm→Nat
 | .num _ | .nm _=>1
 | .op _ a b=>a.lv+b.lv
theorem Tm.lv_le:∀t:Tm,t.lv≤2 ^ t.deep
 | .num _=>Nat.le_refl _
 | .nm _=>Nat.le_refl _
 | .op _ a b=>by
  have ha:=Tm.lv_le a
  have hb:=Tm.lv_le b
  have h1:2 ^ a.deep≤2 ^ max a.deep b.deep:=Nat.pow_le_pow_right (by decide) (Nat.le_max_left ..)
  have h2:2 ^ b.deep≤2 ^ max a.deep b.deep:=Nat.pow_le_pow_right (by decide) (Nat.le_max_right ..)
  show a.lv+b.lv≤2 ^ (max a.deep b.deep+1)
  rw [Nat.pow_succ];lia
noncomputable def isSign (c:Nat):Prop:=c=43∨c=45∨c=42∨c=60∨c=61∨c=47
noncomputable def Tm.ok (p:List Nat→Prop):Tm→Prop
 | .num k=>0≤k∧k<1000000
 | .nm s=>p s
 | .op c a b=>isSign c∧a.ok p∧b.ok p
theorem Tm.ok.mono {p q:List Nat→Prop}(h:∀s,p s→q s):∀{t:Tm},t.ok p→t.ok q
 | .num _,x=>x
 | .nm s,x=>h s x
 | .op _ _ _,⟨x,y,z⟩=>⟨x,y.mono h,z.mono h⟩
theorem deeps_strs:∀(ss:List (List Nat)),D.deeps (ss.map .str)=0
 | []=>rfl
 | s::ss=>by show max 0 (D.deeps (ss.map .str))=0;rw [deeps_strs ss];rfl
theorem ne_nil {hp:List MO}{r r':Nat}{ss:List (List Nat)}{Q:Bool→Prop}(h1:hp[r]?=some (.list (ss.map .str))) (h2:hp[r']?=some (.list [])) (hs:∀s∈ss,okS s) (hq:Q (decide (ss=[]))):EqP hp (.ref r) (.ref r') Q:=by
 refine .mk (.list (ss.map .str)) (.list []) (.list h1 (rds_strs ss)) (.list h2 .nil) ?_ (oks_strs hs) rfl ?_
 ·show D.deeps _+1≤1000
  rw [deeps_strs];decide
 ·cases ss<;>exact hq
end Internal
end
section
namespace Internal
variable {K:KT}(hK:Closed PP K)
include hK
theorem k_end_by {n:Nat}{x:Int}{r:Nat}{ss:List (List Nat)}{Q:MV→List MO→Prop}{X:XT}{h:List MO}(hr:h[r]?=some (.list (ss.map .str))) (hs:∀s∈ss,okS s) (hq:∀t h',Tm.ok (·∈ss) t→t.deep=0→h<+:h'→Q t.mv h') :
  K (n+1) 10 [.int x,.ref r] Q X h:=by
 refine hK _ _ _ _ _ _ fn_law_end_by rfl rfl ?_
 have rest:∀h',h<+:h'→wpSs K n (fn_law_end_by.body.drop 1) (fin Q) (fun c m=>X c m.heap) ⟨[some (.int x),some (.ref r)],h'⟩:=fun h' hpre=>by
  conv=>whnf
  cases hc:(x / 3 % 4==0) with
  | true=>
   exact hq (.num (x / 12 % 10 ^ (6:Int).toNat)) h' (by show _∧_;rw [show (10:Int) ^ (6:Int).toNat=1000000 by decide];exact em rfl) rfl hpre
  | false=>
   exact hq (.num (x / 12 % 5)) h' (by show _∧_;exact em rfl) rfl hpre
 refine ne_nil (ss:=ss) (get_push_old hr) get_push hs ?_
 by_cases hn:ss=[]
 ·rw [decide_eq_true hn]
  exact rest _ (pre_push (pre_self _))
 ·rw [decide_eq_false hn]
  conv=>whnf
  have hpos:0<ss.length:=List.length_pos_iff.mpr hn
  by_cases hc:0<x % 3
  ·rw [decide_eq_true hc]
   refine onLD_list (get_push_old hr) ?_
   rw [List.length_map]
   refine onT_at (decide_eq_true (cpos hpos)) ?_
   refine onLs_at (get_push_old hr) ?_
   have h1:0≤x / 3 % (ss.length:Int):=Int.emod_nonneg _ (cne hpos)
   have h2:x / 3 % (ss.length:Int)<ss.length:=Int.emod_lt_of_pos _ (cpos hpos)
   have h3:(x / 3 % (ss.length:Int)).toNat<ss.length:=tn h1 h2
   exact wpNth_at (pidx_nat h1 (by rw [List.length_map];exact h2)) (by rw [List.getElem?_map,get_some h3];rfl) (hq (.nm _) _ (List.getElem_mem h3) rfl (pre_push (pre_self _)))
  ·rw [decide_eq_false hc]
   exact rest _ (pre_push (pre_self _))
end Internal
end
section
namespace Internal
theorem signs10_at:∀j,j<10→∃c,isSign c∧[MV.str [43],MV.str [45],MV.str [42],MV.str [60],MV.str [61],MV.str [43],MV.str [45],MV.str [60],MV.str [47],MV.str [47]][j]?=some (.str [c])
 | 0,_=>⟨43,by unfold isSign;exact by decide,rfl⟩
 | 1,_=>⟨45,by unfold isSign;exact by decide,rfl⟩
 | 2,_=>⟨42,by unfold isSign;exact by decide,rfl⟩
 | 3,_=>⟨60,by unfold isSign;exact by decide,rfl⟩
 | 4,_=>⟨61,by unfold isSign;exact by decide,rfl⟩
 | 5,_=>⟨43,by unfold isSign;exact by decide,rfl⟩
 | 6,_=>⟨45,by unfold isSign;exact by decide,rfl⟩
 | 7,_=>⟨60,by unfold isSign;exact by decide,rfl⟩
 | 8,_=>⟨47,by unfold isSign;exact by decide,rfl⟩
 | 9,_=>⟨47,by unfold isSign;exact by decide,rfl⟩
 | _+10,h=>by lia
theorem signs6_at:∀j,j<6→∃c,isSign c∧[MV.str [43],MV.str [45],MV.str [42],MV.str [47],MV.str [60],MV.str [61]][j]?=some (.str [c])
 | 0,_=>⟨43,by unfold isSign;exact by decide,rfl⟩
 | 1,_=>⟨45,by unfold isSign;exact by decide,rfl⟩
 | 2,_=>⟨42,by unfold isSign;exact by decide,rfl⟩
 | 3,_=>⟨47,by unfold isSign;exact by decide,rfl⟩
 | 4,_=>⟨60,by unfold isSign;exact by decide,rfl⟩
 | 5,_=>⟨61,by unfold isSign;exact by decide,rfl⟩
 | _+6,h=>by lia
variable {K:KT}(hK:Closed PP K)
include hK
theorem k_formula:∀(L:Nat) {n:Nat}{x l:Int}{r rl:Nat}{d:Bool}{ss sl:List (List Nat)}{Q:MV→List MO→Prop}{X:XT}{h:List MO},l=(L:Int)+1→h[r]?=some (.list (ss.map .str))→h[rl]?=some (.list (sl.map .str))→(∀s∈ss,okS s)→(∀s∈sl,okS s)→
  (∀t h',Tm.ok (fun s=>s∈ss∨s∈sl) t→t.deep≤L→h<+:h'→Q t.mv h')→K (n+L+2) 11 [.int x,.ref r,.ref rl,.bool d,.int l] Q X h:=by
 intro L
 induction L with
 | zero=>
  intro n x l r rl d ss sl Q X h hl hr hrl hs hsl hq
  refine hK _ _ _ _ _ _ fn_law_formula_by rfl rfl ?_
  refine k_mixed hK ?_
  conv=>whnf
  have e:(l==1)=true:=by simp [hl]
  rw [e]
  refine k_end_by hK hr hs fun t h' ht hd hpre=>?_
  exact hq t h' (ht.mono fun s=>.inl) (n1 (Nat.le_of_eq hd) (by simp +arith only)) hpre
 | succ L ih=>
  intro n x l r rl d ss sl Q X h hl hr hrl hs hsl hq
  refine hK _ _ _ _ _ _ fn_law_formula_by rfl rfl ?_
  refine k_mixed hK ?_
  conv=>whnf
  have e:(l==1)=false:=by simp [hl];lia
  rw [e]
  conv=>whnf
  by_cases hc:mix x % 8<3
  ·rw [decide_eq_true hc]
   refine k_end_by hK hr hs fun t h' ht hd hpre=>?_
   exact hq t h' (ht.mono fun s=>.inl) (n1 (Nat.le_of_eq hd) (by simp +arith only)) hpre
  ·rw [decide_eq_false hc]
   conv=>whnf
   rw [get_push]
   dsimp only
   delta wpNth onO;try dsimp only
   rw [pidx_b2i]
   dsimp only
   rw [get_b2n]
   have hj:∃j:Int,(j=8∨j=10)∧sel d (MV.int 8) (.int 10)=.int j:=by
    cases d
    ·exact ⟨8,.inl rfl,rfl⟩
    ·exact ⟨10,.inr rfl,rfl⟩
   obtain ⟨j,hj,e1⟩:=hj
   rw [e1]
   have hj0:0<j:=by rcases hj with rfl | rfl<;>decide
   have hj1:j≤10:=by rcases hj with rfl | rfl<;>decide
   refine onT_at (decide_eq_true hj0) ?_
   conv=>whnf
   rw [get_push2]
   dsimp only
   have h1:0≤mix x / 8 % j:=Int.emod_nonneg _ (Int.ne_of_gt hj0)
   have h2:mix x / 8 % j<j:=Int.emod_lt_of_pos _ hj0
   delta wpNth onO;try dsimp only
   rw [pidx_nat h1 (by show _<(10:Int);exact Int.lt_of_lt_of_le h2 hj1)]
   dsimp only
   obtain ⟨c,hcs,e3⟩:=signs10_at (mix x / 8 % j).toNat (tn h1 (Int.lt_of_lt_of_le h2 hj1))
   rw [e3]
   refine ⟨.inr (by unfold small;decide),?_⟩
   have er:n+(L+1)+1=n+L+2:=rfl
   rw [er]
   have hp0:∀o o',h<+:(h++[o])++[o']:=fun o o'=>pre_push (pre_push (pre_self _))
   refine ih (by lia) (pre_at (hp0 _ _) hr) (pre_at (hp0 _ _) hrl) hs hsl fun t h₁ ht hd hpre0=>?_
   have hpre:h<+:h₁:=(hp0 _ _).trans hpre0
   clear hpre0
   have last:∀{h₂:List MO} {rr:Nat} {sr:List (List Nat)} {V:List MO→List (Option MV)},h₂[rr]?=some (.list (sr.map .str))→h₂[rl]?=some (.list (sl.map .str))→h<+:h₂→(∀s∈sr,okS s)→(∀s,s∈sr∨s∈sl→s∈ss∨s∈sl)→
     K (n+L+2) 11 [.int (mix x * 5+2),.ref rr,.ref rl,.bool d,.int (l-1)] (fun v h'=>Q (.tup [.str [c],t.mv,v]) h') (fun c h'=>X c h') h₂:=fun {h₂ rr sr V} g1 g2 hp2 g3 g4=>by
    refine ih (by lia) g1 g2 g3 hsl fun t' h' ht' hd' hpre'=>?_
    refine hq (.op c t t') h' ⟨hcs,ht,ht'.mono g4⟩ ?_ (hp2.trans hpre')
    exact Nat.succ_le_succ (mx hd hd')
   conv=>whnf
   by_cases h47:c=47
   ·subst h47
    conv=>whnf
    by_cases h3:mix x / 80 % 4<3
    ·rw [decide_eq_true h3]
     refine hq (.op 47 t (.num (1+mix x / 320 % 9))) h₁ ⟨hcs,ht,by show _∧_;lia⟩ ?_ hpre
     exact Nat.succ_le_succ (mx0 hd)
    ·rw [decide_eq_false h3]
     refine ⟨.inr (by unfold small;decide),?_⟩
     exact last (V:=fun _=>[]) (pre_at hpre hrl) (pre_at hpre hrl) hpre hsl fun s hs=>hs.elim .inr .inr
   ·have e47:([c]==[47])=false:=by simpa using h47
    rw [e47]
    conv=>whnf
    rw [e47]
    refine ⟨.inr (by unfold small;decide),?_⟩
    exact last (V:=fun _=>[]) (pre_at hpre hr) (pre_at hpre hrl) hpre hs fun s hs=>hs
end Internal
end
section
namespace Internal
noncomputable abbrev wSet:List Nat:=[115,101,116]
noncomputable abbrev wTell:List Nat:=[116,101,108,108]
noncomputable abbrev wSkip:List Nat:=[115,107,105,112]
noncomputable abbrev wIf:List Nat:=[105,102]
noncomputable abbrev wElse:List Nat:=[101,108,115,101]
noncomputable abbrev wWhile:List Nat:=[119,104,105,108,101]
noncomputable abbrev wEnd:List Nat:=[101,110,100]
set_option genCtorIdx false in
inductive Rw where
 | set (s:List Nat) (t:Tm) | tell (t:Tm) | skip | ite (t:Tm) (a b:List Rw) | wh (t:Tm) (a:List Rw)
gen_injective_theorems% Rw
noncomputable def Gn (s:List Nat):Prop:=Nm s∧s∉kws
noncomputable def Tm.good (t:Tm):Prop:=t.ok Gn∧t.deep≤3
noncomputable def Tm.txt:Tm→List Nat
 | .num k=>dec k
 | .nm s=>s
 | .op c a b=>[c]++[32]++a.txt++[32]++b.txt
mutual
noncomputable def Rw.mv:Rw→MV
 | .set s t=>.tup [.str wSet,.str s,t.mv]
 | .tell t=>.tup [.str wTell,t.mv]
 | .skip=>.tup [.str wSkip]
 | .ite t a b=>.tup [.str wIf,t.mv,.tup (mvs a),.tup (mvs b)]
 | .wh t a=>.tup [.str wWhile,t.mv,.tup (mvs a)]
noncomputable def mvs:List Rw→List MV
 | []=>[]
 | r::rs=>r.mv::mvs rs
end
mutual
noncomputable def Rw.good:Rw→Prop
 | .set s t=>Gn s∧t.good
 | .tell t=>t.good
 | .skip=>True
 | .ite t a b=>t.good∧goods a∧goods b
 | .wh t a=>t.good∧goods a
noncomputable def goods:List Rw→Prop
 | []=>True
 | r::rs=>r.good∧goods rs
end
mutual
noncomputable def Rw.nest:Rw→Nat
 | .ite _ a b=>max (nests a) (nests b)+1
 | .wh _ a=>nests a+1
 | _=>0
noncomputable def nests:List Rw→Nat
 | []=>0
 | r::rs=>max r.nest (nests rs)
end
mutual
noncomputable def Rw.lines:Rw→List (List Nat)
 | .set s t=>[wSet++[32]++s++[32]++t.txt]
 | .tell t=>[wTell++[32]++t.txt]
 | .skip=>[wSkip]
 | .ite t a b=>(wIf++[32]++t.txt)::(lns a++wElse::(lns b++[wEnd]))
 | .wh t a=>(wWhile++[32]++t.txt)::(lns a++[wEnd])
noncomputable def lns:List Rw→List (List Nat)
 | []=>[]
 | r::rs=>r.lines++lns rs
end
theorem mvs_app:∀(a b:List Rw),mvs (a++b)=mvs a++mvs b
 | [],b=>rfl
 | r::a,b=>by show r.mv::mvs (a++b)=r.mv::(mvs a++mvs b);rw [mvs_app a b]
theorem lns_app:∀(a b:List Rw),lns (a++b)=lns a++lns b
 | [],b=>rfl
 | r::a,b=>by show r.lines++lns (a++b)=r.lines++lns a++lns b;rw [lns_app a b,List.append_assoc]
theorem goods_app:∀{a b:List Rw},goods a→goods b→goods (a++b)
 | [],_,_,h=>h
 | _::_,_,h,h'=>⟨h.1,goods_app h.2 h'⟩
theorem nests_app:∀{a b:List Rw}{k:Nat},nests a≤k→nests b≤k→nests (a++b)≤k
 | [],_,_,_,h=>h
 | r::a,b,k,h,h'=>by
  have h:max r.nest (nests a)≤k:=h
  exact Nat.max_le.mpr ⟨(Nat.max_le.mp h).1,nests_app (Nat.max_le.mp h).2 h'⟩
theorem goods_mem:∀{rs:List Rw},goods rs→∀r∈rs,r.good
 | _::_,h,r,hr=>by
  rcases List.mem_cons.mp hr with rfl | hr
  ·exact h.1
  ·exact goods_mem h.2 r hr
theorem nests_mem:∀{rs:List Rw}{k:Nat},nests rs≤k→∀r∈rs,r.nest≤k
 | q::rs,k,h,r,hr=>by
  have h:max q.nest (nests rs)≤k:=h
  rcases List.mem_cons.mp hr with rfl | hr
  ·exact (Nat.max_le.mp h).1
  ·exact nests_mem (Nat.max_le.mp h).2 r hr
theorem mvs_len:∀(rs:List Rw),(mvs rs).length=rs.length
 | []=>rfl
 | r::rs=>congrArg (·+1) (mvs_len rs)
theorem lines_pos (r:Rw):1≤r.lines.length:=by
 cases r<;>exact Nat.le_add_left 1 _
theorem rows_le:∀(rs:List Rw),rs.length≤(lns rs).length
 | []=>Nat.le_refl _
 | r::rs=>by
  have h1:=lines_pos r
  have h2:=rows_le rs
  show rs.length+1≤(r.lines++lns rs).length
  rw [List.length_append];exact n2 h2 h1 (by simp +arith only)
theorem mvs_get {rs:List Rw}{j:Nat}{x:MV}:(mvs rs)[j]?=some x→∃r,rs[j]?=some r∧x=r.mv:=by
 induction rs generalizing j with
 | nil=>intro h;cases h
 | cons r rs ih=>
  intro h
  cases j with
  | zero=>exact ⟨r,rfl,(Option.some.inj h).symm⟩
  | succ j=>exact ih h
theorem Tm.good.sub {c:Nat}{a b:Tm}(h:(Tm.op c a b).good):a.good∧b.good:=by
 obtain ⟨⟨_,h1,h2⟩,h3⟩:=h
 have h3:max a.deep b.deep+1≤3:=h3
 exact ⟨⟨h1,n2 h3 (Nat.le_max_left a.deep b.deep) (by simp +arith only)⟩,h2,n2 h3 (Nat.le_max_right a.deep b.deep) (by simp +arith only)⟩
theorem room {N k:Nat}(h:k<N):∃M,N=M+1∧k≤M:=⟨N-1,sb (n1 h (by simp +arith only)),by lia⟩
theorem lns_one (r:Rw):lns [r]=r.lines:=List.append_nil _
theorem set_other {h:List MO}{i j:Nat}{o o':MO}(hne:i≠j) (e:h[j]?=some o):(h.set i o')[j]?=some o:=by
 rw [List.getElem?_set_ne hne];exact e
theorem get_add (hp:List MO) (x y:List (List Nat)):(hp++[MO.list (x.map .str++y.map .str)])[hp.length]?=some (.list ((x++y).map .str)):=by
 rw [get_last,List.map_append]
theorem len_add {x y:List (List Nat)}(h:x.length+y.length≤100000):(x.map MV.str).length+(y.map MV.str).length≤line:=le_line (by rw [List.length_map,List.length_map];exact Nat.le_trans h (nb rfl))
theorem compL_inv {g:Option (Nat × List MV)}{step:MV→(Option MV→MS→Prop)→MS→Prop}{Q:List MV→MS→Prop}(I:Nat→List MV→MS→Prop) {items:List MV}{m:MS}(h0:I 0 [] m) (hg:∀i a m,I i a m→guardOk g m.heap)
  (hstep:∀i x a m (P:Option MV→MS→Prop),items[i]?=some x→I i a m→(∀y m',I (i+1) (a++[y]) m'→P (some y) m')→(∀m',I (i+1) a m'→P none m')→step x P m)
  (hend:∀a m,I items.length a m→Q a m):compL g step Q items [] m:=by
 have key:∀(l:List MV) (i:Nat) (a:List MV) (m:MS),i+l.length=items.length→items.drop i=l→I i a m→compL g step Q l a m:=by
  intro l
  induction l with
  | nil=>
   intro i a m hl e hI
   have hl:i=items.length:=hl
   subst hl
   rw [compL_nil]
   exact ⟨hg _ _ m hI,hend a m hI⟩
  | cons x l ih=>
   intro i a m hl e hI
   rw [List.length_cons] at hl
   have hlt:i<items.length:=n1 (Nat.le_of_eq hl) (by simp +arith only)
   have e':=List.drop_eq_getElem_cons hlt
   rw [e] at e'
   obtain ⟨e1,e2⟩:=List.cons.inj e'
   rw [compL_cons]
   exact ⟨hg i a m hI,hstep i x a m _ (by rw [List.getElem?_eq_getElem hlt,e1]) hI (fun y m' h'=>ih (i+1) _ m' (by lia) e2.symm h') fun m' h'=>ih (i+1) _ m' (by lia) e2.symm h'⟩
 exact key items 0 [] m (by simp) (by simp) h0
theorem compL_u {σ:Type}(st:σ→MS) (I:σ→Prop) {g:Option (Nat × List MV)}{step:MV→(Option MV→MS→Prop)→MS→Prop}{Q:List MV→MS→Prop}{items:List MV}{m:MS}(w:σ) (e0:m=st w) (h0:I w) (hg:∀w,I w→guardOk g (st w).heap)
  (hstep:∀(i:Nat) x w (P:Option MV→MS→Prop),items[i]?=some x→I w→(∀y w,I w→P (some y) (st w))→(∀w,I w→P none (st w))→step x P (st w)) (hend:∀a w,I w→Q a (st w)):compL g step Q items [] m:=by
 refine compL_inv (fun i a m=>∃w,m=st w∧I w) ⟨w,e0,h0⟩ (fun i a m hI=>?_) (fun i x a m P hx hI h1 h2=>?_) (fun a m hI=>?_)
 ·obtain ⟨w,rfl,h⟩:=hI;exact hg w h
 ·obtain ⟨w,rfl,h⟩:=hI;exact hstep i x w P hx h (fun y w h=>h1 y _ ⟨w,rfl,h⟩) fun w h=>h2 _ ⟨w,rfl,h⟩
 ·obtain ⟨w,rfl,h⟩:=hI;exact hend a w h
theorem compL_w (st:Option MV→MS) (acc:Nat→List MV) {g:Option (Nat × List MV)}{step:MV→(Option MV→MS→Prop)→MS→Prop}{Q:List MV→MS→Prop}{items:List MV}{m:MS}(w:Option MV) (e0:m=st w) (a0:acc 0=[]) (hg:∀w,guardOk g (st w).heap)
  (hstep:∀i x w (P:Option MV→MS→Prop),items[i]?=some x→(∀y w,acc (i+1)=acc i++[y]→P (some y) (st w))→(∀w,acc (i+1)=acc i→P none (st w))→step x P (st w)) (hend:∀w,Q (acc items.length) (st w)):compL g step Q items [] m:=by
 refine compL_inv (fun i a m=>∃w,m=st w∧a=acc i) ⟨w,e0,a0.symm⟩ (fun i a m hI=>?_) (fun i x a m P hx hI h1 h2=>?_) (fun a m hI=>?_)
 ·obtain ⟨w,rfl,_⟩:=hI;exact hg w
 ·obtain ⟨w,rfl,rfl⟩:=hI;exact hstep i x w P hx (fun y w e=>h1 y _ ⟨w,rfl,e.symm⟩) fun w e=>h2 _ ⟨w,rfl,e.symm⟩
 ·obtain ⟨w,rfl,rfl⟩:=hI;exact hend w
theorem ok_extend {hp:List MO}{r:Nat}{xs:List MV}(e:hp[r]?=some (.list xs)):mthOk .extend (.ref r) hp=true:=by
 show (lstO r hp[r]?).isSome=true;rw [e];rfl
theorem take_next {α:Type}{rs:List α}{j:Nat}{r:α}(e:rs[j]?=some r):rs.take (j+1)=rs.take j++[r]:=by
 rw [List.take_add_one,e];rfl
noncomputable abbrev sgs:List (List Nat):=[[43],[45],[42],[47],[60],[61]]
theorem sgs_ok:∀s∈sgs,okS s:=by unfold okS;decide
theorem sign_in {c:Nat}(h:isSign c):sgs.contains [c]=true∧okS [c]:=by
 rcases h with rfl | rfl | rfl | rfl | rfl | rfl<;>exact ⟨rfl,by unfold okS;decide⟩
end Internal
end
section
namespace Internal
variable {K:KT}(hK:Closed PP K)
include hK
theorem k_whole {n:Nat}{k b:Int}{Q:MV→List MO→Prop}{X:XT}{h:List MO}(h0:0≤k) (h1:k≤b) (hq:Q (.bool true) h):K (n+1) 22 [.int k,.int b] Q X h:=by
 refine hK _ _ _ _ _ _ fn_is_whole rfl rfl ?_
 conv=>whnf
 rw [decide_eq_true h0]
 conv=>whnf
 rw [decide_eq_true h1]
 exact hq
theorem k_number {n:Nat}{k:Int}{Q:MV→List MO→Prop}{X:XT}{h:List MO}(h0:0≤k∧k<1000000) (hq:Q (.bool true) h):K (n+2) 23 [.int k] Q X h:=by
 refine hK _ _ _ _ _ _ fn_is_number rfl rfl ?_
 exact k_whole hK h0.1 (z1 h0.2 (by simp +arith only)) hq
omit hK in
theorem all128 {s:List Nat}(h:∀c∈s,c<128):s.all (fun c=>decide (c<128))=true:=List.all_eq_true.mpr fun c hc=>decide_eq_true (h c hc)
omit hK in
theorem iter_str {s:List Nat}{hp:List MO}(h:∀c∈s,c<128):iterOf .val [.str s] hp=some (s.map (fun c=>.str [c]),none):=by
 show (match s.all (fun c=>decide (c<128)) with
  | true=>some (s.map (fun c=>MV.str [c]),none)
  | false=>none)=_
 rw [all128 h]
omit hK in
theorem signs_at {s:List Nat}{i:Nat}{x:MV}(e:(s.map (fun c=>MV.str [c]))[i]?=some x):∃c∈s,x=.str [c]:=by
 obtain ⟨c,h1,h2⟩:=List.getElem?_map ..▸e |> Option.map_eq_some_iff.mp
 exact ⟨c,List.mem_of_getElem? h1,h2.symm⟩
omit hK in
theorem get_head {s:List Nat}(h:s≠[]):s[0]?=some (s.headD 0):=by
 cases s with
 | nil=>exact absurd rfl h
 | cons=>rfl
noncomputable abbrev figs10:List Nat:=[48,49,50,51,52,53,54,55,56,57]
omit hK in
theorem abc36_two:∀c∈abc36,abc.contains c=true∨figs10.contains c=true:=by decide
theorem k_isname {n:Nat}{s:List Nat}{Q:MV→List MO→Prop}{X:XT}{h:List MO}(hs:Gn s) (hq:Q (.bool true) h):K (n+1) 24 [.str s] Q X h:=by
 have hp:0<s.length:=List.length_pos_iff.mpr hs.1.1
 have h8:=hs.1.2.1
 refine hK _ _ _ _ _ _ fn_is_name rfl rfl ?_
 conv=>whnf
 rw [decide_eq_true (show (1:Int)≤s.length by lia)]
 conv=>whnf
 rw [decide_eq_true (show (s.length:Int)≤8 by lia)]
 show InP _ _ (kws.map .str) _
 refine in_strs hs.1.ok kws_ok ?_
 rw [show kws.contains s=false by simpa using hs.2]
 refine wpNth_at (pidx_nat (by decide) (cpos hp)) (show s[(0:Int).toNat]?=some (s.headD 0) from get_head hs.1.1) ?_
 conv=>whnf
 rw [show abc.contains (s.headD 0)=true by simpa using hs.1.2.2.2]
 refine onIt_at (iter_str fun c hc=>abc36_lt c (hs.1.2.2.1 c hc)) ?_
 refine forL_inv (fun i m=>m.heap=h∧∃w,m.vars=[some (.str s),w]) (fun _ _=>False) ⟨rfl,_,rfl⟩ (fun _ _ _=>trivial) (fun i y m P hy hI hn _ _=>?_) (fun m hI=>?_) (fun _ _ h=>h.elim)
 ·obtain ⟨c,hc,rfl⟩:=signs_at hy
  obtain ⟨vars,hp⟩:=m
  obtain ⟨rfl,w,rfl⟩:=hI
  conv=>whnf
  have h2:=abc36_two c (hs.1.2.2.1 c hc)
  cases h3:abc.contains c with
  | true=>exact hn _ ⟨rfl,_,rfl⟩
  | false=>
   conv=>whnf
   rw [h2.resolve_left (by rw [h3];decide)]
   exact hn _ ⟨rfl,_,rfl⟩
 ·obtain ⟨vars,hp⟩:=m
  obtain ⟨rfl,w,rfl⟩:=hI
  exact hq
end Internal
end
section
namespace Internal
noncomputable def Tm.ws:Tm→List (List Nat)
 | .num k=>[dec k]
 | .nm s=>[s]
 | .op c a b=>[c]::(a.ws++b.ws)
theorem glue_app (c:Nat):∀{x y:List (List Nat)},x≠[]→y≠[]→glue c (x++y)=glue c x++c::glue c y
 | [],_,h,_=>absurd rfl h
 | [a],y,_,h=>by
  cases y with
  | nil=>exact absurd rfl h
  | cons b r=>rfl
 | a::b::r,y,_,h=>by
  have e:=glue_app c (x:=b::r) (y:=y) (List.cons_ne_nil _ _) h
  show a++c::glue c (b::r++y)=(a++c::glue c (b::r))++c::glue c y
  rw [e,List.append_assoc];rfl
theorem Tm.ws_ne (t:Tm):t.ws≠[]:=by
 cases t<;>exact List.cons_ne_nil _ _
theorem Tm.txt_ws:∀t:Tm,t.txt=glue 32 t.ws
 | .num _=>rfl
 | .nm _=>rfl
 | .op c a b=>by
  show [c]++[32]++a.txt++[32]++b.txt=glue 32 ([[c]]++(a.ws++b.ws))
  rw [glue_app 32 (List.cons_ne_nil _ _) (fun e=>a.ws_ne (List.append_eq_nil_iff.mp e).1),glue_app 32 a.ws_ne b.ws_ne,a.txt_ws,b.txt_ws]
  simp [glue]
theorem Nm.no32 {s:List Nat}(h:Nm s):32∉s:=fun q=>absurd (h.2.2.1 32 q) (by decide)
theorem dec_no32 {k:Int}(h:0≤k):32∉dec k:=fun q=>by
 obtain ⟨n,rfl⟩:=Int.eq_ofNat_of_zero_le h
 exact absurd (dec_digits n 32 q).1 (by decide)
theorem Tm.ws_free:∀{t:Tm},t.ok Gn→∀w∈t.ws,32∉w
 | .num k,h,w,hw=>by rw [List.mem_singleton.mp hw];exact dec_no32 h.1
 | .nm s,h,w,hw=>by rw [List.mem_singleton.mp hw];exact h.1.no32
 | .op c a b,h,w,hw=>by
  rcases List.mem_cons.mp hw with rfl | hw
  ·have:=h.1
   unfold isSign at this
   intro q
   have:=List.mem_singleton.mp q
   lia
  ·rcases List.mem_append.mp hw with hw | hw
   ·exact a.ws_free h.2.1 w hw
   ·exact b.ws_free h.2.2 w hw
theorem Tm.txt_len:∀{t:Tm},t.ok Gn→t.txt.length+4≤12 * t.lv
 | .num k,h=>by have:=(dec_len h).2;show (dec k).length+4≤12;lia
 | .nm s,h=>by have:=h.1.2.1;show s.length+4≤12;lia
 | .op c a b,h=>by
  have h1:=a.txt_len h.2.1
  have h2:=b.txt_len h.2.2
  show ([c]++[32]++a.txt++[32]++b.txt).length+4≤12 * (a.lv+b.lv)
  simp only [List.length_append,List.length_singleton];lia
theorem Tm.good.len {t:Tm}(h:t.good):t.txt.length≤92:=by
 have h1:=t.txt_len h.1
 have h2:=t.lv_le
 have h3:2 ^ t.deep≤2 ^ 3:=Nat.pow_le_pow_right (by decide) h.2
 lia
theorem glue_inj (c:Nat):∀{x y:List (List Nat)},x≠[]→y≠[]→(∀w∈x,c∉w)→(∀w∈y,c∉w)→glue c x=glue c y→x=y:=by
 have head:∀{a b:List Nat} {r r':List Nat},c∉a→c∉b→a++c::r=b++c::r'→a=b∧r=r':=by
  intro a
  induction a with
  | nil=>
   intro b r r' _ hb e
   cases b with
   | nil=>exact ⟨rfl,(List.cons.inj e).2⟩
   | cons z b=>exact absurd (List.cons.inj e).1 fun q=>hb (q▸List.mem_cons_self ..)
  | cons z a ih=>
   intro b r r' ha hb e
   cases b with
   | nil=>exact absurd (List.cons.inj e).1 fun q=>ha (q▸List.mem_cons_self ..)
   | cons z' b=>
    obtain ⟨h1,h2⟩:=List.cons.inj e
    obtain ⟨h3,h4⟩:=ih (fun q=>ha (List.mem_cons_of_mem _ q)) (fun q=>hb (List.mem_cons_of_mem _ q)) h2
    exact ⟨by rw [h1,h3],h4⟩
 intro x
 induction x with
 | nil=>intro y h;exact absurd rfl h
 | cons a x ih=>
  intro y _ hy hx hy' e
  cases y with
  | nil=>exact absurd rfl hy
  | cons b y=>
   have ha:=hx a (List.mem_cons_self ..)
   have hb:=hy' b (List.mem_cons_self ..)
   cases x with
   | nil=>
    cases y with
    | nil=>rw [show a=b from e]
    | cons b' y=>
     have e:a=b++c::glue c (b'::y):=e
     exact absurd (by rw [e];simp) ha
   | cons a' x=>
    cases y with
    | nil=>
     have e:a++c::glue c (a'::x)=b:=e
     exact absurd (by rw [←e];simp) hb
    | cons b' y=>
     obtain ⟨h1,h2⟩:=head ha hb e
     rw [h1,ih (List.cons_ne_nil _ _) (List.cons_ne_nil _ _) (fun w hw=>hx w (List.mem_cons_of_mem _ hw)) (fun w hw=>hy' w (List.mem_cons_of_mem _ hw)) h2]
end Internal
end
section
namespace Internal
noncomputable def Tm.gp (p:List Nat→Prop) (t:Tm):Prop:=t.ok p∧t.deep≤3
mutual
noncomputable def Rw.gp (p:List Nat→Prop):Rw→Prop
 | .set s t=>p s∧t.gp p
 | .tell t=>t.gp p
 | .skip=>True
 | .ite t a b=>t.gp p∧gps p a∧gps p b
 | .wh t a=>t.gp p∧gps p a
noncomputable def gps (p:List Nat→Prop):List Rw→Prop
 | []=>True
 | r::rs=>r.gp p∧gps p rs
end
theorem gps_app {p:List Nat→Prop}:∀{a b:List Rw},gps p a→gps p b→gps p (a++b)
 | [],_,_,h=>h
 | r::a,b,h1,h2=>⟨h1.1,gps_app h1.2 h2⟩
mutual
theorem gp_mono {p q:List Nat→Prop}(h:∀s,p s→q s):∀{r:Rw},r.gp p→r.gp q
 | .set s t,x=>⟨h s x.1,x.2.1.mono h,x.2.2⟩
 | .tell t,x=>⟨x.1.mono h,x.2⟩
 | .skip,x=>x
 | .ite t a b,x=>⟨⟨x.1.1.mono h,x.1.2⟩,gps_mono h x.2.1,gps_mono h x.2.2⟩
 | .wh t a,x=>⟨⟨x.1.1.mono h,x.1.2⟩,gps_mono h x.2⟩
theorem gps_mono {p q:List Nat→Prop}(h:∀s,p s→q s):∀{rs:List Rw},gps p rs→gps q rs
 | [],x=>x
 | r::rs,x=>⟨gp_mono h x.1,gps_mono h x.2⟩
end
mutual
theorem gp_good:∀{r:Rw},r.gp Gn→r.good
 | .set s t,x=>x
 | .tell t,x=>x
 | .skip,x=>x
 | .ite t a b,x=>⟨x.1,gps_good x.2.1,gps_good x.2.2⟩
 | .wh t a,x=>⟨x.1,gps_good x.2⟩
theorem gps_good:∀{rs:List Rw},gps Gn rs→goods rs
 | [],x=>x
 | r::rs,x=>⟨gp_good x.1,gps_good x.2⟩
end
variable {K:KT}
noncomputable def PB (K:KT) (n:Nat) (X:XM) (m:MS) (e:ME):Prop:=∀Q:PQ,(∀b,Q (.bool b) m)→wpE K n e Q X m
theorem pb_and {n:Nat}{X:XM}{m:MS}:∀{es:List ME},es≠[]→(∀e∈es,PB K n X m e)→PB K n X m (.and es)
 | [],h,_=>absurd rfl h
 | [e],_,h=>fun Q hq=>h e (.head _) Q hq
 | e::e'::es,_,h=>fun Q hq=>by
  have ih:=pb_and (es:=e'::es) (List.cons_ne_nil _ _) fun x hx=>h x (.tail _ hx)
  refine h e (.head _) _ fun b=>?_
  cases b with
  | true=>exact ih Q hq
  | false=>exact hq false
theorem pb_or {n:Nat}{X:XM}{m:MS}:∀{es:List ME},es≠[]→(∀e∈es,PB K n X m e)→PB K n X m (.or es)
 | [],h,_=>absurd rfl h
 | [e],_,h=>fun Q hq=>h e (.head _) Q hq
 | e::e'::es,_,h=>fun Q hq=>by
  have ih:=pb_or (es:=e'::es) (List.cons_ne_nil _ _) fun x hx=>h x (.tail _ hx)
  refine h e (.head _) _ fun b=>?_
  cases b with
  | true=>exact hq true
  | false=>exact ih Q hq
theorem pb_two {n:Nat}{X:XM}{m:MS}{a b:ME}(ha:PB K n X m a) (hb:PB K n X m b):PB K n X m (.and [a,b])∧PB K n X m (.or [a,b]):=by
 have h:∀e∈[a,b],PB K n X m e:=fun e he=>by
  rcases List.mem_cons.mp he with rfl | he
  ·exact ha
  ·rw [List.mem_singleton.mp he];exact hb
 exact ⟨pb_and (List.cons_ne_nil _ _) h,pb_or (List.cons_ne_nil _ _) h⟩
theorem pb_three {n:Nat}{X:XM}{m:MS}{a b c:ME}(ha:PB K n X m a) (hb:PB K n X m b) (hc:PB K n X m c):PB K n X m (.and [a,b,c]):=pb_and (List.cons_ne_nil _ _) fun e he=>by
  rcases List.mem_cons.mp he with rfl | he
  ·exact ha
  ·rcases List.mem_cons.mp he with rfl | he
   ·exact hb
   ·rw [List.mem_singleton.mp he];exact hc
theorem pb_not {n:Nat}{X:XM}{m:MS}{a:ME}(ha:PB K n X m a):PB K n X m (.not a):=fun Q hq=>ha _ fun b=>hq _
theorem pb_ite {n:Nat}{X:XM}{m:MS}{c:ME}{a b:List MSt}{Q:Fl→MS→Prop}(hc:PB K n X m c) (ha:wpSs K n a Q X m) (hb:wpSs K n b Q X m):wpS K n (.ite c a b) Q X m:=
 hc _ fun t=>by
  cases t with
  | true=>exact ha
  | false=>exact hb
theorem pb_div {n i:Nat}{X:XM}{m:MS}{x:Int}(hv:m.get i=some (.int x)) {a b c:Int}(ha:0<a∧a<2 ^ 30) (hb:0<b) (op:Cmp) (hop:op=.eq∨op=.gt):PB K n X m (.cmp op (.bin .mod (.bin .fdiv (.var i) (.cst (.int a))) (.cst (.int b))) (.cst (.int c))):=fun Q hq=>by
 show wpE K n (.var i) _ X m
 refine e_var hv ?_
 refine onT_at (decide_eq_true ha) ?_
 refine onT_at (decide_eq_true hb) ?_
 rcases hop with rfl | rfl
 ·exact hq _
 ·exact hq _
theorem pb_int {n i:Nat}{X:XM}{m:MS}{x:Int}(hv:m.get i=some (.int x)) {c:Int}(op:Cmp) (hop:op=.eq∨op=.gt∨op=.lt):PB K n X m (.cmp op (.var i) (.cst (.int c))):=fun Q hq=>by
 show wpE K n (.var i) _ X m
 refine e_var hv ?_
 rcases hop with rfl | rfl | rfl
 ·exact hq _
 ·exact hq _
 ·exact hq _
theorem pb_var {n i:Nat}{X:XM}{m:MS}{x:Bool}(hv:m.get i=some (.bool x)):PB K n X m (.var i):=fun Q hq=>by
 exact e_var hv (hq _)
variable (hK:Closed PP K)
include hK
theorem k_lan:∀(t:Tm) {N:Nat}{Q:MV→List MO→Prop}{X:XT}{h:List MO},t.good→t.deep<N→(∀(h':List MO) (i:Nat) (ss:List (List Nat)),h<+:h'→h'[i]?=some (.list (ss.map .str))→(∀s∈ss,okS s)→ss.length≤t.lv→Q (.ref i) h')→K N 37 [t.mv] Q X h
 | .num k,N,Q,X,h,ht,hN,hq=>by
  obtain ⟨M,rfl,hM⟩:=room hN
  refine hK _ _ _ _ _ _ fn_law_all_names rfl rfl ?_
  exact hq _ _ [] (pre_push (pre_self _)) (get_last _ _) (fun s hs=>by cases hs) (Nat.zero_le _)
 | .nm s,N,Q,X,h,ht,hN,hq=>by
  obtain ⟨M,rfl,hM⟩:=room hN
  refine hK _ _ _ _ _ _ fn_law_all_names rfl rfl ?_
  exact hq _ _ [s] (pre_push (pre_self _)) (get_last _ _) (fun x hx=>by rw [List.mem_singleton.mp hx];exact ht.1.1.ok) (Nat.le_refl _)
 | .op c a b,N,Q,X,h,ht,hN,hq=>by
  obtain ⟨ga,gb⟩:=ht.sub
  have la:=a.lv_le
  have lb:=b.lv_le
  have h3:2 ^ a.deep≤2 ^ 3:=Nat.pow_le_pow_right (by decide) ga.2
  have h4:2 ^ b.deep≤2 ^ 3:=Nat.pow_le_pow_right (by decide) gb.2
  have hN:max a.deep b.deep+1<N:=hN
  obtain ⟨M,rfl,hM⟩:=room hN
  refine hK _ _ _ _ _ _ fn_law_all_names rfl rfl ?_
  conv=>whnf
  rw [show ([c]==sNum)=false by simp]
  conv=>whnf
  rw [show ([c]==sName)=false by simp]
  refine k_lan a ga (n2 hN (Nat.le_max_left a.deep b.deep) (by simp +arith only)) fun h1 i x p1 e1 o1 l1=>?_
  refine k_lan b gb (n2 hN (Nat.le_max_right a.deep b.deep) (by simp +arith only)) fun h2 j y p2 e2 o2 l2=>?_
  conv=>whnf
  dsimp only
  rw [pre_at p2 e1,e2]
  refine ⟨len_add (by lia),?_⟩
  refine hq _ _ (x++y) (pre_push (p1.trans p2)) (get_add _ _ _) (fun s hs=>?_) ?_
  ·rcases List.mem_append.mp hs with hs | hs
   ·exact o1 s hs
   ·exact o2 s hs
  ·rw [List.length_append];exact Nat.add_le_add l1 l2
noncomputable def Part (ss:List (List Nat)) (hp:List MO) (i:Nat):Prop:=∃sl:List (List Nat),hp[i]?=some (.list (sl.map .str))∧∀s∈sl,s∈ss
omit hK in
theorem Part.up {ss:List (List Nat)}{hp hp':List MO}{i:Nat}(h:Part ss hp i) (e:hp<+:hp'):Part ss hp' i:=let ⟨sl,h1,h2⟩:=h;⟨sl,pre_at e h1,h2⟩
omit hK in
theorem part_of_drop {ss:List (List Nat)}(hp:List MO) (k:Nat):Part ss (hp++[.list ((ss.map MV.str).drop k)]) hp.length:=⟨ss.drop k,by rw [get_last,List.map_drop],fun s hs=>List.mem_of_mem_drop hs⟩
omit hK in
theorem part_of_take {ss:List (List Nat)}(hp:List MO) (k:Nat):Part ss (hp++[.list ((ss.map MV.str).take k)]) hp.length:=⟨ss.take k,by rw [get_last,List.map_take],fun s hs=>List.mem_of_mem_take hs⟩
theorem k_rowby {r:Nat}{ss:List (List Nat)}{more mode:Int}{dark:Bool}{N:Nat}{Q:MV→List MO→Prop}{X:XT}{h:List MO}(hr:h[r]?=some (.list (ss.map .str))) (hs:∀s∈ss,Gn s) (hN:8≤N) (hq:∀(h':List MO) (t:Tm) (b:Bool),h<+:h'→t.gp (·∈ss)→Q (.tup [t.mv,.bool b]) h') :
  K N 38 [.ref r,.int more,.bool dark,.int mode] Q X h:=by
 obtain ⟨M,rfl,hM⟩:=room (k:=7) (show 7<N by lia)
 have last:∀hp i4 i5,h<+:hp→Part ss hp i4→Part ss hp i5→wpSs K M (fn_law_row_by.body.drop 4) (fin Q) (fun c m=>X c m.heap) ⟨[some (.ref r),some (.int more),some (.bool dark),some (.int mode),some (.ref i4),some (.ref i5),none,none],hp⟩:=by
  intro hp i4 i5 hpre h4 h5
  obtain ⟨s4,e4,m4⟩:=h4
  obtain ⟨s5,e5,m5⟩:=h5
  have go:∀d:Bool,wpSs K M [.asg [6] false (.call 11 [.var 1,.var 5,.var 4,.cst (.bool d),.bin .add (.cst (.int 1)) (.bin .mod (.bin .fdiv (.var 1) (.cst (.int 24))) (.cst (.int 4)))]),fn_law_row_by.body.getLast (by decide)] (fin Q) (fun c m=>X c m.heap) ⟨[some (.ref r),some (.int more),some (.bool dark),some (.int mode),some (.ref i4),some (.ref i5),none,none],hp⟩:=by
   intro d
   have hL:0≤more / 24 % 4∧more / 24 % 4<4:=em rfl
   obtain ⟨M',rfl⟩:∃M',M=M'+(more / 24 % 4).toNat+2:=⟨M-(more / 24 % 4).toNat-2,by rw [Nat.add_assoc,Nat.sub_sub,Nat.sub_add_cancel (Nat.le_trans (Nat.add_le_add_right (Nat.le_of_lt (emN (n:=4) rfl)) 2) (Nat.le_trans (nb rfl) hM))]⟩
   refine k_formula hK (more / 24 % 4).toNat (by lia) e5 e4 (fun s h=>(hs s (m5 s h)).1.ok) (fun s h=>(hs s (m4 s h)).1.ok) fun t h1 ht hd hpre1=>?_
   have hg':t.gp (·∈ss):=⟨ht.mono fun s h=>h.elim (m5 s) (m4 s),by lia⟩
   have hg:t.good:=⟨ht.mono fun s h=>h.elim (fun h=>hs s (m5 s h)) fun h=>hs s (m4 s h),by lia⟩
   have hpre1:hp<+:h1:=hpre1
   refine k_lan hK t hg (by have:=hg.2;exact n1 hd (by simp +arith only)) fun h2 i x p2 e2 o2 l2=>?_
   have p2:h1<+:h2:=p2
   refine onIt_at (iter_list e2) ?_
   have hpre2:=(hpre.trans hpre1).trans p2
   refine compL_u (fun w:Option MV × List MO=>⟨[some (.ref r),some (.int more),some (.bool dark),some (.int mode),some (.ref i4),some (.ref i5),some t.mv,w.1],w.2⟩) (fun w=>h2<+:w.2) (none,_) rfl (pre_self _) (fun w h=>pre_at h e2) (fun j y w P hy hp1 h1 h2'=>?_) (fun a w hp1=>?_)
   ·obtain ⟨s,es,rfl⟩:=Option.map_eq_some_iff.mp (List.getElem?_map ..▸hy)
    refine onLs_at (pre_at (hpre2.trans hp1) hr) ?_
    conv=>whnf
    dsimp only [MS.set,MS.push]
    rw [get_last]
    conv=>whnf
    rw [pslice_from (by decide),←List.map_drop]
    refine in_strs (o2 s (List.mem_of_getElem? es)) (fun s h=>(hs s (List.mem_of_mem_drop h)).1.ok) ?_
    cases (List.drop (5:Int).toNat ss).contains s with
    | true=>exact h1 _ (_,_) (pre_push hp1)
    | false=>exact h2' (_,_) (pre_push hp1)
   ·exact .nil _ _ a rfl rfl (get_old (get_last _ _)) (get_last _ _) (hq _ t _ (pre_push (pre_push (hpre2.trans hp1))) hg')
  conv=>whnf
  cases decide (0<mode) with
  | true=>exact go true
  | false=>
   cases dark with
   | true=>exact go false
   | false=>exact go true
 have third:∀hp i4 i5,h<+:hp→Part ss hp i4→Part ss hp i5→wpSs K M (fn_law_row_by.body.drop 3) (fin Q) (fun c m=>X c m.heap) ⟨[some (.ref r),some (.int more),some (.bool dark),some (.int mode),some (.ref i4),some (.ref i5),none,none],hp⟩:=by
  intro hp i4 i5 hpre h4 h5
  show wpS K M _ _ _ _
  exact pb_ite (pb_int rfl .gt (.inr (.inl rfl))) (last hp i5 i5 hpre h5 h5) (last hp i4 i5 hpre h4 h5)
 have second:∀hp i4,h<+:hp→Part ss hp i4→wpSs K M (fn_law_row_by.body.drop 2) (fin Q) (fun c m=>X c m.heap) ⟨[some (.ref r),some (.int more),some (.bool dark),some (.int mode),some (.ref i4),some (.ref r),none,none],hp⟩:=by
  intro hp i4 hpre h4
  have hr':=pre_at hpre hr
  show wpS K M _ _ _ _
  refine pb_ite (pb_two (pb_two (pb_int rfl .eq (.inl rfl)) (pb_div rfl (by decide) (by decide) .eq (.inl rfl))).1 (pb_three (pb_int rfl .eq (.inl rfl)) (pb_var rfl) (pb_div rfl (by decide) (by decide) .gt (.inr rfl)))).2 (third _ _ _ hpre h4 h4) ?_
  show wpS K M _ _ _ _
  refine pb_ite (pb_int rfl .eq (.inl rfl)) ?_ (third _ _ _ hpre h4 ⟨ss,hr',fun s h=>h⟩)
  refine onLs_at hr' ?_
  rw [pslice_from (by decide)]
  exact third _ _ _ (pre_push hpre) (h4.up (pre_push (pre_self _))) (part_of_drop _ _)
 refine hK _ _ _ _ _ _ fn_law_row_by rfl rfl ?_
 refine onLs_at hr ?_
 have e:Part ss (h++[.list (pslice (ss.map MV.str) none (some 5))]) h.length:=by rw [pslice_to (by decide)];exact part_of_take h _
 exact second _ _ (pre_push (pre_self h)) e
end Internal
end
section
namespace Internal
set_option genCtorIdx false in
structure Fr where
 a:Nat
 ra:Nat
 wd:List Nat
 t:Option Tm
 rows:List Rw
 sec:Bool
 fst:Option (List Rw)
noncomputable def oT:Option Tm→MV
 | none=>.none
 | some t=>t.mv
noncomputable def oR:Option (List Rw)→MV
 | none=>.none
 | some rs=>.tup (mvs rs)
noncomputable def Fr.cells (f:Fr):List MV:=[.str f.wd,oT f.t,.ref f.ra,.bool f.sec,oR f.fst]
noncomputable def FrAt (hp:List MO) (f:Fr):Prop:=hp[f.a]?=some (.list f.cells)∧hp[f.ra]?=some (.list (mvs f.rows))
noncomputable def refs (fs:List Fr):List MV:=fs.map fun f=>.ref f.a
structure Stk (L:Nat) (hp:List MO) (st:Nat) (fs:List Fr):Prop where
 at_:hp[st]?=some (.list (refs fs))
 fr:∀f∈fs,FrAt hp f
 pw:fs.Pairwise fun f g=>f.a<g.ra
 ne:∀f∈fs,f.ra<f.a∧f.ra≠st∧f.a≠st∧L≤f.ra
 lo:L≤st
theorem FrAt.set {hp:List MO}{f:Fr}(h:FrAt hp f) {i:Nat}{o:MO}(h1:i≠f.a) (h2:i≠f.ra):FrAt (hp.set i o) f:=⟨set_other h1 h.1,set_other h2 h.2⟩
theorem FrAt.up {hp hp':List MO}{f:Fr}(h:FrAt hp f) (e:hp<+:hp'):FrAt hp' f:=⟨pre_at e h.1,pre_at e h.2⟩
section
variable {L st:Nat}{hp hp':List MO}{fs gs:List Fr}{f:Fr}
theorem Stk.up (h:Stk L hp st fs) (e:hp<+:hp'):Stk L hp' st fs:=⟨pre_at e h.at_,fun f hf=>(h.fr f hf).up e,h.pw,h.ne,h.lo⟩
theorem Stk.other (h:Stk L hp st fs) {i:Nat}{o:MO}(h1:i≠st) (h2:∀f∈fs,i≠f.a∧i≠f.ra):Stk L (hp.set i o) st fs:=⟨set_other h1 h.at_,fun f hf=>(h.fr f hf).set (h2 f hf).1 (h2 f hf).2,h.pw,h.ne,h.lo⟩
theorem Stk.last (h:Stk L hp st (gs++[f])):∀g∈gs,g.a<f.ra:=fun g hg=>(List.pairwise_append.mp h.pw).2.2 g hg f (List.mem_singleton.mpr rfl)
theorem Stk.pop (h:Stk L hp st (gs++[f])):Stk L (hp.set st (.list (refs gs))) st gs∧FrAt (hp.set st (.list (refs gs))) f:=by
 have hm:∀g∈gs,g∈gs++[f]:=fun g hg=>List.mem_append_left _ hg
 have hf:f∈gs++[f]:=List.mem_append_right _ (List.mem_singleton.mpr rfl)
 exact ⟨⟨get_set h.at_,fun g hg=>(h.fr g (hm g hg)).set (h.ne g (hm g hg)).2.2.1.symm (h.ne g (hm g hg)).2.1.symm,(List.pairwise_append.mp h.pw).1,fun g hg=>h.ne g (hm g hg),h.lo⟩,(h.fr f hf).set (h.ne f hf).2.2.1.symm (h.ne f hf).2.1.symm⟩
theorem Stk.push (h:Stk L hp st gs) (hf:FrAt hp f) (h1:∀g∈gs,g.a<f.ra) (h2:f.ra<f.a∧f.ra≠st∧f.a≠st∧L≤f.ra):Stk L (hp.set st (.list (refs gs++[.ref f.a]))) st (gs++[f]):=by
 refine ⟨?_,fun g hg=>?_,List.pairwise_append.mpr ⟨h.pw,List.pairwise_singleton ..,fun g hg x hx=>by rw [List.mem_singleton.mp hx];exact h1 g hg⟩,fun g hg=>?_,h.lo⟩
 ·rw [show refs (gs++[f])=refs gs++[.ref f.a] by simp [refs]];exact get_set h.at_
 ·rcases List.mem_append.mp hg with hg | hg
  ·exact (h.fr g hg).set (h.ne g hg).2.2.1.symm (h.ne g hg).2.1.symm
  ·rw [List.mem_singleton.mp hg];exact hf.set h2.2.2.1.symm h2.2.1.symm
 ·rcases List.mem_append.mp hg with hg | hg
  ·exact h.ne g hg
  ·rw [List.mem_singleton.mp hg];exact h2
theorem Stk.add (h:Stk L hp st (gs++[f])) (r:Rw):Stk L (hp.set f.ra (.list (mvs f.rows++[r.mv]))) st (gs++[{ f with rows:=f.rows++[r] }]):=by
 have hf:f∈gs++[f]:=List.mem_append_right _ (List.mem_singleton.mpr rfl)
 have hn:=h.ne f hf
 have hl:=h.last
 have hm:∀g∈gs,g∈gs++[f]:=fun g hg=>List.mem_append_left _ hg
 refine ⟨?_,fun g hg=>?_,?_,fun g hg=>?_,h.lo⟩
 ·have:=set_other (o':=.list (mvs f.rows++[r.mv])) hn.2.1 h.at_
  rw [this];simp [refs]
 ·rcases List.mem_append.mp hg with hg | hg
  ·have h1:=hl g hg
   have h2:=(h.ne g (hm g hg)).1
   exact (h.fr g (hm g hg)).set (Nat.ne_of_gt h1) (Nat.ne_of_gt (n2 h2 h1 (by simp +arith only)))
  ·rw [List.mem_singleton.mp hg]
   refine ⟨set_other (by show f.ra≠f.a;exact Nat.ne_of_lt (n1 hn.1 (by simp +arith only))) (h.fr f hf).1,?_⟩
   show (hp.set f.ra _)[f.ra]?=some (.list (mvs (f.rows++[r])))
   rw [mvs_app];exact get_set (h.fr f hf).2
 ·have:=List.pairwise_append.mp h.pw
  exact List.pairwise_append.mpr ⟨this.1,List.pairwise_singleton ..,fun g hg x hx=>by rw [List.mem_singleton.mp hx];exact hl g hg⟩
 ·rcases List.mem_append.mp hg with hg | hg
  ·exact h.ne g (hm g hg)
  ·rw [List.mem_singleton.mp hg];exact hn
end
structure FOk (p:List Nat→Prop) (i:Nat) (f:Fr):Prop where
 good:gps p f.rows
 nest:nests f.rows+i≤7
 fst:∀rs,f.fst=some rs→gps p rs∧nests rs+i≤7
 kind:i=0∨∃t,f.t=some t∧t.gp p∧(f.wd=wIf∨(f.wd=wWhile∧f.fst=none))
noncomputable def Oks (p:List Nat→Prop) (fs:List Fr):Prop:=∀i f,fs[i]?=some f→FOk p i f
noncomputable def Fr.wt (f:Fr):Nat:=(lns f.rows).length+(match f.fst with
 | some rs=>(lns rs).length
 | none=>0)+4
noncomputable def wts (fs:List Fr):Nat:=(fs.map Fr.wt).sum
noncomputable def Fr.cl (f:Fr):Nat:=match f.fst with
 | none=>if f.wd=wIf then 2 else 1
 | some _=>1
noncomputable def cls (fs:List Fr):Nat:=(fs.map Fr.cl).sum
theorem wts_snoc (gs:List Fr) (f:Fr):wts (gs++[f])=wts gs+f.wt:=by simp [wts]
theorem cls_snoc (gs:List Fr) (f:Fr):cls (gs++[f])=cls gs+f.cl:=by simp [cls]
theorem Oks.init {p:List Nat→Prop}{gs:List Fr}{f:Fr}(h:Oks p (gs++[f])):Oks p gs∧FOk p gs.length f:=
 ⟨fun i g e=>h i g (get_old e),h _ _ (get_last gs f)⟩
theorem Oks.snoc {p:List Nat→Prop}{gs:List Fr}{f:Fr}(h:Oks p gs) (hf:FOk p gs.length f):Oks p (gs++[f]):=fun i g e=>by
 rcases Nat.lt_or_ge i gs.length with q | q
 ·rw [List.getElem?_append_left q] at e;exact h i g e
 ·have hi:i<(gs++[f]).length:=(List.getElem?_eq_some_iff.mp e).1
  rw [List.length_append,List.length_singleton] at hi
  have:i=gs.length:=Nat.le_antisymm (Nat.le_of_lt_succ hi) q
  subst this
  rw [get_last] at e;cases e;exact hf
theorem FOk.add {p:List Nat→Prop}{i:Nat}{f:Fr}(h:FOk p i f) {r:Rw}(hg:r.gp p) (hn:r.nest+i≤7):FOk p i { f with rows:=f.rows++[r] }:=by
 refine ⟨gps_app h.good ⟨hg,trivial⟩,?_,h.fst,h.kind⟩
 have h1:=h.nest
 have:nests (f.rows++[r])≤7-i:=nests_app (Nat.le_sub_of_add_le h1) (mx0 (Nat.le_sub_of_add_le hn))
 show nests (f.rows++[r])+i≤7
 exact Nat.add_le_of_le_sub (n1 h1 (by simp +arith only)) this
theorem wt_add (f:Fr) (r:Rw):({ f with rows:=f.rows++[r] }:Fr).wt=f.wt+r.lines.length:=by
 unfold Fr.wt
 dsimp only
 rw [lns_app,lns_one,List.length_append];exact by simp +arith only
theorem snoc_of {α:Type}{l:List α}(h:l≠[]):∃gs f,l=gs++[f]:=⟨l.dropLast,l.getLast h,(List.dropLast_concat_getLast h).symm⟩
variable {K:KT}(hK:Closed PP K)
include hK
omit hK in
theorem ok_pop {hp:List MO}{r:Nat}{xs:List MV}(e:hp[r]?=some (.list xs)):mthOk .pop (.ref r) hp=true:=by
 show (lstO r hp[r]?).isSome=true;rw [e];rfl
omit hK in
theorem rows_lt {f:Fr}{B:Nat}(h:f.wt≤B) (hB:B≤2000):(mvs f.rows).length<line:=by
 have h1:=rows_le f.rows
 have h2:(lns f.rows).length≤f.wt:=by unfold Fr.wt;exact by simp +arith only
 exact Nat.lt_of_lt_of_le (show (mvs f.rows).length<2001 by rw [mvs_len];lia) (le_line (by decide))
noncomputable abbrev topRow (e:ME):MSt:=.expr (.mth .append (.idx (.idx (.var 0) (.neg (.cst (.int 1)))) (.cst (.int 2))) [e])
omit hK in
theorem pidx_last {α:Type}(gs:List α) (f:α):pidx (-1) (gs++[f]).length=some gs.length:=by
 rw [List.length_append,List.length_singleton]
 unfold pidx
 rw [decide_eq_false (show ¬ (0:Int)≤-1 by decide),decide_eq_true (show -(((gs.length+1:Nat)):Int)≤-1 by lia)]
 show some (-1+((gs.length+1:Nat):Int)).toNat=some gs.length
 congr 1;lia
omit hK in
theorem top_row {L st:Nat}{hp:List MO}{gs:List Fr}{f:Fr}{B M:Nat}(S:Stk L hp st (gs++[f])) (hB:f.wt≤B) (hB':B≤2000) {r:Rw}{e:ME}{vs:List (Option MV)}{X:XM}{Q:Fl→MS→Prop}(he:∀Q:PQ,Q r.mv ⟨some (.ref st)::vs,hp⟩→wpE K M e Q X ⟨some (.ref st)::vs,hp⟩)
  (hq:Q .next ⟨some (.ref st)::vs,hp.set f.ra (.list (mvs f.rows++[r.mv]))⟩):wpS K M (topRow e) Q X ⟨some (.ref st)::vs,hp⟩:=by
 have hf:=S.fr f (List.mem_append_right _ (List.mem_singleton.mpr rfl))
 have e1:refs (gs++[f])=refs gs++[.ref f.a]:=by simp [refs]
 conv=>whnf
 dsimp only
 rw [S.at_,e1]
 delta wpNth onO;try dsimp only
 rw [pidx_last]
 dsimp only
 rw [get_last]
 refine onLs_at hf.1 ?_
 refine onT_at (ok_append hf.2) ?_
 show wpE K M e _ X _
 refine he _ ?_
 refine onL_at (lst_at hf.2) ?_
 exact ⟨rows_lt hB hB',hq⟩
omit hK in
theorem Tm.first (t:Tm):∃s r,t.mv=.tup (.str s::r)∧s=(match t with | .num _=>sNum | .nm _=>sName | .op c _ _=>[c]):=by
 cases t<;>exact ⟨_,_,rfl,rfl⟩
theorem k_closed {p:List Nat→Prop}{L st:Nat}{hp:List MO}{gs:List Fr}{f:Fr}{B N:Nat}(S:Stk L hp st (gs++[f])) (O:Oks p (gs++[f])) (hg:gs≠[]) (hB:wts (gs++[f])≤B) (hB':B≤2000) {Q:MV→List MO→Prop}{X:XT}
  (hq:∀hp' fs',Stk L hp' st fs'→Oks p fs'→fs'≠[]→fs'.length≤(gs++[f]).length→wts fs'≤wts (gs++[f])→cls fs'<cls (gs++[f])→(∀h0:List MO,h0.length≤L→h0<+:hp→h0<+:hp')→Q .none hp'):K (N+1) 39 [.ref st] Q X hp:=by
 obtain ⟨S1,F1⟩:=S.pop
 obtain ⟨O1,hf⟩:=O.init
 have e1:refs (gs++[f])=refs gs++[.ref f.a]:=by simp [refs]
 have hlo:=S.lo
 have hfm:f∈gs++[f]:=List.mem_append_right _ (List.mem_singleton.mpr rfl)
 have hn:=S.ne f hfm
 have hlast:=S.last
 obtain ⟨t,et,ht,hkind⟩:=hf.kind.resolve_left (fun q=>hg (List.eq_nil_of_length_eq_zero q))
 obtain ⟨gs',g,eg⟩:=snoc_of hg
 rw [wts_snoc] at hB
 have hsz:∀h0:List MO,h0.length≤L→h0<+:hp→h0<+:hp.set st (.list (refs gs)):=fun h0 h1 h2=>pre_set h2 (n2 h1 hlo (by simp +arith only))
 refine hK _ _ _ _ _ _ fn_law_closed rfl rfl ?_
 refine onT_at (ok_pop S.at_) ?_
 refine ⟨rfl,?_⟩
 refine onL_at (lst_at S.at_) ?_
 refine ⟨rfl,?_⟩
 rw [e1]
 refine onO_at (a:=.ref f.a) (by simp) ?_
 rw [List.dropLast_concat]
 change wpSs K N (fn_law_closed.body.drop 1) (fin Q) _ ⟨[some (.ref st),some (.ref f.a)],hp.set st (.list (refs gs))⟩
 generalize hp.set st (.list (refs gs))=hp1 at *
 have fin_row:∀(hp2:List MO) (r:Rw),Stk L hp2 st gs→(∀h0:List MO,h0.length≤L→h0<+:hp→h0<+:hp2)→r.gp p→r.nest+gs'.length≤7→r.lines.length≤f.wt→Q .none (hp2.set g.ra (.list (mvs g.rows++[r.mv]))):=by
  intro hp2 r S2 h2 hr hnr hl
  subst eg
  have hgm:g∈gs'++[g]:=List.mem_append_right _ (List.mem_singleton.mpr rfl)
  have hgl:=(S2.ne g hgm).2.2.2
  obtain ⟨O2,hg2⟩:=O1.init
  refine hq _ _ (S2.add r) (O2.snoc (hg2.add hr hnr)) (by simp) (by simp) ?_ ?_ fun h0 q1 q2=>pre_set (h2 h0 q1 q2) (n2 q1 hgl (by simp +arith only))
  ·rw [wts_snoc,wts_snoc,wts_snoc,wt_add];exact n1 hl (by simp +arith only)
  ·rw [cls_snoc,cls_snoc,cls_snoc]
   have:({ g with rows:=g.rows++[r] }:Fr).cl=g.cl:=rfl
   rw [this]
   have:1≤f.cl:=by unfold Fr.cl;split<;>(try split)<;>exact nb rfl
   exact n1 this (by simp +arith only)
 have hgl:gs.length=gs'.length+1:=by rw [eg];simp
 have hwt:(lns f.rows).length+4≤f.wt:=by unfold Fr.wt;exact by simp +arith only
 have hnest:=hf.nest
 have hgw:g.wt≤B:=by rw [eg,wts_snoc] at hB;exact n1 hB (by simp +arith only)
 have cell:f.cells=[.str f.wd,t.mv,.ref f.ra,.bool f.sec,oR f.fst]:=by unfold Fr.cells;rw [et];rfl
 have hfc:=F1.1
 rw [cell] at hfc
 rcases hkind with hwd | ⟨hwd,hfst⟩
 ·rw [hwd] at hfc
  refine onLs_at hfc ?_
  refine onLs_at hfc ?_
  conv=>whnf
  cases hfs:f.fst with
  | none=>
   rw [hfs] at hfc
   refine onT_at (ok_append S1.at_) ?_
   refine onLs_at hfc ?_
   refine onLs_at hfc ?_
   refine onLs_at (get_old hfc) ?_
   refine onLs_at (get_old hfc) ?_
   refine onLs_at (get_old F1.2) ?_
   have hlt:∀{i o},hp1[i]?=some o→i<hp1.length:=fun e=>(List.getElem?_eq_some_iff.mp e).1
   have hst:=hlt S1.at_
   have F2:FrAt (hp1++[.list []]++[.list [.str wIf,t.mv,.ref hp1.length,.bool f.sec,.tup (mvs f.rows)]]) ⟨(hp1++[MO.list []]).length,hp1.length,wIf,some t,[],f.sec,some f.rows⟩:=⟨get_last _ _,get_old (get_last _ _)⟩
   have hup:hp1<+:hp1++[.list []]++[.list [.str wIf,t.mv,.ref hp1.length,.bool f.sec,.tup (mvs f.rows)]]:=pre_push (pre_push (pre_self _))
   have S2:=(S1.up hup).push F2 (fun g hg=>hlt (S1.fr g hg).1) ⟨by show hp1.length<(hp1++[MO.list []]).length;simp,by show hp1.length≠st;exact Nat.ne_of_gt hst,by show (hp1++[MO.list []]).length≠st;simp;exact Nat.ne_of_gt (n1 hst (by simp +arith only)),by show L≤hp1.length;exact n2 hst hlo (by simp +arith only)⟩
   refine onL_at (lst_at (pre_at hup S1.at_)) ?_
   have hsz2:gs.length≤8:=n1 hnest (by simp +arith only)
   refine ⟨Nat.lt_of_lt_of_le (show (refs gs).length<9 by simp [refs];exact n1 hsz2 (by simp +arith only)) (le_line (by decide)),?_⟩
   refine hq _ _ S2 (O1.snoc ⟨trivial,by show 0+gs.length≤7;exact n1 hnest (by simp +arith only),fun rs e=>by cases e;exact ⟨hf.good,hnest⟩,.inr ⟨t,rfl,ht,.inl rfl⟩⟩) (by simp) (by simp) ?_ ?_ fun h0 q1 q2=>pre_set ((hsz h0 q1 q2).trans hup) (n2 q1 hlo (by simp +arith only))
   ·rw [wts_snoc,wts_snoc]
    show wts gs+(0+(lns f.rows).length+4)≤_
    exact n1 hwt (by simp +arith only)
   ·rw [cls_snoc,cls_snoc]
    show cls gs+1<_
    have:f.cl=2:=by unfold Fr.cl;rw [hfs,hwd];rfl
    exact n1 (Nat.le_of_eq this.symm) (by simp +arith only)
  | some rs=>
   rw [hfs] at hfc
   have hrs:=hf.fst rs hfs
   show wpS K N (topRow _) _ _ _
   subst eg
   refine top_row (r:=.ite t rs f.rows) S1 hgw hB' (fun Q hq=>?_) ?_
   ·conv=>whnf
    refine onLs_at hfc ?_
    refine onLs_at hfc ?_
    refine onLs_at hfc ?_
    refine onLs_at F1.2 ?_
    exact hq
   ·refine fin_row hp1 (.ite t rs f.rows) S1 hsz ⟨ht,hrs.1,hf.good⟩ ?_ ?_
    ·show max (nests rs) (nests f.rows)+1+gs'.length≤7
     have:=hrs.2
     lia
    ·show ((lns rs++wElse::(lns f.rows++[wEnd])).length+1)≤f.wt
     unfold Fr.wt
     rw [hfs,List.length_append,List.length_cons,List.length_append,List.length_singleton]
     exact by simp +arith only
 ·rw [hwd,hfst] at hfc
  have wrest:∀(hp2:List MO) (rows:List Rw),Stk L hp2 st gs→(∀h0:List MO,h0.length≤L→h0<+:hp→h0<+:hp2)→hp2[f.a]?=some (.list [.str wWhile,t.mv,.ref f.ra,.bool f.sec,.none])→hp2[f.ra]?=some (.list (mvs rows))→gps p rows→nests rows+gs.length≤7→(lns rows).length≤(lns f.rows).length+1→
    wpSs K N [topRow (.tup [.cst (.str wWhile),.idx (.var 1) (.cst (.int 1)),.blt .tuple [.idx (.var 1) (.cst (.int 2))]])] (fin Q) (fun c m=>X c m.heap) ⟨[some (.ref st),some (.ref f.a)],hp2⟩:=by
   intro hp2 rows S2 h2 e1 e2 hgr hnr hlr
   have S2':=S2
   rw [eg] at S2'
   show wpS K N (topRow _) _ _ _
   refine top_row (r:=.wh t rows) S2' hgw hB' (fun Q hq=>?_) ?_
   ·conv=>whnf
    refine onLs_at e1 ?_
    refine onLs_at e1 ?_
    refine onLs_at e2 ?_
    exact hq
   ·refine fin_row hp2 (.wh t rows) S2 h2 ⟨ht,hgr⟩ (by show nests rows+1+gs'.length≤7;exact n2 hnr (Nat.le_of_eq hgl.symm) (by simp +arith only)) ?_
    show ((lns rows++[wEnd]).length+1)≤f.wt
    rw [List.length_append,List.length_singleton]
    exact n2 hlr hwt (by simp +arith only)
  have hend:=wrest hp1 f.rows S1 hsz hfc F1.2 hf.good hnest (Nat.le_succ _)
  refine onLs_at hfc ?_
  refine onLs_at hfc ?_
  cases t with
  | num k=>exact hend
  | nm s=>exact hend
  | op c a b=>
   conv=>whnf
   cases q:([c]==[60]) with
   | false=>exact hend
   | true=>
    refine onLs_at hfc ?_
    cases a with
    | num k=>exact hend
    | op c' x y=>
     conv=>whnf
     rw [show ([c']==sName)=false by simp]
     exact hend
    | nm s=>
     have hs:p s:=ht.1.2.1
     refine onLs_at hfc ?_
     refine onT_at (ok_append F1.2) ?_
     refine onLs_at hfc ?_
     refine onLs_at hfc ?_
     refine onL_at (lst_at F1.2) ?_
     refine ⟨rows_lt (show f.wt≤B by lia) hB',?_⟩
     have hgood:(Tm.op 43 (.nm s) (.num 1)).gp p:=⟨⟨.inl rfl,hs,by decide,by decide⟩,by show 1≤3;decide⟩
     refine wrest _ (f.rows++[.set s (.op 43 (.nm s) (.num 1))]) (S1.other hn.2.1 fun g hg=>?_) (fun h0 q1 q2=>pre_set (hsz h0 q1 q2) (n2 q1 hn.2.2.2 (by simp +arith only))) (set_other (Nat.ne_of_lt (n1 hn.1 (by simp +arith only))) hfc) ?_ (gps_app hf.good (show gps p [.set s _] from ⟨⟨hs,hgood⟩,trivial⟩)) ?_ ?_
     ·have h1:=hlast g hg
      have h2:=(S1.ne g hg).1
      exact ⟨Nat.ne_of_gt h1,Nat.ne_of_gt (n2 h2 h1 (by simp +arith only))⟩
     ·rw [mvs_app];exact get_set F1.2
     ·have:nests (f.rows++[.set s (.op 43 (.nm s) (.num 1))])≤nests f.rows:=nests_app (Nat.le_refl _) (Nat.zero_le _)
      exact n2 this hnest (by simp +arith only)
     ·rw [lns_app,lns_one,List.length_append];exact Nat.le_refl _
end Internal
end
section
namespace Internal
variable {K:KT}
theorem pb_asg {n i:Nat}{X:XM}{m:MS}{e:ME}(h:PB K n X m e) {Q:Fl→MS→Prop}(hq:∀b,Q .next (m.set i (.bool b))):wpS K n (.asg [i] false e) Q X m:=h _ fun b=>hq b
structure At (L:Nat) (h0:List MO) (r:Nat) (ss:List (List Nat)) (hp:List MO) (st:Nat) (fs:List Fr):Prop where
 S:Stk L hp st fs
 O:Oks (·∈ss) fs
 ne:fs≠[]
 len:fs.length≤8
 pre:h0<+:hp
 L0:h0.length≤L
 nm:h0[r]?=some (.list (ss.map .str))
 ten:ss.length=10
 gn:∀s∈ss,Gn s
section
variable {L st r:Nat}{h0 hp hp':List MO}{ss:List (List Nat)}{fs:List Fr}
theorem At.up (A:At L h0 r ss hp st fs) (e:hp<+:hp'):At L h0 r ss hp' st fs:=⟨A.S.up e,A.O,A.ne,A.len,A.pre.trans e,A.L0,A.nm,A.ten,A.gn⟩
theorem At.names (A:At L h0 r ss hp st fs):hp[r]?=some (.list (ss.map .str)):=pre_at A.pre A.nm
noncomputable def Some1 (ss:List (List Nat)) (hp:List MO) (i:Nat):Prop:=∃sl:List (List Nat),hp[i]?=some (.list (sl.map .str))∧sl≠[]∧∀s∈sl,s∈ss
theorem Some1.up {i:Nat}(h:Some1 ss hp i) (e:hp<+:hp'):Some1 ss hp' i:=let ⟨sl,h1,h2⟩:=h;⟨sl,pre_at e h1,h2⟩
theorem some_drop (ht:ss.length=10) (hp:List MO):Some1 ss (hp++[.list (pslice (ss.map MV.str) (some 5) none)]) hp.length:=
 ⟨ss.drop 5,by rw [get_last,pslice_from (by decide),List.map_drop];rfl,(fun e=>by have:=congrArg List.length e;rw [List.length_drop,ht] at this;cases this),fun s hs=>List.mem_of_mem_drop hs⟩
theorem some_take (ht:ss.length=10) (hp:List MO):Some1 ss (hp++[.list (pslice (ss.map MV.str) none (some 5))]) hp.length:=
 ⟨ss.take 5,by rw [get_last,pslice_to (by decide),List.map_take];rfl,(fun e=>by have:=congrArg List.length e;rw [List.length_take,ht] at this;cases this),fun s hs=>List.mem_of_mem_take hs⟩
theorem At.all (A:At L h0 r ss hp st fs):Some1 ss hp r:=⟨ss,A.names,(fun e=>by have:=A.ten;rw [e] at this;cases this),fun s h=>h⟩
theorem At.row (A:At L h0 r ss hp st fs) {gs:List Fr}{f:Fr}(e:fs=gs++[f]) {w:Rw}(hg:w.gp (·∈ss)) (hn:w.nest=0):At L h0 r ss (hp.set f.ra (.list (mvs f.rows++[w.mv]))) st (gs++[{ f with rows:=f.rows++[w] }]):=by
 obtain ⟨S,O,ne,len,pre,L0,nm,ten,gn⟩:=A
 subst e
 obtain ⟨O1,hf⟩:=O.init
 have hL:=(S.ne f (List.mem_append_right _ (List.mem_singleton.mpr rfl))).2.2.2
 refine ⟨S.add w,O1.snoc (hf.add hg ?_),by simp,by simpa using len,pre_set pre (Nat.le_trans L0 hL),L0,nm,ten,gn⟩
 have:=hf.nest
 exact n2 this (Nat.le_of_eq hn) (by simp +arith only)
theorem At.frame (A:At L h0 r ss hp st fs) (hl:fs.length<8) {wd:List Nat}{t:Tm}{b:Bool}(ht:t.gp (·∈ss)) (hwd:wd=wIf∨wd=wWhile) :
  At L h0 r ss ((hp++[MO.list []]++[MO.list [.str wd,t.mv,.ref hp.length,.bool b,.none]]).set st (.list (refs fs++[.ref (hp++[MO.list []]).length]))) st (fs++[⟨(hp++[MO.list []]).length,hp.length,wd,some t,[],b,none⟩]):=by
 obtain ⟨S,O,ne,len,pre,L0,nm,ten,gn⟩:=A
 have hlt:∀{i o},hp[i]?=some o→i<hp.length:=fun e=>(List.getElem?_eq_some_iff.mp e).1
 have hst:=hlt S.at_
 have hlo:=S.lo
 have hup:hp<+:hp++[.list []]++[.list [.str wd,t.mv,.ref hp.length,.bool b,.none]]:=pre_push (pre_push (pre_self _))
 have F2:FrAt (hp++[.list []]++[.list [.str wd,t.mv,.ref hp.length,.bool b,.none]]) ⟨(hp++[MO.list []]).length,hp.length,wd,some t,[],b,none⟩:=⟨get_last _ _,get_old (get_last _ _)⟩
 refine ⟨(S.up hup).push F2 (fun g hg=>hlt (S.fr g hg).1) ⟨by show hp.length<(hp++[MO.list []]).length;simp,by show hp.length≠st;exact Nat.ne_of_gt hst,by show (hp++[MO.list []]).length≠st;simp;exact Nat.ne_of_gt (n1 hst (by simp +arith only)),by show L≤hp.length;exact n2 hlo hst (by simp +arith only)⟩,O.snoc ⟨trivial,by show 0+fs.length≤7;exact n1 hl (by simp +arith only),(fun rs e=>by cases e),.inr ⟨t,rfl,ht,hwd.imp id fun h=>⟨h,rfl⟩⟩⟩,by simp,by simp;exact n1 hl (by simp +arith only),pre_set (pre.trans hup) (n2 hlo L0 (by simp +arith only)),L0,nm,ten,gn⟩
end
variable (hK:Closed PP K)
include hK
theorem put_frame {L st r:Nat}{h0 hp:List MO}{ss:List (List Nat)}{fs:List Fr}(A:At L h0 r ss hp st fs) (hl:fs.length<8) {wd:List Nat}{t:Tm}{b:Bool}(ht:t.gp (·∈ss)) (hwd:wd=wIf∨wd=wWhile) {M:Nat}{Q:MV→List MO→Prop}{X:XM}{v1 v2 v3 v4 v5:Option MV}{vs:List (Option MV)}
  (hq:∀hp' fs',At L h0 r ss hp' st fs'→wts fs'≤wts fs+4→Q .none hp') :
  wpSs K M [.expr (.mth .append (.var 0) [.list [.cst (.str wd),.var 6,.list [],.var 7,.cst .none]])] (fin Q) X ⟨some (.ref st)::v1::v2::v3::v4::v5::some t.mv::some (.bool b)::vs,hp⟩:=by
 have B:=A.frame hl (b:=b) ht hwd
 refine onT_at (ok_append A.S.at_) ?_
 refine onL_at (lst_at (get_old (get_old A.S.at_))) ?_
 refine ⟨Nat.lt_of_lt_of_le (show (refs fs).length<9 by simp [refs];exact Nat.le_trans hl (nb rfl)) (le_line (by decide)),?_⟩
 refine hq _ _ B ?_
 rw [wts_snoc]
 exact Nat.le_refl _
omit hK in
theorem way4 {j:Nat}(h:j<4):∃w:Int,[MV.int 0,MV.int 4,MV.int 8,MV.int 0][j]?=some (.int w):=by
 have:j=0∨j=1∨j=2∨j=3:=by lia
 rcases this with rfl | rfl | rfl | rfl<;>exact ⟨_,rfl⟩
end Internal
end
section
namespace Internal
variable {K:KT}(hK:Closed PP K)
include hK
omit hK in
noncomputable def PC (K:KT) (n:Nat) (X:XM) (m:MS) (e:ME) (φ:Prop):Prop:=∀Q:PQ,(∀b,(b=true→φ)→Q (.bool b) m)→wpE K n e Q X m
omit hK in
theorem pc_and {n:Nat}{X:XM}{m:MS}{a e:ME}{φ:Prop}(ha:PB K n X m a) (he:PC K n X m e φ):PC K n X m (.and [a,e]) φ:=fun Q hq=>ha _ fun b=>by
 cases b with
 | true=>exact he Q hq
 | false=>exact hq false fun h=>by cases h
omit hK in
theorem pc_and3 {n:Nat}{X:XM}{m:MS}{a e c:ME}{φ:Prop}(ha:PB K n X m a) (he:PC K n X m e φ) (hc:PB K n X m c):PC K n X m (.and [a,e,c]) φ:=fun Q hq=>ha _ fun b=>by
 cases b with
 | true=>
  refine he _ fun b hb=>?_
  cases b with
  | true=>exact hc Q fun b'=>hq b' fun _=>hb rfl
  | false=>exact hq false fun h=>by cases h
 | false=>exact hq false fun h=>by cases h
omit hK in
theorem pc_ite {n:Nat}{X:XM}{m:MS}{c:ME}{φ:Prop}{a b:List MSt}{Q:Fl→MS→Prop}(hc:PC K n X m c φ) (ha:φ→wpSs K n a Q X m) (hb:wpSs K n b Q X m):wpS K n (.ite c a b) Q X m:=
 hc _ fun t h=>by
  cases t with
  | true=>exact ha (h rfl)
  | false=>exact hb
omit hK in
theorem pc_len {n st:Nat}{X:XM}{vs:List (Option MV)}{hp:List MO}{fs:List Fr}(h:hp[st]?=some (.list (refs fs))):PC K n X ⟨some (.ref st)::vs,hp⟩ (.cmp .lt (.blt .len [.var 0]) (.cst (.int 8))) (fs.length<8):=fun Q hq=>by
 refine onLD_list h ?_
 refine hq _ fun e=>?_
 have:=of_decide_eq_true e
 simp [refs] at this
 lia
omit hK in
theorem pc_more {n st:Nat}{X:XM}{vs:List (Option MV)}{hp:List MO}{fs:List Fr}(h:hp[st]?=some (.list (refs fs))):PC K n X ⟨some (.ref st)::vs,hp⟩ (.cmp .gt (.blt .len [.var 0]) (.cst (.int 1))) (1<fs.length):=fun Q hq=>by
 refine onLD_list h ?_
 refine hq _ fun e=>?_
 have:=of_decide_eq_true e
 simp [refs] at this
 lia
theorem put_end {L st r:Nat}{h0 hp:List MO}{ss:List (List Nat)}{fs:List Fr}(A:At L h0 r ss hp st fs) {B M:Nat}(hB:wts fs+5≤B) (hB':B≤2000) (hM:1≤M) {more mode way:Int}{dark sec shut:Bool}{t:Tm}(ht:t.gp (·∈ss)) (hmode:mode=0∨mode=1∨mode=2) {Q:MV→List MO→Prop}{X:XT}
  (hq:∀hp' fs',At L h0 r ss hp' st fs'→wts fs'≤wts fs+5→Q .none hp') :
  wpSs K M (fn_law_put.body.drop 5) (fin Q) (fun c m=>X c m.heap) ⟨[some (.ref st),some (.ref r),some (.int more),some (.int mode),some (.int way),some (.bool dark),some t.mv,some (.bool sec),some (.bool shut),none,none],hp⟩:=by
 obtain ⟨gs,f,ef⟩:=snoc_of A.ne
 have hfB:f.wt≤B:=by rw [ef,wts_snoc] at hB;exact n1 hB (by simp +arith only)
 have put:∀{hp1:List MO} {w:Rw} {e:ME} {vs:List (Option MV)},hp<+:hp1→w.gp (·∈ss)→w.nest=0→w.lines.length=1→(∀Q:PQ,Q w.mv ⟨some (.ref st)::vs,hp1⟩→wpE K M e Q (fun c m=>X c m.heap) ⟨some (.ref st)::vs,hp1⟩)→wpSs K M [topRow e] (fin Q) (fun c m=>X c m.heap) ⟨some (.ref st)::vs,hp1⟩:=by
  intro hp1 w e vs hpre hg hn hl he
  have A1:=A.up hpre
  have S1:=A1.S
  rw [ef] at S1
  show wpS K M (topRow e) _ _ _
  refine top_row S1 hfB hB' he ?_
  refine hq _ _ (A1.row ef hg hn) ?_
  rw [ef,wts_snoc,wts_snoc,wt_add,hl];exact by simp +arith only
 have setrow:∀{hp1:List MO} {i:Nat},hp<+:hp1→Some1 ss hp1 i→wpSs K M [topRow (.tup [.cst (.str wSet),.idx (.var 9) (.bin .mod (.bin .fdiv (.var 2) (.cst (.int 96))) (.blt .len [.var 9])),.var 6])] (fin Q) (fun c m=>X c m.heap)
   ⟨[some (.ref st),some (.ref r),some (.int more),some (.int mode),some (.int way),some (.bool dark),some t.mv,some (.bool sec),some (.bool shut),some (.ref i),none],hp1⟩:=by
  intro hp1 i hpre h1
  obtain ⟨sl,e1,hne,hsub⟩:=h1
  have hpos:0<sl.length:=List.length_pos_iff.mpr hne
  have hx:0≤more / 96 % (sl.length:Int)∧more / 96 % (sl.length:Int)<sl.length:=⟨Int.emod_nonneg _ (cne hpos),Int.emod_lt_of_pos _ (cpos hpos)⟩
  have hk:(more / 96 % (sl.length:Int)).toNat<sl.length:=tn (z1 hx.1 (by simp +arith only)) (z1 hx.2 (by simp +arith only))
  refine put (w:=.set (sl[(more / 96 % (sl.length:Int)).toNat]'hk) t) hpre ⟨hsub _ (List.getElem_mem _),ht⟩ rfl rfl fun Q hq=>?_
  refine onLD_list e1 ?_
  rw [List.length_map]
  refine onT_at (decide_eq_true (z2 hx.1 hx.2 (by simp +arith only))) ?_
  refine onLs_at e1 ?_
  delta wpNth onO;try dsimp only
  rw [pidx_nat hx.1 (by rw [List.length_map];exact hx.2)]
  dsimp only
  rw [List.getElem?_map,List.getElem?_eq_getElem hk]
  exact hq
 show wpS K M _ _ _ _
 refine pb_ite (pb_int rfl .lt (.inr (.inr rfl))) ?_ ?_
 ·have after:∀{hp1:List MO} {i:Nat},hp<+:hp1→Some1 ss hp1 i→wpSs K M [.ite (.var 8) [.asg [9] false (.sl (.var 1) (some (.cst (.int 5))) none)] [],topRow (.tup [.cst (.str wSet),.idx (.var 9) (.bin .mod (.bin .fdiv (.var 2) (.cst (.int 96))) (.blt .len [.var 9])),.var 6])] (fin Q) (fun c m=>X c m.heap)
    ⟨[some (.ref st),some (.ref r),some (.int more),some (.int mode),some (.int way),some (.bool dark),some t.mv,some (.bool sec),some (.bool shut),some (.ref i),none],hp1⟩:=by
   intro hp1 i hpre h1
   show wpS K M _ _ _ _
   refine pb_ite (pb_var rfl) ?_ (setrow hpre h1)
   refine onLs_at ((A.up hpre).names) ?_
   exact setrow (pre_push hpre) (some_drop A.ten hp1)
  conv=>whnf
  dsimp only
  refine onLs_at A.names ?_
  refine onLs_at (get_old A.names) ?_
  conv=>whnf
  dsimp only [MS.push]
  rw [get_last]
  delta wpNth onO;try dsimp only
  refine wpNth_at (pidx_b2i) (get_b2n) ?_
  have hpre3:hp<+:hp++[MO.list (pslice (ss.map MV.str) none (some 5))]++[MO.list (pslice (ss.map MV.str) (some 5) none)]++[MO.list [.ref hp.length,.ref (hp++[MO.list (pslice (ss.map MV.str) none (some 5))]).length]]:=pre_push (pre_push (pre_push (pre_self _)))
  have hk:∃k,sel (more / 7 % 4==3) (MV.ref hp.length) (.ref (hp++[MO.list (pslice (ss.map MV.str) none (some 5))]).length)=.ref k∧Some1 ss (hp++[MO.list (pslice (ss.map MV.str) none (some 5))]++[MO.list (pslice (ss.map MV.str) (some 5) none)]++[MO.list [.ref hp.length,.ref (hp++[MO.list (pslice (ss.map MV.str) none (some 5))]).length]]) k:=by
   cases (more / 7 % 4==3)
   ·exact ⟨_,rfl,(some_take A.ten hp).up (pre_push (pre_push (pre_self _)))⟩
   ·exact ⟨_,rfl,(some_drop A.ten _).up (pre_push (pre_self _))⟩
  obtain ⟨k,ek,hk⟩:=hk
  rw [ek]
  conv=>whnf
  dsimp only [MS.push]
  rw [get_last]
  have hr:=A.all
  rcases hmode with rfl | rfl | rfl
  ·exact after (pre_push hpre3) (hr.up (pre_push hpre3))
  ·exact after (pre_push hpre3) (hr.up (pre_push hpre3))
  ·exact after (pre_push hpre3) (hk.up (pre_push (pre_self _)))
 ·show wpS K M _ _ _ _
  refine pb_ite (pb_two (pb_int rfl .eq (.inl rfl)) (pb_not (pb_var rfl))).1 ?_ ?_
  ·exact put (w:=.tell t) (pre_self _) ht rfl rfl fun Q hq=>hq
  ·show wpS K M _ _ _ _
   refine pb_ite (pb_int rfl .eq (.inl rfl)) ?_ ?_
   ·exact put (w:=.skip) (pre_self _) trivial rfl rfl fun Q hq=>hq
   ·show wpS K M _ _ _ _
    refine pc_ite (pc_and (pb_int rfl .lt (.inr (.inr rfl))) (pc_len A.S.at_)) (fun hl=>?_) ?_
    ·exact put_frame hK A hl ht (.inl rfl) fun hp' fs' A' h'=>hq hp' fs' A' (n1 h' (by simp +arith only))
    ·show wpS K M _ _ _ _
     refine pc_ite (pc_and3 (pb_int rfl .lt (.inr (.inr rfl))) (pc_len A.S.at_) (pb_not (pb_var rfl))) (fun hl=>?_) ?_
     ·show wpS K M _ _ _ _
      refine pb_ite (pb_two (pb_int rfl .eq (.inl rfl)) (pb_div rfl (by decide) (by decide) .gt (.inr rfl))).1 ?_ ?_
      ·have hk:(more / 384 % 5).toNat<ss.length:=by rw [A.ten];exact emN rfl
       have hg:(Tm.op 60 (.nm (ss[(more / 384 % 5).toNat]'hk)) (.num (1+more / 1920 % 4))).gp (·∈ss):=⟨⟨.inr (.inr (.inr (.inl rfl))),List.getElem_mem _,by lia,by lia⟩,by show 1≤3;decide⟩
       refine onLs_at A.names ?_
       delta wpNth onO;try dsimp only
       rw [pidx_nat (em0 rfl) (by rw [List.length_map];lia)]
       dsimp only
       rw [List.getElem?_map,List.getElem?_eq_getElem hk]
       exact put_frame hK A hl hg (.inr rfl) fun hp' fs' A' h'=>hq hp' fs' A' (n1 h' (by simp +arith only))
      ·exact put_frame hK A hl ht (.inr rfl) fun hp' fs' A' h'=>hq hp' fs' A' (n1 h' (by simp +arith only))
     ·show wpS K M _ _ _ _
      refine pc_ite (pc_more A.S.at_) (fun hl=>?_) (hq hp fs A (by simp +arith only))
      obtain ⟨M,rfl⟩:∃M',M=M'+1:=⟨M-1,sb hM⟩
      have S1:=A.S
      have O1:=A.O
      rw [ef] at S1 O1
      have hgs:gs≠[]:=fun e=>by rw [ef,e] at hl;exact absurd hl (Nat.lt_irrefl 1)
      refine k_closed hK S1 O1 hgs (B:=B) (by rw [←ef];exact n1 hB (by simp +arith only)) hB' fun hp' fs' S' O' n' l' w' c' p'=>?_
      rw [←ef] at l' w'
      exact hq hp' fs' ⟨S',O',n',Nat.le_trans l' A.len,p' h0 A.L0 A.pre,A.L0,A.nm,A.ten,A.gn⟩ (n1 w' (by simp +arith only))
theorem k_put {L st r:Nat}{h0 hp:List MO}{ss:List (List Nat)}{fs:List Fr}(A:At L h0 r ss hp st fs) {B N:Nat}(hB:wts fs+5≤B) (hB':B≤2000) (hN:9≤N) {more mode:Int}(hmode:mode=0∨mode=1∨mode=2) {Q:MV→List MO→Prop}{X:XT}
  (hq:∀hp' fs',At L h0 r ss hp' st fs'→wts fs'≤wts fs+5→Q .none hp'):K N 40 [.ref st,.ref r,.int more,.int mode] Q X hp:=by
 obtain ⟨M,rfl,hM⟩:=room (k:=8) (show 8<N by lia)
 refine hK _ _ _ _ _ _ fn_law_put rfl rfl ?_
 refine onIt_at (iter_list A.S.at_) ?_
 refine compL_u (fun w=>⟨[some (.ref st),some (.ref r),some (.int more),some (.int mode),some (.int (more % 12)),none,none,none,none,none,w],hp⟩) (fun _=>True) none rfl trivial (fun _ _=>A.S.at_) (fun j y w P hy _ h1 h2=>?_) (fun a w _=>?_)
 ·obtain ⟨f,ef,rfl⟩:=Option.map_eq_some_iff.mp (List.getElem?_map ..▸hy)
  refine onLs_at ((A.S.fr f (List.mem_of_getElem? ef)).1) ?_
  conv=>whnf
  cases f.sec with
  | true=>exact h1 _ _ trivial
  | false=>exact h2 _ trivial
 ·refine .nil _ _ a rfl rfl (get_old (get_last _ _)) (get_last _ _) ?_
  have A1:=A.up (pre_push (o:=.list []) (pre_push (o:=.list a) (pre_self hp)))
  refine k_rowby hK A1.names A1.gn hM fun hp2 t b hpre ht=>?_
  have hpre:hp++[.list a]++[.list []]<+:hp2:=hpre
  have A2:=A1.up hpre
  refine ⟨rfl,?_⟩
  change wpSs K M (fn_law_put.body.drop 3) (fin Q) _ ⟨[some (.ref st),some (.ref r),some (.int more),some (.int mode),some (.int (more % 12)),some (.bool (!a.isEmpty)),some t.mv,some (.bool b),none,none,none],hp2⟩
  show wpS K M _ _ _ _
  refine pb_asg (pb_two (pb_int rfl .eq (.inl rfl)) (pb_two (pb_var rfl) (pb_var rfl)).2).1 fun shut=>?_
  show wpS K M _ _ _ _
  refine pb_ite (pb_int rfl .eq (.inl rfl)) ?_ (put_end hK A2 hB hB' (Nat.le_trans (nb rfl) hM) ht hmode hq)
  conv=>whnf
  dsimp only [MS.push,MS.set]
  rw [get_last]
  delta wpNth onO;try dsimp only
  rw [pidx_nat (em0 rfl) (by show _<(4:Int);exact em2 rfl)]
  obtain ⟨w',ew⟩:=way4 (j:=(more / 7 % 4).toNat) (emN rfl)
  refine onO_at ew ?_
  exact put_end hK (A2.up (pre_push (pre_self _))) hB hB' (Nat.le_trans (nb rfl) hM) ht hmode hq
end Internal
end
section
namespace Internal
variable {K:KT}(hK:Closed PP K)
include hK
omit hK in
theorem mix_small (x:Int):small (mix x):=by
 have:=mix_pos x
 unfold small
 lia
omit hK in
theorem At.base {L st r:Nat}{h0 hp:List MO}{ss:List (List Nat)}{f:Fr}(A:At L h0 r ss hp st [f]):hp[f.ra]?=some (.list (mvs f.rows))∧hp[f.a]?=some (.list f.cells)∧gps (·∈ss) f.rows∧nests f.rows≤7:=
 have h:=A.S.fr f (List.mem_singleton.mpr rfl)
 have o:=A.O 0 f rfl
 ⟨h.2,h.1,o.good,by have:=o.nest;exact this⟩
theorem blk_while {L st r:Nat}{h0 hp:List MO}{ss:List (List Nat)}{fs:List Fr}(A:At L h0 r ss hp st fs) {M:Nat}(hM:1≤M) {B:Nat}(hB':B≤2000) (hB:wts fs≤B) {v0 v1 v2:Option MV}{vs:List (Option MV)}{Q:MV→List MO→Prop}{X:XT}
  (hq:∀hp' i rows,h0<+:hp'→hp'[i]?=some (.list (mvs rows))→gps (·∈ss) rows→nests rows≤7→(lns rows).length≤B→Q (.ref i) hp') :
  wpSs K M (fn_law_block_by.body.drop 2) (fin Q) (fun c m=>X c m.heap) ⟨v0::v1::v2::some (.ref st)::vs,hp⟩:=by
 show wpS K M _ _ _ _
 refine ⟨cls fs+1,while_inv (fun k m=>∃hp fs,m=⟨v0::v1::v2::some (.ref st)::vs,hp⟩∧At L h0 r ss hp st fs∧wts fs≤B∧cls fs+1≤k) (fun m hI=>by obtain ⟨_,_,_,_,_,h⟩:=hI;exact nf (n1 h (by simp +arith only))) (fun k m W hI hW=>?_) _ _ ⟨hp,fs,rfl,A,hB,Nat.le_refl _⟩⟩
 obtain ⟨hp,fs,rfl,A,hB,hk⟩:=hI
 obtain ⟨gs,f,ef⟩:=snoc_of A.ne
 refine onLD_list A.S.at_ ?_
 conv=>whnf
 cases gs with
 | nil=>
  subst ef
  obtain ⟨b1,b2,b3,b4⟩:=A.base
  refine onLs_at A.S.at_ ?_
  refine onLs_at b2 ?_
  refine hq hp f.ra f.rows A.pre b1 b3 b4 ?_
  have:wts ([]++[f])=f.wt+0:=rfl
  have:(lns f.rows).length+4≤f.wt:=by unfold Fr.wt;exact by simp +arith only
  lia
 | cons g gs=>
  have hl:(1:Int)<(refs fs).length:=by rw [ef];simp [refs];lia
  rw [decide_eq_true hl]
  obtain ⟨M,rfl⟩:∃M',M=M'+1:=⟨M-1,sb hM⟩
  have S1:=A.S
  have O1:=A.O
  rw [ef] at S1 O1
  refine k_closed hK S1 O1 (List.cons_ne_nil _ _) (B:=B) (by rw [←ef];exact hB) hB' fun hp' fs' S' O' n' l' w' c' p'=>?_
  rw [←ef] at l' w' c'
  exact hW _ ⟨hp',fs',rfl,⟨S',O',n',Nat.le_trans l' A.len,p' h0 A.L0 A.pre,A.L0,A.nm,A.ten,A.gn⟩,n2 w' hB (by simp +arith only),n2 c' hk (by simp +arith only)⟩
theorem k_block {rc r:Nat}{cells:List Int}{ss:List (List Nat)}{loose:Int}{h:List MO}{N:Nat}(hc:h[rc]?=some (.list (cells.map .int))) (hr:h[r]?=some (.list (ss.map .str))) (ten:ss.length=10) (gn:∀s∈ss,Gn s) (hz:cells.length≤63) (hN:10≤N) {Q:MV→List MO→Prop}{X:XT}
  (hq:∀hp' i rows,h<+:hp'→hp'[i]?=some (.list (mvs rows))→gps (·∈ss) rows→nests rows≤7→(lns rows).length≤4+5 * cells.length→Q (.ref i) hp'):K N 41 [.ref rc,.ref r,.int loose] Q X h:=by
 obtain ⟨M,rfl,hM⟩:=room (k:=9) (show 9<N by lia)
 have e1:(h++[MO.list []]).length=h.length+1:=by simp
 have e2:(h++[MO.list []]++[MO.list [.str [],.none,.ref h.length,.bool false,.none]]).length=h.length+2:=by simp
 have A0:At h.length h r ss (h++[MO.list []]++[MO.list [.str [],.none,.ref h.length,.bool false,.none]]++[MO.list [.ref (h++[MO.list []]).length]]) (h++[MO.list []]++[MO.list [.str [],.none,.ref h.length,.bool false,.none]]).length [⟨(h++[MO.list []]).length,h.length,[],none,[],false,none⟩]:=by
  refine ⟨⟨get_last _ _,fun f hf=>?_,List.pairwise_singleton ..,fun f hf=>?_,by rw [e2];exact by simp +arith only⟩,fun i f e=>?_,List.cons_ne_nil _ _,Nat.le_of_ble_eq_true rfl,pre_push (pre_push (pre_push (pre_self _))),Nat.le_refl _,hr,ten,gn⟩
  ·rw [List.mem_singleton.mp hf]
   exact ⟨get_old (get_last _ _),get_old (get_old (get_last _ _))⟩
  ·rw [List.mem_singleton.mp hf,e1,e2]
   exact ⟨by show h.length<h.length+1;exact by simp +arith only,by show h.length≠h.length+2;lia,by show h.length+1≠h.length+2;lia,Nat.le_refl _⟩
  ·cases i with
   | zero=>cases e;exact ⟨trivial,Nat.zero_le _,(fun rs e=>by cases e),.inl rfl⟩
   | succ i=>cases e
 refine hK _ _ _ _ _ _ fn_law_block_by rfl rfl ?_
 conv=>whnf
 dsimp only [start,MS.set,MS.push]
 refine onIt_at (iter_enum (pre_at A0.pre hc)) ?_
 generalize (h++[MO.list []]++[MO.list [.str [],.none,.ref h.length,.bool false,.none]]).length=st at *
 refine forL_w6 (fun j w4 w5 w6 w7 hp fs=>⟨[some (.ref rc),some (.ref r),some (.int loose),some (.ref st),w4,w5,w6,w7],hp⟩) (fun j w4 w5 w6 w7 hp fs=>At h.length h r ss hp st fs∧wts fs≤4+5 * j)
  _ _ _ _ _ _ rfl ⟨A0,Nat.le_refl 4⟩ (fun _ _ _ _ _ _ _ hI=>pre_at hI.1.pre hc) (fun j y w4 w5 w6 w7 hp fs P hy hI hn _=>?_) (fun w4 w5 w6 w7 hp fs hI=>?_)
 ·obtain ⟨A,hw⟩:=hI
  obtain ⟨z,hz1,rfl⟩:=enum_at hy
  obtain ⟨c,hc1,rfl⟩:=Option.map_eq_some_iff.mp (List.getElem?_map ..▸hz1)
  have hj:j<cells.length:=(List.getElem?_eq_some_iff.mp hc1).1
  have hc':=pre_at A.pre hc
  have last:∀more mode:Int,mode=0∨mode=1∨mode=2→wpSs K M [.expr (.call 40 [.var 3,.var 1,.var 6,.var 7])] P (fun c m=>X c m.heap) ⟨[some (.ref rc),some (.ref r),some (.int loose),some (.ref st),some (.int j),some (.int c),some (.int more),some (.int mode)],hp⟩:=fun more mode hm=>by
   refine k_put hK A (B:=2000) (by lia) (Nat.le_refl _) hM hm fun hp' fs' A' hw'=>?_
   exact hn _ _ _ _ _ _ ⟨A',n2 hw' hw (by simp +arith only)⟩
  have second:∀more mode:Int,mode=0∨mode=1→wpSs K M [.ite (.and [.cmp .gt (.var 2) (.cst (.int 1)),.cmp .eq (.var 4) (.bin .mod (.var 2) (.blt .len [.var 0]))]) [.asg [7] false (.cst (.int 2))] [],.expr (.call 40 [.var 3,.var 1,.var 6,.var 7])] P (fun c m=>X c m.heap) ⟨[some (.ref rc),some (.ref r),some (.int loose),some (.ref st),some (.int j),some (.int c),some (.int more),some (.int mode)],hp⟩:=fun more mode hm=>by
   show wpS K M _ _ _ _
   refine pb_ite (pb_two (pb_int rfl .gt (.inr (.inl rfl))) fun Q hq=>?_).1 (last more 2 (.inr (.inr rfl))) (last more mode (by lia))
   refine onLD_list hc' ?_
   refine onT_at (decide_eq_true (by rw [List.length_map];exact cpos (n1 hj (by simp +arith only)))) ?_
   exact hq _
  refine ⟨rfl,?_⟩
  refine ⟨.inl (by unfold small;decide),?_⟩
  obtain ⟨M,rfl⟩:∃M',M=M'+1:=⟨M-1,sb (n1 hN (by simp +arith only))⟩
  refine k_mixed hK ?_
  refine ⟨.inl (mix_small _),?_⟩
  refine k_mixed hK ?_
  change wpSs K (M+1) [_,_,_,_] P _ ⟨[some (.ref rc),some (.ref r),some (.int loose),some (.ref st),some (.int j),some (.int c),some (.int _),w7],hp⟩
  show wpS K (M+1) (.ite _ _ _) _ _ ⟨[some (.ref rc),some (.ref r),some (.int loose),some (.ref st),some (.int j),some (.int c),some (.int _),some (.int 0)],hp⟩
  refine pb_ite (pb_two (pb_int rfl .eq (.inl rfl)) (pb_div rfl (by decide) (by decide) .eq (.inl rfl))).1 (second _ 1 (.inr rfl)) (second _ 0 (.inl rfl))
 ·obtain ⟨A,hw⟩:=hI
  rw [enum_len,List.length_map] at hw
  exact blk_while hK A (Nat.le_trans (nb rfl) hM) (B:=4+5 * cells.length) (by lia) hw hq
end Internal
end
section
namespace Internal
noncomputable abbrev Txt:=List Nat
theorem sgs_sign {w:Txt}(h:sgs.contains w=true):∃c,isSign c∧w=[c]:=by
 have key:∀w∈sgs,∃c,isSign c∧w=[c]:=by
  intro w hw
  simp only [List.mem_cons,List.not_mem_nil,or_false] at hw
  rcases hw with rfl | rfl | rfl | rfl | rfl | rfl<;>exact ⟨_,by unfold isSign;decide,rfl⟩
 exact key w (List.contains_iff_mem.mp h)
theorem sgs_no {c:Nat}{r:Txt}(h:¬ isSign c):sgs.contains (c::r)=false:=by
 cases q:sgs.contains (c::r) with
 | false=>rfl
 | true=>
  obtain ⟨d,h1,h2⟩:=sgs_sign q
  cases h2;exact absurd h1 h
theorem abc_nosign:∀c∈abc,¬ isSign c:=by unfold isSign;decide
structure Lf (t:Tm) (w:Txt):Prop where
 ok:t.ok Gn
 dp:t.deep=0
 tx:t.txt=w
theorem Lf.no {t:Tm}{w:Txt}(h:Lf t w):sgs.contains w=false:=by
 obtain ⟨h1,h2,rfl⟩:=h
 cases t with
 | op=>exact absurd h2 (Nat.succ_ne_zero _)
 | nm s=>
  have h3:=h1.1.2.2.2
  cases s with
  | nil=>exact absurd rfl h1.1.1
  | cons c r=>exact sgs_no (abc_nosign c h3)
 | num k=>
  obtain ⟨j,rfl⟩:=Int.eq_ofNat_of_zero_le h1.1
  have h3:=dec_digits j
  show sgs.contains (dec (j:Int))=false
  cases q:dec (j:Int) with
  | nil=>exact absurd q (dec_pos j)
  | cons c r=>
   have:=h3 c (q▸List.mem_cons_self ..)
   exact sgs_no (by unfold isSign;lia)
inductive Ends (p Q N:Prop):Prop
 | yes (h:p) (q:Q)
 | no (h:¬ p) (q:N)
theorem Ends.any {p Q N:Prop}(h:p→Q) (k:N):Ends p Q N:=(Classical.em p).elim (fun e=>.yes e (h e)) fun e=>.no e k
inductive LF (w:Txt) (Q:Tm→Prop) (N:Prop):Prop
 | yes (t:Tm) (h:Lf t w) (q:Q t)
 | no (h:∀t,¬ Lf t w) (q:N)
inductive RStep (ws:List Txt) (at_:Nat) (go:Nat→(Tm→Nat→Prop)→Prop→Prop) (Q:Tm→Nat→Prop) (N:Prop):Prop
 | out (h:ws.length≤at_) (q:N)
 | sign (c:Nat) (e:ws[at_]?=some [c]) (s:isSign c) (h:go (at_+1) (fun a e=>go e (fun b f=>Q (.op c a b) f) N) N)
 | leaf (w:Txt) (e:ws[at_]?=some w) (s:sgs.contains w=false) (h:LF w (fun t=>Q t (at_+1)) N)
noncomputable def RF (ws:List Txt):Nat→Nat→(Tm→Nat→Prop)→Prop→Prop
 | 0,_,_,N=>N
 | n+1,at_,Q,N=>RStep ws at_ (RF ws n) Q N
theorem drop_at {α:Type}{ls:List α}{i:Nat}{l:α}{r:List α}(h:ls.drop i=l::r):ls[i]?=some l∧ls.drop (i+1)=r:=by
 refine ⟨?_,by rw [←List.tail_drop,h];rfl⟩
 have e:=congrArg (fun x=>x[0]?) h
 rw [List.getElem?_drop] at e
 exact e
theorem drop_more {α:Type}{ls a r:List α}{i:Nat}(h:ls.drop i=a++r):ls.drop (i+a.length)=r:=by rw [←List.drop_drop,h,List.drop_left]
theorem drop_of {α:Type}{ls:List α}{i:Nat}{l:α}(h:ls[i]?=some l):ls.drop i=l::ls.drop (i+1)∧i<ls.length:=by
 obtain ⟨h1,h2⟩:=List.getElem?_eq_some_iff.mp h
 exact ⟨by rw [List.drop_eq_getElem_cons h1,h2],h1⟩
theorem rf_full {ws:List Txt}(t:Tm):∀{n at_:Nat}{rest:List Txt}{Q:Tm→Nat→Prop}{N:Prop},t.ok Gn→ws.drop at_=t.ws++rest→(t.deep<n→Q t (at_+t.ws.length))→(n≤t.deep→N)→RF ws n at_ Q N:=by
 have leaf:∀{t:Tm} {w:Txt} {n at_:Nat} {rest:List Txt} {Q:Tm→Nat→Prop} {N:Prop},Lf t w→ws.drop at_=[w]++rest→(0<n→Q t (at_+1))→(n≤0→N)→RF ws n at_ Q N:=by
  intro t w n at_ rest Q N hl he hq hn
  cases n with
  | zero=>exact hn (Nat.le_refl _)
  | succ n=>exact .leaf w (drop_at he).1 hl.no (.yes t hl (hq (Nat.succ_pos _)))
 induction t with
 | num k=>intro n at_ rest Q N hk he hq hn;exact leaf (t:=.num k) ⟨hk,rfl,rfl⟩ he hq hn
 | nm s=>intro n at_ rest Q N hk he hq hn;exact leaf (t:=.nm s) ⟨hk,rfl,rfl⟩ he hq hn
 | op c a b iha ihb=>
  intro n at_ rest Q N hk he hq hn
  cases n with
  | zero=>exact hn (Nat.zero_le _)
  | succ n=>
   have he:ws.drop at_=[c]::(a.ws++(b.ws++rest)):=by rw [he];show _::((a.ws++b.ws)++rest)=_;rw [List.append_assoc]
   obtain ⟨e1,e2⟩:=drop_at he
   have e4:at_+1+a.ws.length+b.ws.length=at_+(Tm.op c a b).ws.length:=by
    show _=at_+((a.ws++b.ws).length+1)
    rw [List.length_append];lia
   have hq:max a.deep b.deep+1<n+1→Q (.op c a b) _:=hq
   have hn:n+1≤max a.deep b.deep+1→N:=hn
   refine .sign c e1 hk.1 (iha hk.2.1 e2 (fun ha=>ihb hk.2.2 (drop_more e2) (fun hb=>?_) fun hb=>?_) fun ha=>?_)
   ·rw [e4];exact hq (by lia)
   ·exact hn (by lia)
   ·exact hn (by lia)
theorem rf_sound {ws:List Txt}:∀{n at_:Nat}{Q:Tm→Nat→Prop}{N:Prop},(∀t e,t.ok Gn→t.deep<n→ws.drop at_=t.ws++ws.drop e→Q t e)→N→RF ws n at_ Q N:=by
 intro n
 induction n with
 | zero=>intro at_ Q N _ hn;exact hn
 | succ n ih=>
  intro at_ Q N hq hn
  cases e:ws[at_]? with
  | none=>exact .out (List.getElem?_eq_none_iff.mp e) hn
  | some w=>
   have e1:=(drop_of e).1
   cases q:sgs.contains w with
   | true=>
    obtain ⟨c,hc,rfl⟩:=sgs_sign q
    refine .sign c e hc (ih (fun a f ha da ea=>ih (fun b g hb db eb=>hq _ _ ⟨hc,ha,hb⟩ ?_ ?_) hn) hn)
    ·show max a.deep b.deep+1<n+1;lia
    ·rw [e1,ea,eb];show _::_=_::((a.ws++b.ws)++_);rw [List.append_assoc]
   | false=>
    refine .leaf w e q ?_
    by_cases hl:∃t,Lf t w
    ·obtain ⟨t,hl⟩:=hl
     refine .yes t hl (hq t _ hl.ok (by rw [hl.dp];exact Nat.succ_pos _) ?_)
     rw [e1,←hl.tx]
     cases t with
     | op=>exact absurd hl.dp (Nat.succ_ne_zero _)
     | num k=>rfl
     | nm s=>rfl
    ·exact .no (fun t h=>hl ⟨t,h⟩) hn
noncomputable def WF (ws:List Txt) (Q:Tm→Prop) (N:Prop):Prop:=RF ws 12 0 (fun t e=>Ends (e=ws.length) (Q t) N) N
noncomputable def Tm.fit (t:Tm):Prop:=t.ok Gn∧t.deep≤11
theorem wf_of {t:Tm}{Q:Tm→Prop}{N:Prop}(h:t.fit) (q:Q t):WF t.ws Q N:=
 rf_full t (rest:=[]) h.1 (List.append_nil _).symm (fun _=>.yes (Nat.zero_add _) q) fun k=>absurd (Nat.le_trans k h.2) (by decide)
theorem wf_deep {t:Tm}{Q:Tm→Prop}{N:Prop}(h:t.ok Gn) (k:12≤t.deep) (q:N):WF t.ws Q N:=
 rf_full t (rest:=[]) h (List.append_nil _).symm (fun h=>absurd (Nat.lt_of_lt_of_le h k) (Nat.lt_irrefl _)) fun _=>q
theorem wf_sound {ws:List Txt}{Q:Tm→Prop}{N:Prop}(hq:∀t:Tm,t.fit→t.ws=ws→Q t) (hn:N):WF ws Q N:=by
 refine rf_sound (fun t e ht hd he=>.any (fun h=>?_) hn) hn
 rw [h,List.drop_length,List.append_nil] at he
 exact hq t ⟨ht,Nat.le_of_lt_succ hd⟩ he.symm
mutual
noncomputable def Rw.fit:Rw→Prop
 | .set s t=>Gn s∧t.fit
 | .tell t=>t.fit
 | .skip=>True
 | .ite t a b=>t.fit∧fits a∧fits b
 | .wh t a=>t.fit∧fits a
noncomputable def fits:List Rw→Prop
 | []=>True
 | r::rs=>r.fit∧fits rs
end
mutual
noncomputable def Rw.dp:Rw→Nat
 | .ite _ a b=>max (dps a) (dps b)+1
 | .wh _ a=>dps a+1
 | _=>1
noncomputable def dps:List Rw→Nat
 | []=>0
 | r::rs=>max r.dp (dps rs)
end
theorem Tm.good.fit {t:Tm}(h:t.good):t.fit:=⟨h.1,Nat.le_trans h.2 (by decide)⟩
mutual
theorem Rw.good_fit:∀{r:Rw},r.good→r.fit
 | .set s t,h=>⟨h.1,h.2.fit⟩
 | .tell t,h=>Tm.good.fit h
 | .skip,h=>trivial
 | .ite t a b,h=>⟨h.1.fit,goods_fits h.2.1,goods_fits h.2.2⟩
 | .wh t a,h=>⟨h.1.fit,goods_fits h.2⟩
theorem goods_fits:∀{rs:List Rw},goods rs→fits rs
 | [],h=>trivial
 | r::rs,h=>⟨Rw.good_fit h.1,goods_fits h.2⟩
end
mutual
theorem Rw.dp_nest:∀(r:Rw),r.dp≤r.nest+1
 | .set s t=>Nat.le_refl _
 | .tell t=>Nat.le_refl _
 | .skip=>Nat.le_refl _
 | .ite t a b=>by
  have h1:=dps_nest a;have h2:=dps_nest b
  show max (dps a) (dps b)+1≤max (nests a) (nests b)+1+1
  lia
 | .wh t a=>Nat.succ_le_succ (dps_nest a)
theorem dps_nest:∀(rs:List Rw),dps rs≤nests rs+1
 | []=>Nat.zero_le _
 | r::rs=>by
  have h1:=r.dp_nest;have h2:=dps_nest rs
  show max r.dp (dps rs)≤max r.nest (nests rs)+1
  lia
end
noncomputable abbrev BQ:=Nat→(List Rw→Nat→Prop)→Prop→Prop
inductive HF (ls:List Txt) (at_:Nat) (blk:BQ) (W:List Txt) (Q:Rw→Nat→Prop) (N:Prop):Prop
 | skip (e:W=[wSkip]) (h:Q .skip (at_+1))
 | set (s:Txt) (T:List Txt) (e:W=wSet::s::T) (g:Gn s) (h:WF T (fun t=>Q (.set s t) (at_+1)) N)
 | tell (T:List Txt) (e:W=wTell::T) (h:WF T (fun t=>Q (.tell t) (at_+1)) N)
 | wh (T:List Txt) (e:W=wWhile::T) (h:WF T (fun t=>blk (at_+1) (fun a e=>Ends (ls[e]?=some wEnd) (Q (.wh t a) (e+1)) N) N) N)
 | ite (T:List Txt) (e:W=wIf::T) (h:WF T (fun t=>blk (at_+1) (fun a e=>Ends (ls[e]?=some wElse) (blk (e+1) (fun b f=>Ends (ls[f]?=some wEnd) (Q (.ite t a b) (f+1)) N) N) N) N) N)
 | no (w:Txt) (T:List Txt) (e:W=w::T) (h1:W≠[wSkip]) (h2:∀s U,W=wSet::s::U→¬ Gn s) (h3:w≠wTell) (h4:w≠wWhile) (h5:w≠wIf) (q:N)
structure Wd (W:List Txt):Prop where
 ne:W≠[]
 free:∀w∈W,32∉w
noncomputable def Stop (ls:List Txt) (i:Nat):Prop:=ls.length≤i∨ls[i]?=some wElse∨ls[i]?=some wEnd
noncomputable def BL (ls:List Txt) (row:Nat→(Rw→Nat→Prop)→Prop→Prop) (Q:List Rw→Nat→Prop) (N:Prop):Nat→Nat→List Rw→Prop
 | 0,_,_=>False
 | k+1,at_,acc=>Ends (Stop ls at_) (Q acc at_) (row at_ (fun r e=>at_<e∧BL ls row Q N k e (acc++[r])) N)
noncomputable def BF (ls:List Txt) (row:Nat→(Rw→Nat→Prop)→Prop→Prop):BQ:=fun at_ Q N=>∃k,BL ls row Q N k at_ []
noncomputable def RowF (ls:List Txt):Nat→Nat→(Rw→Nat→Prop)→Prop→Prop
 | 0,_,_,N=>N
 | n+1,at_,Q,N=>∀W,Wd W→ls[at_]?=some (glue 32 W)→HF ls at_ (BF ls (RowF ls n)) W Q N
noncomputable def ReadF (ls:List Txt) (Q:List Rw→Prop) (N:Prop):Prop:=BF ls (RowF ls 8) 0 (fun rs e=>Ends (e=ls.length) (Q rs) N) N
end Internal
end
section
namespace Internal
theorem line_words (wd:Txt) (t:Tm):wd++[32]++t.txt=glue 32 (wd::t.ws):=by
 rw [show wd::t.ws=[wd]++t.ws from rfl,glue_app 32 (List.cons_ne_nil _ _) t.ws_ne,t.txt_ws,List.append_assoc];rfl
theorem set_words (s:Txt) (t:Tm):wSet++[32]++s++[32]++t.txt=glue 32 (wSet::s::t.ws):=by
 show _=wSet++32::glue 32 (s::t.ws)
 rw [←line_words,List.append_assoc,List.append_assoc,←List.append_assoc s];rfl
theorem kws_free:∀w∈kws,32∉w:=by unfold kws;decide
theorem Wd.kw {wd:Txt}{t:Tm}(h:wd∈kws) (ht:t.ok Gn):Wd (wd::t.ws) where
 ne:=List.cons_ne_nil _ _
 free:=fun w hw=>by
  rcases List.mem_cons.mp hw with rfl | hw
  ·exact kws_free w h
  ·exact t.ws_free ht w hw
theorem Wd.set {s:Txt}{t:Tm}(h:Gn s) (ht:t.ok Gn):Wd (wSet::s::t.ws) where
 ne:=List.cons_ne_nil _ _
 free:=fun w hw=>by
  rcases List.mem_cons.mp hw with rfl | hw
  ·exact kws_free _ (by decide)
  ·rcases List.mem_cons.mp hw with rfl | hw
   ·exact h.1.no32
   ·exact t.ws_free ht w hw
theorem Wd.eq {W V:List Txt}(h:Wd W) (k:Wd V) (e:glue 32 W=glue 32 V):W=V:=glue_inj 32 h.ne k.ne h.free k.free e
theorem no_stop {ls:List Txt}{i:Nat}{l:Txt}(h:ls[i]?=some l) (h1:l≠wElse) (h2:l≠wEnd):¬ Stop ls i:=fun q=>by
 rcases q with q | q | q
 ·rw [List.getElem?_eq_none q] at h;cases h
 ·exact h1 (Option.some.inj (h.symm.trans q))
 ·exact h2 (Option.some.inj (h.symm.trans q))
theorem first_line (r:Rw):∃l tl,r.lines=l::tl∧l≠wElse∧l≠wEnd:=by
 have key:∀{wd x:Txt},wd++[32]++x≠wElse∧wd++[32]++x≠wEnd:=fun {wd x}=>by
  have h32:∀w,32∉w→wd++[32]++x≠w:=fun w hw e=>hw (e▸List.mem_append_left _ (List.mem_append_right _ (List.mem_singleton.mpr rfl)))
  exact ⟨h32 _ (by decide),h32 _ (by decide)⟩
 cases r with
 | set s t=>exact ⟨_,_,rfl,key⟩
 | tell t=>exact ⟨_,_,rfl,key⟩
 | skip=>exact ⟨_,_,rfl,by decide,by decide⟩
 | ite t a b=>exact ⟨_,_,rfl,key⟩
 | wh t a=>exact ⟨_,_,rfl,key⟩
theorem wh_app {t:Tm}{a:List Rw}{rest:List Txt}:(Rw.wh t a).lines++rest=(wWhile++[32]++t.txt)::(lns a++(wEnd::rest)):=congrArg (List.cons _) (List.append_assoc ..)
theorem ite_app {t:Tm}{a b:List Rw}{rest:List Txt}:(Rw.ite t a b).lines++rest=(wIf++[32]++t.txt)::(lns a++(wElse::(lns b++wEnd::rest))):=
 congrArg (List.cons _) ((List.append_assoc ..).trans (congrArg (fun x=>lns a++wElse::x) (List.append_assoc ..)))
section
variable {ls:List Txt}
theorem row_at {n at_:Nat}{rest:List Txt}{l:Txt}{V:List Txt}{Q:Rw→Nat→Prop}{N:Prop}(he:ls.drop at_=l::rest) (hl:l=glue 32 V) (hV:Wd V) (h:HF ls at_ (BF ls (RowF ls n)) V Q N):RowF ls (n+1) at_ Q N:=fun W hW e=>by
 have e:=Option.some.inj ((drop_at he).1.symm.trans e)
 rw [hW.eq hV (e.symm.trans hl)];exact h
mutual
theorem row_full:∀(r:Rw) {n at_:Nat}{rest:List Txt}{Q:Rw→Nat→Prop}{N:Prop},r.fit→ls.drop at_=r.lines++rest→(r.dp≤n→Q r (at_+r.lines.length))→(n<r.dp→N)→RowF ls n at_ Q N
 | .set s t,0,at_,rest,Q,N,hf,he,hq,hn=>hn (Nat.succ_pos _)
 | .set s t,n+1,at_,rest,Q,N,hf,he,hq,hn=>row_at he (set_words s t) (.set hf.1 hf.2.1) (.set s t.ws rfl hf.1 (wf_of hf.2 (hq (Nat.succ_pos _))))
 | .tell t,0,at_,rest,Q,N,hf,he,hq,hn=>hn (Nat.succ_pos _)
 | .tell t,n+1,at_,rest,Q,N,hf,he,hq,hn=>row_at he (line_words _ t) (.kw (by decide) (show t.fit from hf).1) (.tell t.ws rfl (wf_of hf (hq (Nat.succ_pos _))))
 | .skip,0,at_,rest,Q,N,hf,he,hq,hn=>hn (Nat.succ_pos _)
 | .skip,n+1,at_,rest,Q,N,hf,he,hq,hn=>row_at (V:=[wSkip]) he rfl ⟨List.cons_ne_nil _ _,fun w hw=>kws_free w (by rw [List.mem_singleton.mp hw];decide)⟩ (.skip rfl (hq (Nat.succ_pos _)))
 | .wh t a,0,at_,rest,Q,N,hf,he,hq,hn=>hn (Nat.succ_pos _)
 | .wh t a,n+1,at_,rest,Q,N,hf,he,hq,hn=>by
  have he:ls.drop at_=(wWhile++[32]++t.txt)::(lns a++(wEnd::rest)):=he.trans wh_app
  have e2:=(drop_at he).2
  have e3:=(drop_at (drop_more e2)).1
  have e4:at_+(Rw.wh t a).lines.length=at_+1+(lns a).length+1:=by
   show at_+((lns a++[wEnd]).length+1)=_
   rw [List.length_append,List.length_singleton];lia
  refine row_at he (line_words _ t) (.kw (by decide) hf.1.1) (.wh t.ws rfl (wf_of hf.1 ⟨1+a.length,bl_full a hf.2 e2 (fun hd=>?_) fun hd=>hn (Nat.succ_lt_succ hd)⟩))
  refine .yes (.inr (.inr e3)) (.yes e3 ?_)
  rw [←e4];exact hq (Nat.succ_le_succ hd)
 | .ite t a b,0,at_,rest,Q,N,hf,he,hq,hn=>hn (Nat.succ_pos _)
 | .ite t a b,n+1,at_,rest,Q,N,hf,he,hq,hn=>by
  have he:ls.drop at_=(wIf++[32]++t.txt)::(lns a++(wElse::(lns b++wEnd::rest))):=he.trans ite_app
  have e2:=(drop_at he).2
  have e3:=drop_at (drop_more e2)
  have e6:=(drop_at (drop_more e3.2)).1
  have e4:at_+(Rw.ite t a b).lines.length=at_+1+(lns a).length+1+(lns b).length+1:=by
   show at_+((lns a++wElse::(lns b++[wEnd])).length+1)=_
   rw [List.length_append,List.length_cons,List.length_append,List.length_singleton];lia
  have hq:max (dps a) (dps b)+1≤n+1→Q (.ite t a b) _:=hq
  have hn:n+1<max (dps a) (dps b)+1→N:=hn
  refine row_at he (line_words _ t) (.kw (by decide) hf.1.1) (.ite t.ws rfl (wf_of hf.1 ⟨1+a.length,bl_full a hf.2.1 e2 (fun ha=>.yes (.inr (.inl e3.1)) (.yes e3.1 ⟨1+b.length,bl_full b hf.2.2 e3.2 (fun hb=>.yes (.inr (.inr e6)) (.yes e6 ?_)) fun hb=>?_⟩)) fun ha=>?_⟩))
  ·rw [←e4];exact hq (by lia)
  ·exact hn (by lia)
  ·exact hn (by lia)
theorem bl_full:∀(rs:List Rw) {n k at_:Nat}{acc:List Rw}{rest:List Txt}{Q:List Rw→Nat→Prop}{N:Prop},fits rs→ls.drop at_=lns rs++rest→(dps rs≤n→BL ls (RowF ls n) Q N k (at_+(lns rs).length) (acc++rs))→(n<dps rs→N)→BL ls (RowF ls n) Q N (k+rs.length) at_ acc
 | [],n,k,at_,acc,rest,Q,N,hf,he,hq,hn=>by
  have hq:=hq (Nat.zero_le _)
  rw [List.append_nil] at hq;exact hq
 | r::rs,n,k,at_,acc,rest,Q,N,hf,he,hq,hn=>by
  have he:ls.drop at_=r.lines++(lns rs++rest):=he.trans (List.append_assoc ..)
  obtain ⟨l,tl,hl,l1,l2⟩:=first_line r
  have e1:=(drop_at (show ls.drop at_=l::(tl++(lns rs++rest)) by rw [he,hl];rfl)).1
  have hq:max r.dp (dps rs)≤n→_:=hq
  have hn:n<max r.dp (dps rs)→N:=hn
  refine .no (no_stop e1 l1 l2) (row_full r hf.1 he (fun hd=>⟨Nat.lt_add_of_pos_right (lines_pos r),bl_full rs hf.2 (drop_more he) (fun hd2=>?_) fun hd2=>?_⟩) fun hd=>?_)
  ·have hq:=hq (by lia)
   rw [show at_+(lns (r::rs)).length=at_+r.lines.length+(lns rs).length by show _+(r.lines++lns rs).length=_;rw [List.length_append];lia] at hq
   rw [List.append_assoc];exact hq
  ·exact hn (by lia)
  ·exact hn (by lia)
end
theorem bl_sound {n:Nat}(row:∀{at_:Nat}{Q:Rw→Nat→Prop}{N:Prop},at_<ls.length→(∀r e,ls.drop at_=r.lines++ls.drop e→at_<e→r.fit→r.dp≤n→Q r e)→N→RowF ls n at_ Q N) :
  ∀{k at_:Nat} {acc:List Rw} {Q:List Rw→Nat→Prop} {N:Prop},ls.length-at_<k→(∀rs e,ls.drop at_=lns rs++ls.drop e→at_≤e→fits rs→dps rs≤n→Q (acc++rs) e)→N→BL ls (RowF ls n) Q N k at_ acc:=by
 intro k
 induction k with
 | zero=>intro at_ acc Q N hk;exact absurd hk (Nat.not_lt_zero _)
 | succ k ih=>
  intro at_ acc Q N hk hq hn
  by_cases hs:Stop ls at_
  ·have hq:=hq [] at_ rfl (Nat.le_refl _) trivial (Nat.zero_le _)
   rw [List.append_nil] at hq
   exact .yes hs hq
  ·have hlt:at_<ls.length:=Nat.lt_of_not_le fun h=>hs (.inl h)
   refine .no hs (row hlt (fun r e he hlt2 hf hd=>⟨hlt2,ih (by lia) (fun rs f hf2 hle hfs hds=>?_) hn⟩) hn)
   rw [List.append_assoc]
   refine hq (r::rs) f ?_ (by lia) ⟨hf,hfs⟩ (mx hd hds)
   rw [he,hf2];exact (List.append_assoc ..).symm
theorem row_sound:∀(n:Nat) {at_:Nat}{Q:Rw→Nat→Prop}{N:Prop},at_<ls.length→(∀r e,ls.drop at_=r.lines++ls.drop e→at_<e→r.fit→r.dp≤n→Q r e)→N→RowF ls n at_ Q N
 | 0,at_,Q,N,_,_,hn=>hn
 | n+1,at_,Q,N,hlt,hq,hn=>fun W hW hl=>by
  have e1:=(drop_of hl).1
  have blk:∀{i:Nat} {Q:List Rw→Nat→Prop},(∀rs e,ls.drop i=lns rs++ls.drop e→i≤e→fits rs→dps rs≤n→Q rs e)→BF ls (RowF ls n) i Q N:=fun h=>⟨_,bl_sound (row_sound n) (Nat.lt_succ_self _) h hn⟩
  have one:∀{r:Rw} {l:Txt},r.lines=[l]→glue 32 W=l→r.fit→r.dp=1→Q r (at_+1):=fun h e hf hd=>hq _ _ (by rw [e1,e,h];rfl) (Nat.lt_succ_self _) hf (by rw [hd];exact Nat.succ_pos _)
  cases W with
  | nil=>exact absurd rfl hW.ne
  | cons w T=>
  by_cases h1:w::T=[wSkip]
  ·exact .skip h1 (one rfl (by rw [h1];rfl) trivial rfl)
  by_cases h2:∃s U,w::T=wSet::s::U∧Gn s
  ·obtain ⟨s,U,e,g⟩:=h2
   exact .set s U e g (wf_sound (fun t ht hw=>one (r:=.set s t) rfl (by rw [e,←hw,set_words]) ⟨g,ht⟩ rfl) hn)
  by_cases h3:w=wTell
  ·rw [h3]
   exact .tell T rfl (wf_sound (fun t ht hw=>one (r:=.tell t) rfl (by rw [h3,←hw,line_words]) ht rfl) hn)
  by_cases h4:w=wWhile
  ·rw [h4]
   refine .wh T rfl (wf_sound (fun t ht hw=>blk fun a e he hle hf hd=>.any (fun h=>?_) hn) hn)
   refine hq (.wh t a) (e+1) ?_ (by lia) ⟨ht,hf⟩ (Nat.succ_le_succ hd)
   rw [e1,he,(drop_of h).1,h4,←hw,←line_words,wh_app]
  by_cases h5:w=wIf
  ·rw [h5]
   refine .ite T rfl (wf_sound (fun t ht hw=>blk fun a e he hle hf hd=>.any (fun h=>blk fun b f he2 hle2 hf2 hd2=>.any (fun h'=>?_) hn) hn) hn)
   refine hq (.ite t a b) (f+1) ?_ (by lia) ⟨ht,hf,hf2⟩ (Nat.succ_le_succ (mx hd hd2))
   rw [e1,he,(drop_of h).1,he2,(drop_of h').1,h5,←hw,←line_words,ite_app]
  exact .no w T rfl h1 (fun s U e g=>h2 ⟨s,U,e,g⟩) h3 h4 h5 hn
theorem read_sound {Q:List Rw→Prop}{N:Prop}(hq:∀rs,lns rs=ls→fits rs→dps rs≤8→Q rs) (hn:N):ReadF ls Q N:=by
 refine ⟨_,bl_sound (row_sound 8) (Nat.lt_succ_self _) (fun rs e he _ hf hd=>.any (fun h=>?_) hn) hn⟩
 rw [h,List.drop_length,List.append_nil] at he
 exact hq rs he.symm hf hd
theorem read_of {rs:List Rw}{Q:List Rw→Prop}{N:Prop}(hf:fits rs) (hd:dps rs≤8) (h:Q rs):ReadF (lns rs) Q N:=
 ⟨1+rs.length,bl_full rs (rest:=[]) hf (List.append_nil _).symm (fun _=>.yes (.inl (by rw [Nat.zero_add];exact Nat.le_refl _)) (.yes (Nat.zero_add _) h)) fun k=>absurd (Nat.lt_of_lt_of_le k hd) (Nat.lt_irrefl _)⟩
theorem read_deep {rs:List Rw}{Q:List Rw→Prop}{N:Prop}(hf:fits rs) (hd:8<dps rs) (h:N):ReadF (lns rs) Q N:=
 ⟨1+rs.length,bl_full rs (rest:=[]) hf (List.append_nil _).symm (fun k=>absurd (Nat.lt_of_lt_of_le hd k) (Nat.lt_irrefl _)) fun _=>h⟩
end
end Internal
end
section
namespace Internal
noncomputable def BadL (l:Txt):Prop:=∀{rs:List Rw}{Q:List Rw→Prop}{N:Prop},fits rs→dps rs≤8→N→ReadF (lns rs++[l]) Q N
theorem badL_stop {l:Txt}(h:l=wElse∨l=wEnd):BadL l:=by
 intro rs Q N hf hd hn
 have e:(lns rs++[l])[0+(lns rs).length]?=some l:=by rw [Nat.zero_add];exact get_last _ _
 refine ⟨1+rs.length,bl_full rs (rest:=[l]) hf rfl (fun _=>.yes (.inr (h.elim (fun q=>.inl (q▸e)) fun q=>.inr (q▸e))) (.no ?_ hn)) fun _=>hn⟩
 rw [List.length_append,List.length_singleton,Nat.zero_add]
 exact Nat.ne_of_lt (Nat.lt_succ_self _)
theorem badL_of {l:Txt}{V:List Txt}(hV:Wd V) (hl:l=glue 32 V) (h1:l≠wElse) (h2:l≠wEnd) (h:∀{ls:List Txt}{at_:Nat}{Q:Rw→Nat→Prop}{N:Prop},ls.length≤at_+1→N→HF ls at_ (BF ls (RowF ls 7)) V Q N):BadL l:=by
 intro rs Q N hf hd hn
 have e:(lns rs++[l])[0+(lns rs).length]?=some l:=by rw [Nat.zero_add];exact get_last _ _
 refine ⟨1+rs.length,bl_full rs (rest:=[l]) hf rfl (fun _=>.no (no_stop e h1 h2) ?_) fun _=>hn⟩
 refine row_at (n:=7) (rest:=[]) (l:=l) (V:=V) ?_ hl hV (h ?_ hn)
 ·rw [Nat.zero_add,List.drop_left]
 ·rw [List.length_append,List.length_singleton,Nat.zero_add];exact Nat.le_refl _
theorem one_leaf:Lf (.num 1) [49]:=⟨by show (0:Int)≤1∧(1:Int)<1000000;decide,rfl,dec_one (n:=1) (by decide)⟩
theorem gn_if:¬ Gn wIf:=fun h=>h.2 (by decide)
theorem big_no:∀t,¬ Lf t [49,48,48,48,48,48,48]:=fun t h=>by
 have h1:=h.ok
 have h3:=h.tx
 cases t with
 | op=>exact absurd h.dp (Nat.succ_ne_zero _)
 | nm s=>
  have h3:s=_:=h3
  have h2:=h1.1.2.2.2
  rw [h3] at h2;exact absurd h2 (by decide)
 | num k=>
  have h3:dec k=_:=h3
  have h2:=(dec_len h1).2
  rw [h3] at h2;exact absurd h2 (by decide)
noncomputable abbrev ten:List Txt:=[[101,108,115,101],[101,110,100],[],[105,102,32,49],[115,101,116],[115,101,116,32,105,102,32,49],[116,101,108,108],[116,101,108,108,32,49,48,48,48,48,48,48],[115,107,105,112,32,115,107,105,112],[119,104,105,108,101,32,49,32,49]]
theorem ten_bad:∀l∈ten,BadL l:=by
 have wd:∀{V:List Txt},(V≠[]∧∀w∈V,32∉w)→Wd V:=fun h=>⟨h.1,h.2⟩
 intro l hl
 simp only [List.mem_cons,List.not_mem_nil,or_false] at hl
 rcases hl with rfl | rfl | rfl | rfl | rfl | rfl | rfl | rfl | rfl | rfl
 ·exact badL_stop (.inl rfl)
 ·exact badL_stop (.inr rfl)
 ·exact badL_of (V:=[[]]) (wd (by decide)) rfl (by decide) (by decide) fun _ hn=>.no [] [] rfl (by decide) (fun s U e=>by cases e) (by decide) (by decide) (by decide) hn
 ·refine badL_of (V:=[wIf,[49]]) (wd (by decide)) rfl (by decide) (by decide) fun hl hn=>.ite [[49]] rfl (RStep.leaf [49] rfl rfl (.yes (.num 1) one_leaf (.yes rfl ⟨1,.yes (.inl hl) (.no ?_ hn)⟩)))
  rw [List.getElem?_eq_none hl];exact fun e=>by cases e
 ·exact badL_of (V:=[wSet]) (wd (by decide)) rfl (by decide) (by decide) fun _ hn=>.no _ _ rfl (by decide) (fun s U e=>by cases e) (by decide) (by decide) (by decide) hn
 ·exact badL_of (V:=[wSet,wIf,[49]]) (wd (by decide)) rfl (by decide) (by decide) fun _ hn=>.no _ _ rfl (by decide) (fun s U e=>by cases e;exact gn_if) (by decide) (by decide) (by decide) hn
 ·exact badL_of (V:=[wTell]) (wd (by decide)) rfl (by decide) (by decide) fun _ hn=>.tell [] rfl (RStep.out (Nat.le_refl _) hn)
 ·exact badL_of (V:=[wTell,[49,48,48,48,48,48,48]]) (wd (by decide)) rfl (by decide) (by decide) fun _ hn=>.tell _ rfl (RStep.leaf _ rfl rfl (.no big_no hn))
 ·exact badL_of (V:=[wSkip,wSkip]) (wd (by decide)) rfl (by decide) (by decide) fun _ hn=>.no _ _ rfl (by decide) (fun s U e=>by cases e) (by decide) (by decide) (by decide) hn
 ·exact badL_of (V:=[wWhile,[49],[49]]) (wd (by decide)) rfl (by decide) (by decide) fun _ hn=>.wh _ rfl (RStep.leaf [49] rfl rfl (.yes (.num 1) one_leaf (.no (by decide) hn)))
theorem tell_deep {t:Tm}{Q:List Rw→Prop}{N:Prop}(h:t.ok Gn) (k:12≤t.deep) (hn:N):ReadF [wTell++[32]++t.txt] Q N:=by
 obtain ⟨l,tl,e,h1,h2⟩:=first_line (.tell t)
 obtain ⟨rfl,rfl⟩:wTell++[32]++t.txt=l∧[]=tl:=List.cons.inj e
 exact ⟨1,.no (no_stop rfl h1 h2) (row_at (n:=7) (rest:=[]) rfl (line_words _ t) (.kw (by decide) h) (.tell t.ws rfl (wf_deep h k hn)))⟩
noncomputable def lft (c:Nat) (s:Txt):Nat→Tm
 | 0=>.nm s
 | k+1=>.op c (lft c s k) (.nm s)
noncomputable def rgt (c:Nat) (s:Txt) (u:Tm):Nat→Tm
 | 0=>u
 | k+1=>.op c (.nm s) (rgt c s u k)
section
variable {c:Nat}{s:Txt}
theorem lft_ok (hc:isSign c) (hs:Gn s):∀k,(lft c s k).ok Gn
 | 0=>hs
 | k+1=>⟨hc,lft_ok hc hs k,hs⟩
theorem rgt_ok (hc:isSign c) (hs:Gn s) {u:Tm}(hu:u.ok Gn):∀k,(rgt c s u k).ok Gn
 | 0=>hu
 | k+1=>⟨hc,hs,rgt_ok hc hs hu k⟩
theorem lft_deep:∀k,(lft c s k).deep=k
 | 0=>rfl
 | k+1=>by show max (lft c s k).deep 0+1=k+1;rw [lft_deep k,Nat.max_zero]
theorem rgt_deep {u:Tm}:∀k,(rgt c s u k).deep=k+u.deep
 | 0=>(Nat.zero_add _).symm
 | k+1=>by show max 0 (rgt c s u k).deep+1=_;rw [rgt_deep k,Nat.zero_max];lia
theorem lft_txt:∀k,(lft c s k).txt=(List.replicate k [c,32]).flatten++glue 32 (List.replicate (k+1) s)
 | 0=>rfl
 | k+1=>by
  show [c]++[32]++(lft c s k).txt++[32]++s=_
  rw [lft_txt k,List.replicate_succ (a:=[c,32]),List.flatten_cons,List.replicate_succ' (n:=k+1),glue_app 32 (by rw [List.replicate_succ];exact List.cons_ne_nil _ _) (List.cons_ne_nil _ _)]
  simp only [List.append_assoc];rfl
theorem rgt_txt {u:Tm}:∀k,(rgt c s u k).txt=(List.replicate k ([c,32]++s++[32])).flatten++u.txt
 | 0=>rfl
 | k+1=>by
  show [c]++[32]++s++[32]++(rgt c s u k).txt=_
  rw [rgt_txt k,List.replicate_succ,List.flatten_cons]
  simp only [List.append_assoc];rfl
end
end Internal
end
section
namespace Internal
theorem sign_at {s:Txt}{i:Nat}{x:MV}(e:(s.map (fun c=>MV.str [c]))[i]?=some x):∃c,s[i]?=some c∧x=.str [c]:=by
 obtain ⟨c,h1,h2⟩:=List.getElem?_map ..▸e |> Option.map_eq_some_iff.mp
 exact ⟨c,h1,h2.symm⟩
theorem fig_of {c:Nat}(h:figs10.contains c=true):48≤c∧c≤57:=by
 have key:∀c∈figs10,48≤c∧c≤57:=by decide
 exact key c (List.contains_iff_mem.mp h)
theorem of_fig {c:Nat}(h:48≤c∧c≤57):figs10.contains c=true:=by
 have key:∀d,d<10→figs10.contains (48+d)=true:=by decide
 have:=key (c-48) (by lia)
 rwa [show 48+(c-48)=c by lia] at this
theorem fig_abc {c:Nat}(h:48≤c∧c≤57):c∉abc:=by
 have key:∀c∈abc,58≤c:=by decide
 exact fun q=>absurd (key c q) (by lia)
structure Df (w:Txt):Prop where
 lo:1≤w.length
 hi:w.length≤6
 hd:w.headD 0=48→w=[48]
 al:∀c∈w,figs10.contains c=true
theorem dec_zero {k:Int}(h:0≤k) (e:(dec k).headD 0=48):dec k=[48]:=by
 obtain ⟨n,rfl⟩:=Int.eq_ofNat_of_zero_le h
 have key:∀n:Nat,0<n→(dec n).headD 0≠48:=fun n=>by
  induction n using Nat.strongRecOn with
  | _ n ih=>
   intro hp
   rcases Nat.lt_or_ge n 10 with h | h
   ·rw [dec_one h];show 48+n≠48;lia
   ·have hn:(dec ((n / 10:Nat):Int)).headD 0≠48:=ih (n / 10) (by lia) (by lia)
    rw [dec_step h,headD_app (dec_pos _)];exact hn
 rcases Nat.eq_zero_or_pos n with rfl | hp
 ·exact dec_one (by decide)
 ·exact absurd e (key n hp)
theorem df_dec {k:Int}(h:0≤k∧k<1000000):Df (dec k):=by
 obtain ⟨h1,h2⟩:=dec_len h
 refine ⟨h1,h2,dec_zero h.1,fun c hc=>?_⟩
 obtain ⟨n,rfl⟩:=Int.eq_ofNat_of_zero_le h.1
 exact of_fig (dec_digits n c hc)
theorem dec_of:∀(j:Nat) {w:Txt},w.length=j+1→(w.headD 0=48→w=[48])→(∀c∈w,figs10.contains c=true)→∃n:Nat,dec n=w∧n<10 ^ (j+1)
 | 0,w,hl,hh,ha=>by
  cases w with
  | nil=>cases hl
  | cons c r=>
   cases r with
   | cons=>cases hl
   | nil=>
    have h1:=fig_of (ha c (List.mem_cons_self ..))
    exact ⟨c-48,by rw [dec_one (by lia)];congr 1;lia,by lia⟩
 | j+1,w,hl,hh,ha=>by
  rcases List.eq_nil_or_concat w with rfl | ⟨v,d,rfl⟩
  ·cases hl
  ·rw [List.concat_eq_append] at *
   have hv:v.length=j+1:=by rw [List.length_append,List.length_singleton] at hl;lia
   have hne:v≠[]:=fun e=>by rw [e] at hv;cases hv
   have hd:v.headD 0≠48:=fun e=>by
    have:=congrArg List.length (hh (by rw [headD_app hne];exact e))
    rw [hl] at this;cases this
   obtain ⟨m,e,hm⟩:=dec_of j hv (fun e=>absurd e hd) fun c hc=>ha c (List.mem_append_left _ hc)
   have h1:=fig_of (ha d (List.mem_append_right _ (List.mem_singleton.mpr rfl)))
   have hp:0<m:=Nat.pos_of_ne_zero fun q=>hd (by rw [←e,q,show ((0:Nat):Int)=((0:Nat):Int) from rfl,dec_one (by decide)];rfl)
   refine ⟨10 * m+(d-48),?_,?_⟩
   ·rw [dec_step (by lia),show (10 * m+(d-48)) / 10=m by lia,e]
    congr 2;lia
   ·rw [Nat.pow_succ];lia
theorem df_num {w:Txt}(h:Df w):∃k:Int,(0≤k∧k<1000000)∧dec k=w:=by
 obtain ⟨n,e,hn⟩:=dec_of (w.length-1) (by have:=h.lo;lia) h.hd h.al
 have:10 ^ (w.length-1+1)≤10 ^ 6:=Nat.pow_le_pow_right (by decide) (by have:=h.hi;have:=h.lo;lia)
 exact ⟨n,⟨by lia,by lia⟩,e⟩
theorem df_no {w:Txt}(h:Df w):¬ Gn w:=fun g=>by
 have h1:=g.1.2.2.2
 have h2:=h.lo
 cases w with
 | nil=>cases h2
 | cons c r=>exact fig_abc (fig_of (h.al c (List.mem_cons_self ..))) h1
theorem gn_of {s:Txt}(h1:1≤s.length) (h2:s.length≤8) (h3:kws.contains s=false) (h4:abc.contains (s.headD 0)=true) (h5:∀c∈s,abc.contains c=true∨figs10.contains c=true):Gn s:=by
 have key:∀c∈figs10,c∈abc36:=by decide
 refine ⟨⟨(fun e=>by rw [e] at h1;cases h1),h2,fun c hc=>(h5 c hc).elim (fun q=>abc_sub c (List.contains_iff_mem.mp q)) fun q=>key c (List.contains_iff_mem.mp q),List.contains_iff_mem.mp h4⟩,fun q=>?_⟩
 rw [List.contains_iff_mem.mpr q] at h3;cases h3
theorem gn_to {s:Txt}(h:Gn s):kws.contains s=false∧abc.contains (s.headD 0)=true∧∀c∈s,abc.contains c=true∨figs10.contains c=true:=
 ⟨by simpa using h.2,List.contains_iff_mem.mpr h.1.2.2.2,fun c hc=>abc36_two c (h.1.2.2.1 c hc)⟩
variable {K:KT}(hK:Closed PP K)
include hK
theorem k_gn {n:Nat}{s:Txt}{Q:MV→List MO→Prop}{X:XT}{h:List MO}(h128:∀c∈s,c<128) (ht:Gn s→Q (.bool true) h) (hf:¬ Gn s→Q (.bool false) h):K (n+1) 24 [.str s] Q X h:=by
 refine hK _ _ _ _ _ _ fn_is_name rfl rfl ?_
 conv=>whnf
 by_cases h1:(1:Int)≤s.length
 case neg=>rw [decide_eq_false h1];exact hf fun g=>h1 (by have:=List.length_pos_iff.mpr g.1.1;lia)
 rw [decide_eq_true h1]
 conv=>whnf
 by_cases h2:(s.length:Int)≤8
 case neg=>rw [decide_eq_false h2];exact hf fun g=>h2 (by have:=g.1.2.1;lia)
 rw [decide_eq_true h2]
 have hne:s≠[]:=fun e=>by rw [e] at h1;exact absurd h1 (by decide)
 show InP _ _ (kws.map .str) _
 refine in_strs (fun c hc=>Nat.lt_trans (h128 c hc) (by decide)) kws_ok ?_
 cases h3:kws.contains s with
 | true=>exact hf fun g=>absurd ((gn_to g).1.symm.trans h3) (by decide)
 | false=>
  refine wpNth_at (pidx_nat (by decide) (by lia)) (show s[(0:Int).toNat]?=some (s.headD 0) from get_head hne) ?_
  conv=>whnf
  cases h4:abc.contains (s.headD 0) with
  | false=>exact hf fun g=>absurd ((gn_to g).2.1.symm.trans h4) (by decide)
  | true=>
   refine onIt_at (iter_str h128) ?_
   refine forL_inv (fun i m=>∃w,m=⟨[some (.str s),w],h⟩∧∀c∈s.take i,abc.contains c=true∨figs10.contains c=true) (fun v m=>v=.bool false∧m.heap=h∧¬ Gn s) ⟨none,rfl,fun c hc=>by rw [List.take_zero] at hc;cases hc⟩ (fun _ _ _=>trivial) (fun i y m P hy hI hn _ hr=>?_) (fun m hI=>?_) (fun v m hr=>?_)
   ·obtain ⟨c,hc,rfl⟩:=sign_at hy
    obtain ⟨w,rfl,hI⟩:=hI
    have next:(abc.contains c=true∨figs10.contains c=true)→P .next ⟨[some (.str s),some (.str [c])],h⟩:=fun q=>hn _ ⟨_,rfl,fun d hd=>by
     rw [take_next hc] at hd
     rcases List.mem_append.mp hd with hd | hd
     ·exact hI d hd
     ·rw [List.mem_singleton.mp hd];exact q⟩
    conv=>whnf
    cases h5:abc.contains c with
    | true=>exact next (.inl h5)
    | false=>
     conv=>whnf
     cases h6:figs10.contains c with
     | true=>exact next (.inr h6)
     | false=>
      refine hr _ _ ⟨rfl,rfl,fun g=>?_⟩
      rcases (gn_to g).2.2 c (List.mem_of_getElem? hc) with q | q
      ·exact absurd (q.symm.trans h5) (by decide)
      ·exact absurd (q.symm.trans h6) (by decide)
   ·obtain ⟨w,rfl,hI⟩:=hI
    rw [List.length_map,List.take_length] at hI
    exact ht (gn_of (by lia) (by lia) h3 h4 hI)
   ·obtain ⟨vars,hp⟩:=m
    obtain ⟨rfl,rfl,hr⟩:=hr
    exact hf hr
theorem k_leaf {n:Nat}{w:Txt}{Qf:Tm→Prop}{Nf:Prop}{Q:MV→List MO→Prop}{X:XT}{h:List MO}(h128:∀c∈w,c<128) (hl:LF w Qf Nf) (hq:∀t:Tm,Qf t→Q t.mv h) (hn:Nf→X 7 h):K (n+3) 30 [.str w] Q X h:=by
 refine hK _ _ _ _ _ _ fn_leaf_of rfl rfl ?_
 refine k_gn hK h128 (fun g=>?_) fun g=>?_
 ·cases hl with
  | no q=>exact absurd ⟨g,rfl,rfl⟩ (q (.nm w))
  | yes t q k=>
   have e:=q.tx
   cases t with
   | op=>exact absurd q.dp (Nat.succ_ne_zero _)
   | num k=>exact absurd g (df_no (e▸df_dec q.ok))
   | nm s=>cases e;exact hq _ k
 ·have bad:¬ Df w→X 7 h:=fun hd=>by
   cases hl with
   | no _ k=>exact hn k
   | yes t q k=>
    have e:=q.tx
    cases t with
    | op=>exact absurd q.dp (Nat.succ_ne_zero _)
    | num k=>exact absurd (e▸df_dec q.ok) hd
    | nm s=>cases e;exact absurd q.ok g
  have good:Df w→∃k:Int,(0≤k∧k<1000000)∧dec k=w∧Q (Tm.num k).mv h:=fun hd=>by
   cases hl with
   | no q k=>
    obtain ⟨j,h1,h2⟩:=df_num hd
    exact absurd ⟨h1,rfl,h2⟩ (q (.num j))
   | yes t q k=>
    have e:=q.tx
    cases t with
    | op=>exact absurd q.dp (Nat.succ_ne_zero _)
    | num j=>exact ⟨j,q.ok,e,hq _ k⟩
    | nm s=>cases e;exact absurd q.ok g
  conv=>whnf
  by_cases h1:(1:Int)≤w.length
  case neg=>rw [decide_eq_false h1];exact ⟨rfl,bad fun d=>h1 (by have:=d.lo;lia)⟩
  rw [decide_eq_true h1]
  conv=>whnf
  by_cases h2:(w.length:Int)≤6
  case neg=>rw [decide_eq_false h2];exact ⟨rfl,bad fun d=>h2 (by have:=d.hi;lia)⟩
  rw [decide_eq_true h2]
  have hne:w≠[]:=fun e=>by rw [e] at h1;exact absurd h1 (by decide)
  have rest:(w.headD 0=48→w=[48])→wpSs K (n+2) (fn_leaf_of.body.drop 2) (fin Q) (fun c m=>X c m.heap) ⟨[some (.str w),none,none],h⟩:=fun h3=>by
   refine onIt_at (iter_str h128) ?_
   refine forL_w (fun i u=>⟨[some (.str w),u,none],h⟩) (fun i u=>∀c∈w.take i,figs10.contains c=true) _ rfl (fun c hc=>by rw [List.take_zero] at hc;cases hc) (fun _ _ _=>trivial) (fun i y u P hy hI next _=>?_) (fun u hI=>?_)
   ·obtain ⟨c,hc,rfl⟩:=sign_at hy
    conv=>whnf
    cases h6:figs10.contains c with
    | true=>
     refine next _ fun d hd=>?_
     rw [take_next hc] at hd
     rcases List.mem_append.mp hd with hd | hd
     ·exact hI d hd
     ·rw [List.mem_singleton.mp hd];exact h6
    | false=>exact ⟨rfl,bad fun d=>absurd ((d.al c (List.mem_of_getElem? hc)).symm.trans h6) (by decide)⟩
   ·rw [List.length_map,List.take_length] at hI
    obtain ⟨k,h5,h6,h7⟩:=good ⟨by lia,by lia,h3,hI⟩
    refine ⟨k,h6.symm,h5,?_⟩
    exact k_number hK h5 h7
  refine wpNth_at (pidx_nat (by decide) (by lia)) (show w[(0:Int).toNat]?=some (w.headD 0) from get_head hne) ?_
  conv=>whnf
  cases q:([w.headD 0]==[48]) with
  | false=>exact rest fun e=>absurd q (by rw [e];decide)
  | true=>
   conv=>whnf
   cases q2:(w==[48]) with
   | true=>exact rest fun _=>eq_of_beq q2
   | false=>exact ⟨rfl,bad fun d=>absurd (beq_eq_false_iff_ne.mp q2) (fun z=>z (d.hd (by have:=eq_of_beq q;exact (List.cons.inj this).1)))⟩
end Internal
end
section
namespace Internal
noncomputable def Pl (ws:List Txt):Prop:=∀w∈ws,∀c∈w,c<128
theorem Pl.ok {ws:List Txt}(h:Pl ws):∀s∈ws,okS s:=fun s hs c hc=>Nat.lt_trans (h s hs c hc) (by decide)
theorem get_map {ws:List Txt}{i:Nat}{w:Txt}(e:ws[i]?=some w):(ws.map MV.str)[(i:Int).toNat]?=some (.str w):=by rw [List.getElem?_map];exact congrArg (Option.map MV.str) e
theorem pidx_at {ws:List Txt}{i:Nat}{w:Txt}(e:ws[i]?=some w):pidx (i:Int) (ws.map MV.str).length=some (i:Int).toNat:=by
 have:=(List.getElem?_eq_some_iff.mp e).1
 exact pidx_nat (by lia) (by rw [List.length_map];lia)
theorem some_lt {ws:List Txt}{i:Nat}{w:Txt}(e:ws[i]?=some w):¬ ((ws.map MV.str).length:Int)≤i:=by
 have:=(List.getElem?_eq_some_iff.mp e).1
 rw [List.length_map];lia
variable {K:KT}(hK:Closed PP K)
include hK
theorem k_from {r:Nat}{ws:List Txt}{h:List MO}(hr:h[r]?=some (.list (ws.map .str))) (hp:Pl ws):∀(n:Nat) {N at_:Nat}{deep:Int}{Qf:Tm→Nat→Prop}{Nf:Prop}{Q:MV→List MO→Prop}{X:XT},n+3<N→deep+n=13→RF ws n at_ Qf Nf→(∀(t:Tm) (e:Nat),Qf t e→Q (.tup [t.mv,.int e]) h)→(Nf→X 7 h)→K N 31 [.ref r,.int at_,.int deep] Q X h:=by
 intro n
 induction n with
 | zero=>
  intro N at_ deep Qf Nf Q X hN hd hf hq hn
  obtain ⟨M,rfl,hM⟩:=room hN
  refine hK _ _ _ _ _ _ fn_formula_from rfl rfl ?_
  refine onLD_list hr ?_
  conv=>whnf
  cases decide (((ws.map MV.str).length:Int)≤at_) with
  | true=>exact ⟨rfl,hn hf⟩
  | false=>
   conv=>whnf
   rw [decide_eq_true (show (12:Int)<deep by lia)]
   exact ⟨rfl,hn hf⟩
 | succ n ih=>
  intro N at_ deep Qf Nf Q X hN hd hf hq hn
  obtain ⟨M,rfl,hM⟩:=room hN
  refine hK _ _ _ _ _ _ fn_formula_from rfl rfl ?_
  refine onLD_list hr ?_
  conv=>whnf
  have hd2:¬ (12:Int)<deep:=by lia
  have word:∀{w:Txt},ws[at_]?=some w→(match sgs.contains w with
    | true=>wpSs K M (fn_formula_from.body.drop 3) (fin Q) (fun c m=>X c m.heap) ⟨[some (.ref r),some (.int at_),some (.int deep),some (.str w),none,none,none,none],h⟩
    | false=>K M 30 [.str w] (fun v h=>Q (.tup [v,.int (at_+1)]) h) X h)→wpSs K M (fn_formula_from.body.drop 1) (fin Q) (fun c m=>X c m.heap) ⟨[some (.ref r),some (.int at_),some (.int deep),none,none,none,none,none],h⟩:=fun {w} e hk=>by
   refine onLs_at hr ?_
   refine wpNth_at (pidx_at e) (get_map e) ?_
   refine in_strs (hp.ok _ (List.mem_of_getElem? e)) sgs_ok ?_
   cases q:sgs.contains w with
   | true=>rw [q] at hk;exact hk
   | false=>rw [q] at hk;exact hk
  cases hf with
  | out h1 h2=>
   rw [decide_eq_true (show ((ws.map MV.str).length:Int)≤at_ by rw [List.length_map];lia)]
   exact ⟨rfl,hn h2⟩
  | sign c e s hf=>
   rw [decide_eq_false (some_lt e)]
   conv=>whnf
   rw [decide_eq_false hd2]
   refine word e ?_
   rw [(sign_in s).1]
   refine ih (at_:=at_+1) (by lia) (by lia) hf (fun a f hf=>?_) hn
   refine ⟨rfl,?_⟩
   refine ih (by lia) (by lia) hf (fun b g hf=>?_) hn
   exact ⟨rfl,hq _ _ hf⟩
  | leaf w e s hf=>
   rw [decide_eq_false (some_lt e)]
   conv=>whnf
   rw [decide_eq_false hd2]
   refine word e ?_
   rw [s]
   obtain ⟨M,rfl⟩:∃M',M=M'+3:=⟨M-3,by lia⟩
   exact k_leaf hK (hp _ (List.mem_of_getElem? e)) hf (fun t q=>hq _ _ q) hn
theorem k_wholef {N:Nat}{r:Nat}{ws:List Txt}{h:List MO}(hr:h[r]?=some (.list (ws.map .str))) (hp:Pl ws) (hN:17≤N) {Qf:Tm→Prop}{Nf:Prop}{Q:MV→List MO→Prop}{X:XT}(hf:WF ws Qf Nf) (hq:∀t:Tm,Qf t→Q t.mv h) (hn:Nf→X 7 h):K N 32 [.ref r] Q X h:=by
 obtain ⟨M,rfl,hM⟩:=room (k:=16) hN
 refine hK _ _ _ _ _ _ fn_whole_formula rfl rfl ?_
 refine k_from hK (at_:=0) hr hp 12 (by lia) (by decide) hf (fun t e he=>?_) hn
 refine ⟨rfl,?_⟩
 refine onLD_list hr ?_
 conv=>whnf
 cases he with
 | yes h1 h2=>
  rw [show ((e:Int)==((ws.map MV.str).length:Nat))=true by rw [h1,List.length_map];exact beq_self_eq_true _]
  exact hq _ h2
 | no h1 h2=>
  rw [show ((e:Int)==((ws.map MV.str).length:Nat))=false by rw [List.length_map,beq_eq_false_iff_ne];lia]
  exact ⟨rfl,hn h2⟩
theorem k_need {N:Nat}{r at_:Nat}{ls:List Txt}{l:Txt}{h:List MO}(hr:h[r]?=some (.list (ls.map .str))) {Qf Nf:Prop}{Q:MV→List MO→Prop}{X:XT}(hf:Ends (ls[at_]?=some l) Qf Nf) (hq:Qf→Q .none h) (hn:Nf→X 7 h):K (N+1) 33 [.ref r,.int at_,.str l] Q X h:=by
 refine hK _ _ _ _ _ _ fn_need_line rfl rfl ?_
 refine onLD_list hr ?_
 conv=>whnf
 cases e:ls[at_]? with
 | none=>
  have:=List.getElem?_eq_none_iff.mp e
  rw [decide_eq_true (show ((ls.map MV.str).length:Int)≤at_ by rw [List.length_map];lia)]
  cases hf with
  | yes h1=>rw [e] at h1;cases h1
  | no _ h2=>exact ⟨rfl,hn h2⟩
 | some w=>
  rw [decide_eq_false (some_lt e)]
  refine onLs_at hr ?_
  refine wpNth_at (pidx_at e) (get_map e) ?_
  conv=>whnf
  rw [e] at hf
  cases hf with
  | yes h1 h2=>
   rw [show (w==l)=true by rw [Option.some.inj h1];exact beq_self_eq_true _]
   exact hq h2
  | no h1 h2=>
   rw [show (w==l)=false by rw [beq_eq_false_iff_ne];exact fun q=>h1 (congrArg some q)]
   exact ⟨rfl,hn h2⟩
end Internal
end
section
namespace Internal
theorem deqs_strs':∀(x y:List Txt),D.deqs (x.map .str) (y.map .str)=(x==y)
 | [],[]=>rfl
 | [],_::_=>rfl
 | _::_,[]=>rfl
 | a::x,b::y=>by
  show ((a==b)&&D.deqs (x.map .str) (y.map .str))=(a==b&&x==y)
  rw [deqs_strs' x y]
theorem eq_strs {hp:List MO}{i j:Nat}{x y:List Txt}{Q:Bool→Prop}(hi:hp[i]?=some (.list (x.map .str))) (hj:hp[j]?=some (.list (y.map .str))) (hx:∀s∈x,okS s) (hy:∀s∈y,okS s) (hq:Q (x==y)):EqP hp (.ref i) (.ref j) Q:=by
 refine .mk (.list (x.map .str)) (.list (y.map .str)) (.list hi (rds_strs x)) (.list hj (rds_strs y)) ?_ (oks_strs hx) (oks_strs hy) ?_
 ·show D.deeps _+1≤1000
  rw [deeps_strs];decide
 ·show Q (D.deqs _ _)
  rw [deqs_strs'];exact hq
theorem glue_mem {c:Nat}:∀{ws:List Txt}{w:Txt}{x:Nat},w∈ws→x∈w→x∈glue c ws
 | [a],w,x,hw,hx=>by rw [←List.mem_singleton.mp hw];exact hx
 | a::b::r,w,x,hw,hx=>by
  show x∈a++c::glue c (b::r)
  rcases List.mem_cons.mp hw with rfl | hw
  ·exact List.mem_append_left _ hx
  ·exact List.mem_append_right _ (List.mem_cons_of_mem _ (glue_mem hw hx))
theorem slice_at {pre T:List Txt}{hp:List MO}:(hp++[MO.list (pslice ((pre++T).map MV.str) (some (pre.length:Int)) none)])[hp.length]?=some (.list (T.map .str)):=by
 rw [pslice_from (by lia),get_last,show ((pre.length:Nat):Int).toNat=(pre.map MV.str).length by rw [List.length_map];rfl,List.map_append,List.drop_left]
variable {K:KT}(hK:Closed PP K)
include hK
omit hK in
theorem w_is {w x:Txt}{T:List Txt}{a b:List MSt}{M wr:Nat}{hp:List MO}(hw:hp[wr]?=some (.list ((w::T).map .str))) {v0 v1 v2:Option MV}{r:List (Option MV)}{Q:Fl→MS→Prop}{X:XM}(op:Cmp) (ho:op=.eq∨op=.ne)
  (hq:match (match op with | .ne=>!(w==x) | _=>(w==x)) with
   | true=>wpSs K M a Q X ⟨v0::v1::v2::some (.ref wr)::r,hp⟩
   | false=>wpSs K M b Q X ⟨v0::v1::v2::some (.ref wr)::r,hp⟩):wpS K M (.ite (.cmp op (.idx (.var 3) (.cst (.int 0))) (.cst (.str x))) a b) Q X ⟨v0::v1::v2::some (.ref wr)::r,hp⟩:=by
 refine onLs_at hw ?_
 refine wpNth_at (j:=0) (pidx_nat (by decide) (by rw [List.map_cons,List.length_cons];lia)) rfl ?_
 rcases ho with rfl | rfl
 ·exact hq
 ·exact hq
theorem not_set {w:Txt}{T:List Txt}{M wr:Nat}{hp:List MO}(hw:hp[wr]?=some (.list ((w::T).map .str))) (hP:Pl (w::T)) {v0 v1 v2:Option MV}{r:List (Option MV)}{Q:Fl→MS→Prop}{X:XM}(hn:∀s U,w::T=wSet::s::U→¬ Gn s)
  (hq:wpSs K (M+1) (fn_row_from.body.drop 4) Q X ⟨v0::v1::v2::some (.ref wr)::r,hp⟩):wpSs K (M+1) (fn_row_from.body.drop 3) Q X ⟨v0::v1::v2::some (.ref wr)::r,hp⟩:=by
 refine onLs_at hw ?_
 refine wpNth_at (j:=0) (pidx_nat (by decide) (by rw [List.map_cons,List.length_cons];lia)) rfl ?_
 conv=>whnf
 cases q:(w==wSet) with
 | false=>exact hq
 | true=>
  refine onLD_list hw ?_
  cases T with
  | nil=>exact hq
  | cons s U=>
   conv=>whnf
   rw [decide_eq_true (show (1:Int)<((w::s::U).map MV.str).length by rw [List.map_cons,List.map_cons,List.length_cons,List.length_cons];lia)]
   refine onLs_at hw ?_
   refine wpNth_at (j:=1) (pidx_nat (by decide) (by rw [List.map_cons,List.map_cons,List.length_cons,List.length_cons];lia)) rfl ?_
   exact k_gn hK (hP s (List.mem_cons_of_mem _ (List.mem_cons_self ..))) (fun g=>absurd g (hn s U (by rw [eq_of_beq q]))) fun _=>hq
section
variable {rr:Nat}{ls:List Txt}(hP:Pl ls) (hz:∀l∈ls,l.length<1000000) (hl:ls.length≤100000)
noncomputable def KRow (K:KT) (rr:Nat) (ls:List Txt) (n:Nat):Prop:=∀{N at_:Nat}{deep:Int}{h:List MO}{Qf:Rw→Nat→Prop}{Nf:Prop}{Q:MV→List MO→Prop}{X:XT},h[rr]?=some (.list (ls.map .str))→at_<ls.length→2 * n+20≤N→deep+n=9→RowF ls n at_ Qf Nf→
 (∀(r:Rw) (e:Nat) (h':List MO),h<+:h'→Qf r e→Q (.tup [r.mv,.int e]) h')→(∀h':List MO,h<+:h'→Nf→X 7 h')→K N 34 [.ref rr,.int at_,.int deep] Q X h
noncomputable def KBlk (K:KT) (rr:Nat) (ls:List Txt) (n:Nat):Prop:=∀{N at_:Nat}{deep:Int}{h:List MO}{Qf:List Rw→Nat→Prop}{Nf:Prop}{Q:MV→List MO→Prop}{X:XT},h[rr]?=some (.list (ls.map .str))→2 * n+21≤N→deep+n=9→BF ls (RowF ls n) at_ Qf Nf→
 (∀(rs:List Rw) (e:Nat) (h':List MO),h<+:h'→Qf rs e→Q (.tup [.tup (mvs rs),.int e]) h')→(∀h':List MO,h<+:h'→Nf→X 7 h')→K N 35 [.ref rr,.int at_,.int deep] Q X h
include hP hz in
theorem k_row0:KRow K rr ls 0:=by
 intro N at_ deep h Qf Nf Q X hr hlt hN hd hf hq hn
 obtain ⟨M,rfl,hM⟩:=room (k:=19) hN
 refine hK _ _ _ _ _ _ fn_row_from rfl rfl ?_
 conv=>whnf
 rw [decide_eq_true (show (8:Int)<deep by lia)]
 exact ⟨rfl,hn _ (pre_self _) hf⟩
include hP hz in
theorem k_rowS {n:Nat}(ih:KBlk K rr ls n):KRow K rr ls (n+1):=by
 intro N at_ deep h Qf Nf Q X hr hlt hN hd hf hq hn
 obtain ⟨M,rfl,hM⟩:=room (k:=2 * n+21) (show _<N by lia)
 obtain ⟨M,rfl⟩:∃M',M=M'+1:=⟨M-1,by lia⟩
 have e:=get_some hlt
 generalize ls[at_]=l at e
 have hmem:=List.mem_of_getElem? e
 refine hK _ _ _ _ _ _ fn_row_from rfl rfl ?_
 conv=>whnf
 rw [decide_eq_false (show ¬ (8:Int)<deep by lia)]
 refine onLs_at hr ?_
 refine wpNth_at (pidx_at e) (get_map e) ?_
 refine ⟨rfl,32,rfl,hz l hmem,fun W h1 h2 h3=>?_⟩
 have hP:Pl W:=fun w hw c hc=>hP l hmem c (h3▸glue_mem hw hc)
 have hat:(h++[MO.list (W.map .str)])[h.length]?=some (.list (W.map .str)):=get_last _ _
 have hf:=hf W ⟨h1,h2⟩ (h3▸e)
 refine eq_strs (y:=[wSkip]) (get_old hat) (get_last _ _) hP.ok (fun s hs=>kws_ok s (by rw [List.mem_singleton.mp hs];decide)) ?_
 suffices H:∀hp2:List MO,h<+:hp2→hp2[h.length]?=some (.list (W.map .str))→match (W==[wSkip]) with
   | true=>Q (.tup [.tup [.str wSkip],.int (at_+1)]) hp2
   | false=>wpSs K (M+1) (fn_row_from.body.drop 3) (fin Q) (fun c m=>X c m.heap) ⟨[some (.ref rr),some (.int at_),some (.int deep),some (.ref h.length),none,none,none,none,none,none],hp2⟩ by
  have H:=H _ (pre_push (pre_push (pre_self _))) (get_old (o':=MO.list ([wSkip].map .str)) hat)
  cases q:(W==[wSkip]) with
  | true=>rw [q] at H;exact H
  | false=>rw [q] at H;exact H
 intro hp2 hp1 hw
 have form:∀{pre T:List Txt} {Qf:Tm→Prop} {Q:MV→List MO→Prop},W=pre++T→WF T Qf Nf→(∀t h',h<+:h'→Qf t→Q t.mv h')→K (M+1) 32 [.ref hp2.length] Q X (hp2++[MO.list (pslice ((pre++T).map MV.str) (some (pre.length:Int)) none)]):=fun {pre T Qf Q} e hf hq=>by
  refine k_wholef hK slice_at (fun w hw=>hP w (e▸List.mem_append_right _ hw)) (by lia) hf (fun t q=>hq t _ (pre_push hp1) q) fun q=>hn _ (pre_push hp1) q
 cases hf with
 | skip ew hf=>subst ew;exact hq _ _ _ hp1 hf
 | set s T ew g hf=>
  subst ew
  refine onLs_at hw ?_
  refine wpNth_at (j:=0) (pidx_nat (by decide) (by rw [List.map_cons,List.length_cons];lia)) rfl ?_
  refine onLD_list hw ?_
  conv=>whnf
  have p1:(1:Int)<((wSet::s::T).map MV.str).length:=by rw [List.map_cons,List.map_cons,List.length_cons,List.length_cons];lia
  rw [decide_eq_true p1]
  refine onLs_at hw ?_
  refine wpNth_at (j:=1) (pidx_nat (by decide) p1) rfl ?_
  refine k_gn hK (hP s (List.mem_cons_of_mem _ (List.mem_cons_self ..))) (fun g=>?_) fun q=>absurd g q
  refine onLs_at hw ?_
  refine wpNth_at (j:=1) (pidx_nat (by decide) p1) rfl ?_
  refine onLs_at hw ?_
  exact form (pre:=[wSet,s]) rfl hf fun t h' hp' q=>hq _ _ h' hp' q
 | tell T ew hf=>
  subst ew
  refine not_set hK hw hP (fun s U e=>by cases e) ?_
  show wpS K _ _ _ _ _
  refine w_is hw .eq (.inl rfl) ?_
  refine onLs_at hw ?_
  exact form (pre:=[wTell]) rfl hf fun t h' hp' q=>hq _ _ h' hp' q
 | wh T ew hf=>
  subst ew
  refine not_set hK hw hP (fun s U e=>by cases e) ?_
  show wpS K _ _ _ _ _
  refine w_is hw .eq (.inl rfl) ?_
  show wpS K _ _ _ _ _
  refine w_is hw .eq (.inl rfl) ?_
  refine onLs_at hw ?_
  refine form (pre:=[wWhile]) rfl hf fun t h' hp' q=>?_
  refine ih (at_:=at_+1) (pre_at hp' hr) (by lia) (by lia) q (fun a f h2 hp2 q=>?_) fun h2 hp2 q=>hn _ (hp'.trans hp2) q
  have hp':=hp'.trans hp2
  refine ⟨rfl,?_⟩
  exact k_need hK (pre_at hp' hr) q (fun q=>hq _ _ _ hp' q) fun q=>hn _ hp' q
 | ite T ew hf=>
  subst ew
  refine not_set hK hw hP (fun s U e=>by cases e) ?_
  show wpS K _ _ _ _ _
  refine w_is hw .eq (.inl rfl) ?_
  show wpS K _ _ _ _ _
  refine w_is hw .eq (.inl rfl) ?_
  show wpS K _ _ _ _ _
  refine w_is hw .ne (.inr rfl) ?_
  refine onLs_at hw ?_
  refine form (pre:=[wIf]) rfl hf fun t h' hp' q=>?_
  refine ih (at_:=at_+1) (pre_at hp' hr) (by lia) (by lia) q (fun a f h2 hp2 q=>?_) fun h2 hp2 q=>hn _ (hp'.trans hp2) q
  have hp':=hp'.trans hp2
  refine ⟨rfl,?_⟩
  refine k_need hK (pre_at hp' hr) q (fun q=>?_) fun q=>hn _ hp' q
  refine ih (at_:=f+1) (pre_at hp' hr) (by lia) (by lia) q (fun b g h2 hp2 q=>?_) fun h2 hp2 q=>hn _ (hp'.trans hp2) q
  have hp':=hp'.trans hp2
  refine ⟨rfl,?_⟩
  exact k_need hK (pre_at hp' hr) q (fun q=>hq _ _ _ hp' q) fun q=>hn _ hp' q
 | no w T ew k1 k2 k3 k4 k5 q=>
  subst ew
  rw [beq_eq_false_iff_ne.mpr k1]
  refine not_set hK hw hP k2 ?_
  show wpS K _ _ _ _ _
  refine w_is hw .eq (.inl rfl) ?_
  rw [show (w==wTell)=false from beq_eq_false_iff_ne.mpr k3]
  show wpS K _ _ _ _ _
  refine w_is hw .eq (.inl rfl) ?_
  rw [show (w==wWhile)=false from beq_eq_false_iff_ne.mpr k4]
  show wpS K _ _ _ _ _
  refine w_is hw .ne (.inr rfl) ?_
  rw [show (w==wIf)=false from beq_eq_false_iff_ne.mpr k5]
  exact ⟨rfl,hn _ hp1 q⟩
omit hK in
theorem stop_none {at_:Nat}{hp:List MO}(h:Stop ls at_) (hr:hp[rr]?=some (.list (ls.map .str))) {M:Nat}{r:List (Option MV)}{P:Bool→MS→Prop}{X:XM}(hq:P false ⟨some (.ref rr)::some (.int at_)::r,hp⟩) :
  wpE K M (.and [.cmp .lt (.var 1) (.blt .len [.var 0]),.cmp .ne (.idx (.var 0) (.var 1)) (.cst (.str wElse)),.cmp .ne (.idx (.var 0) (.var 1)) (.cst (.str wEnd))]) (ofBool P) X ⟨some (.ref rr)::some (.int at_)::r,hp⟩:=by
 refine onLD_list hr ?_
 conv=>whnf
 cases e:ls[at_]? with
 | none=>
  have:=List.getElem?_eq_none_iff.mp e
  rw [decide_eq_false (show ¬ (at_:Int)<((ls.map MV.str).length:Nat) by rw [List.length_map];lia)]
  exact hq
 | some w=>
  rw [decide_eq_true (Int.not_le.mp (some_lt e))]
  refine onLs_at hr ?_
  refine wpNth_at (pidx_at e) (get_map e) ?_
  rcases h with h | h | h
  ·rw [List.getElem?_eq_none h] at e;cases e
  ·cases e.symm.trans h;exact hq
  ·cases e.symm.trans h
   refine onLs_at hr ?_
   exact wpNth_at (pidx_at e) (get_map e) hq
omit hK in
theorem stop_some {at_:Nat}{hp:List MO}(h:¬ Stop ls at_) (hr:hp[rr]?=some (.list (ls.map .str))) {M:Nat}{r:List (Option MV)}{P:Bool→MS→Prop}{X:XM}(hq:at_<ls.length→P true ⟨some (.ref rr)::some (.int at_)::r,hp⟩) :
  wpE K M (.and [.cmp .lt (.var 1) (.blt .len [.var 0]),.cmp .ne (.idx (.var 0) (.var 1)) (.cst (.str wElse)),.cmp .ne (.idx (.var 0) (.var 1)) (.cst (.str wEnd))]) (ofBool P) X ⟨some (.ref rr)::some (.int at_)::r,hp⟩:=by
 have hlt:at_<ls.length:=Nat.lt_of_not_le fun q=>h (.inl q)
 have e:=get_some hlt
 generalize ls[at_]=w at e
 have h1:(w==wElse)=false:=beq_eq_false_iff_ne.mpr fun q=>h (.inr (.inl (q▸e)))
 have h2:(w==wEnd)=false:=beq_eq_false_iff_ne.mpr fun q=>h (.inr (.inr (q▸e)))
 refine onLD_list hr ?_
 conv=>whnf
 rw [decide_eq_true (Int.not_le.mp (some_lt e))]
 refine onLs_at hr ?_
 refine wpNth_at (pidx_at e) (get_map e) ?_
 conv=>whnf
 rw [h1]
 refine onLs_at hr ?_
 refine wpNth_at (pidx_at e) (get_map e) ?_
 conv=>whnf
 rw [h2]
 exact hq hlt
include hl in
theorem k_blk {n:Nat}(ih:KRow K rr ls n):KBlk K rr ls n:=by
 intro N at_ deep h Qf Nf Q X hr hN hd hf hq hn
 obtain ⟨M,rfl,hM⟩:=room (k:=2 * n+20) hN
 obtain ⟨k,hf⟩:=hf
 refine hK _ _ _ _ _ _ fn_block_from rfl rfl ?_
 refine ⟨k,while_inv (fun k m=>∃at_ acc hp w,m=⟨[some (.ref rr),some (.int (at_:Nat)),some (.int deep),some (.ref h.length),w],hp⟩∧BL ls (RowF ls n) Qf Nf k at_ acc∧h<+:hp∧hp[h.length]?=some (.list (mvs acc))∧acc.length≤at_)
  (fun m hI=>by obtain ⟨_,_,_,_,_,hI,_⟩:=hI;exact hI) (fun k m W hI hW=>?_) _ _ ⟨at_,[],_,none,rfl,hf,pre_push (pre_self _),get_last _ _,Nat.zero_le _⟩⟩
 obtain ⟨at_,acc,hp,w,rfl,hf,h1,h2,h3⟩:=hI
 cases hf with
 | yes hs q=>
  refine stop_none hs (pre_at h1 hr) ?_
  refine onLs_at h2 ?_
  exact hq _ _ _ h1 q
 | no hs q=>
  refine stop_some hs (pre_at h1 hr) fun hlt=>?_
  refine ih (pre_at h1 hr) hlt (by lia) hd q (fun r e h' p q=>?_) fun h' p q=>hn _ (h1.trans p) q
  refine ⟨rfl,?_⟩
  have h2':=pre_at p h2
  refine onT_at (ok_append h2') ?_
  refine onL_at (lst_at h2') ?_
  refine ⟨Nat.lt_of_lt_of_le (show _<100000 by rw [mvs_len];lia) (le_line (by decide)),?_⟩
  refine hW _ ⟨e,acc++[r],_,_,rfl,q.2,pre_set (h1.trans p) (Nat.le_refl _),?_,?_⟩
  ·rw [mvs_app];exact get_set h2'
  ·rw [List.length_append,List.length_singleton];exact Nat.lt_of_le_of_lt h3 q.1
include hP hz hl in
theorem k_rows:∀n:Nat,KRow K rr ls n
 | 0=>k_row0 hK hP hz
 | n+1=>k_rowS hK hP hz (k_blk hK hl (k_rows n))
include hP hz hl in
theorem k_read {N:Nat}{h:List MO}(hr:h[rr]?=some (.list (ls.map .str))) (hN:40≤N) {Qf:List Rw→Prop}{Nf:Prop}{Q:MV→List MO→Prop}{X:XT}(hf:ReadF ls Qf Nf) (hq:∀(rs:List Rw) (h':List MO),h<+:h'→Qf rs→Q (.tup (mvs rs)) h') (hn:∀h':List MO,h<+:h'→Nf→X 7 h'):K N 36 [.ref rr] Q X h:=by
 obtain ⟨M,rfl,hM⟩:=room (k:=39) hN
 refine hK _ _ _ _ _ _ fn_read rfl rfl ?_
 refine k_blk hK hl (k_rows hK hP hz hl 8) (at_:=0) hr (by lia) (by decide) hf (fun rs e h' p he=>?_) hn
 refine ⟨rfl,?_⟩
 refine onLD_list (pre_at p hr) ?_
 conv=>whnf
 cases he with
 | yes h1 h2=>
  rw [show ((e:Int)==((ls.map MV.str).length:Nat))=true by rw [h1,List.length_map];exact beq_self_eq_true _]
  exact hq _ _ p h2
 | no h1 h2=>
  rw [show ((e:Int)==((ls.map MV.str).length:Nat))=false by rw [List.length_map,beq_eq_false_iff_ne];lia]
  exact ⟨rfl,hn _ p h2⟩
end
end Internal
end
section
namespace Internal
noncomputable def Sh (ls:List Txt):Prop:=∀l∈ls,l.length≤1000
variable {K:KT}
noncomputable def RL (K:KT) (r:Rw):Prop:=∀{N:Nat}{Q:MV→List MO→Prop}{X:XT}{h:List MO},r.fit→Sh r.lines→r.lines.length≤100000→2 * r.nest+16<N→
 (∀h',h<+:h'→h'[h.length]?=some (.list (r.lines.map .str))→Q (.ref h.length) h')→K N 28 [r.mv] Q X h
variable (hK:Closed PP K)
include hK
theorem k_text:∀(t:Tm) {N:Nat}{Q:MV→List MO→Prop}{X:XT}{h:List MO},t.ok Gn→t.txt.length≤1000→t.deep<N→Q (.str t.txt) h→K N 27 [t.mv] Q X h
 | .num k,N,Q,X,h,ht,hl,hN,hq=>by
  obtain ⟨M,rfl,hM⟩:=room hN
  refine hK _ _ _ _ _ _ fn_formula_text rfl rfl ?_
  exact ⟨ht,hq⟩
 | .nm s,N,Q,X,h,ht,hl,hN,hq=>by
  obtain ⟨M,rfl,hM⟩:=room hN
  refine hK _ _ _ _ _ _ fn_formula_text rfl rfl ?_
  exact hq
 | .op c a b,N,Q,X,h,ht,hl,hN,hq=>by
  have hl:([c]++[32]++a.txt++[32]++b.txt).length≤1000:=hl
  simp only [List.length_append,List.length_singleton] at hl
  have hN:max a.deep b.deep+1<N:=hN
  obtain ⟨M,rfl,hM⟩:=room hN
  refine hK _ _ _ _ _ _ fn_formula_text rfl rfl ?_
  refine ⟨le_line (show 2≤_ by decide),?_⟩
  refine k_text a ht.2.1 (by lia) (by lia) ?_
  refine ⟨le_line (by simp only [List.length_append,List.length_singleton];lia),?_⟩
  refine ⟨le_line (by simp only [List.length_append,List.length_singleton];lia),?_⟩
  refine k_text b ht.2.2 (by lia) (by lia) ?_
  exact ⟨le_line (by simp only [List.length_append,List.length_singleton];lia),hq⟩
omit hK in
theorem lns_take_le (rs:List Rw) (j:Nat):(lns (rs.take j)).length≤(lns rs).length:=by
 have e:=lns_app (rs.take j) (rs.drop j)
 rw [List.take_append_drop] at e
 rw [e,List.length_append];exact Nat.le_add_right ..
omit hK in
theorem lns_mem:∀{rs:List Rw}{r:Rw}{l:Txt},r∈rs→l∈r.lines→l∈lns rs
 | q::rs,r,l,hr,hl=>by
  rcases List.mem_cons.mp hr with rfl | hr
  ·exact List.mem_append_left _ hl
  ·exact List.mem_append_right _ (lns_mem hr hl)
omit hK in
theorem fits_mem:∀{rs:List Rw},fits rs→∀r∈rs,r.fit
 | _::_,h,r,hr=>by
  rcases List.mem_cons.mp hr with rfl | hr
  ·exact h.1
  ·exact fits_mem h.2 r hr
theorem k_written {rs:List Rw}(ih:∀r∈rs,RL K r) {N:Nat}{Q:MV→List MO→Prop}{X:XT}{h:List MO}(hf:fits rs) (hs:Sh (lns rs)) (hz:(lns rs).length≤100000) (hN:2 * nests rs+17<N)
  (hq:∀h',h<+:h'→h'[h.length]?=some (.list ((lns rs).map .str))→Q (.ref h.length) h'):K N 29 [.tup (mvs rs)] Q X h:=by
 obtain ⟨M,rfl,hM⟩:=room hN
 refine hK _ _ _ _ _ _ fn_written rfl rfl ?_
 refine forL_w2 (fun j w hp=>⟨[some (.tup (mvs rs)),some (.ref h.length),w],hp⟩) (fun j w hp=>h<+:hp∧hp[h.length]?=some (.list ((lns (rs.take j)).map .str))) none _ rfl ⟨pre_push (pre_self _),get_last _ _⟩ (fun _ _ _ _=>trivial) (fun j x w hp P hx hI hn _=>?_) (fun w hp hI=>?_)
 ·obtain ⟨hp1,hp2⟩:=hI
  obtain ⟨r,hr,rfl⟩:=mvs_get hx
  have hmem:=List.mem_of_getElem? hr
  have hle:(lns (rs.take (j+1))).length≤100000:=Nat.le_trans (lns_take_le rs _) hz
  rw [take_next hr,lns_app,lns_one,List.length_append] at hle
  refine onT_at (ok_extend hp2) ?_
  refine ih r hmem (fits_mem hf r hmem) (fun l hl=>hs l (lns_mem hmem hl)) (by lia) (by have:=nests_mem (Nat.le_refl (nests rs)) r hmem;lia) fun h' hpre' hat=>?_
  have hi':=pre_at hpre' hp2
  refine onL_at (lst_at hi') ?_
  refine onL_at (lst_at hat) ?_
  refine ⟨le_line (by rw [List.length_map,List.length_map];lia),?_⟩
  refine hn _ _ ⟨pre_set (hp1.trans hpre') (Nat.le_refl _),?_⟩
  rw [take_next hr,lns_app,lns_one,List.map_append];exact get_set hi'
 ·obtain ⟨hp1,hp2⟩:=hI
  rw [mvs_len,List.take_length] at hp2
  exact hq hp hp1 hp2
theorem rl_skip:RL K .skip:=by
 intro N Q X h _ _ _ hN hq
 obtain ⟨M,rfl,hM⟩:=room hN
 refine hK _ _ _ _ _ _ fn_row_lines rfl rfl ?_
 exact hq _ (pre_push (pre_self _)) (get_last _ _)
omit hK in
theorem line_len {r:Rw}{wd:Txt}{t:Tm}{tl:List Txt}(h:Sh r.lines) (e:r.lines=(wd++[32]++t.txt)::tl):wd.length+1+t.txt.length≤1000:=by
 have:=h _ (e▸List.mem_cons_self ..)
 simpa only [List.length_append,List.length_singleton] using this
theorem rl_set {s:Txt}{t:Tm}:RL K (.set s t):=by
 intro N Q X h hf hs _ hN hq
 obtain ⟨M,rfl,hM⟩:=room hN
 have hl:=line_len (t:=t) hs (wd:=wSet++[32]++s) (tl:=[]) rfl
 simp only [List.length_append,List.length_singleton,List.length_cons,List.length_nil] at hl
 have hd:=hf.2.2
 refine hK _ _ _ _ _ _ fn_row_lines rfl rfl ?_
 refine ⟨le_line (by simp only [List.length_cons,List.length_nil];lia),?_⟩
 refine ⟨le_line (by simp only [List.length_append,List.length_cons,List.length_nil];lia),?_⟩
 refine k_text hK t hf.2.1 (by lia) (by lia) ?_
 refine ⟨le_line (by simp only [List.length_append,List.length_cons,List.length_nil];lia),?_⟩
 exact hq _ (pre_push (pre_self _)) (get_last _ _)
noncomputable def seg (k:Nat) (b:List Rw):List Txt:=match k with
 | 0=>lns b
 | _=>wElse::lns b
noncomputable abbrev rlLoop:List MSt:=[.ite (.cmp .gt (.var 3) (.cst (.int 0))) [.expr (.mth .append (.var 1) [.cst (.str wElse)])] [],.expr (.mth .extend (.var 1) [.call 29 [.idx (.var 2) (.var 3)]])]
theorem rl_turn {b:List Rw}(ih:∀r∈b,RL K r) {x:MV}{us:List MV}{L:List Txt}{M k i j:Nat}{P:Fl→MS→Prop}{X:XM}{h hp:List MO}(hf:fits b) (hs:Sh (lns b)) (hpre:h<+:hp) (hz:(L++seg k b).length≤100000) (hM:2 * nests b+17<M)
  (hi:hp[i]?=some (.list (L.map .str))) (hj:hp[j]?=some (.list us)) (hk:us[k]?=some (.tup (mvs b))) (h1:h.length≤i) (hij:i≠j) {w:Option MV}
  (hq:∀hp',h<+:hp'→hp'[i]?=some (.list ((L++seg k b).map .str))→hp'[j]?=some (.list us)→P .next ⟨[some x,some (.ref i),some (.ref j),some (.int k)],hp'⟩) :
  asg [3] false (.int k) (fun m=>wpSs K M rlLoop P X m) ⟨[some x,some (.ref i),some (.ref j),w],hp⟩:=by
 have hlt:k<us.length:=(List.getElem?_eq_some_iff.mp hk).1
 have go:∀hp (L':List Txt),h<+:hp→hp[i]?=some (.list (L'.map .str))→hp[j]?=some (.list us)→L'++lns b=L++seg k b→wpSs K M (rlLoop.drop 1) P X ⟨[some x,some (.ref i),some (.ref j),some (.int k)],hp⟩:=fun hp L' hpre hi hj e=>by
  rw [←e,List.length_append] at hz
  refine onT_at (ok_extend hi) ?_
  refine onLs_at hj ?_
  refine wpNth_at (pidx_nat (by lia) (by lia)) hk ?_
  refine k_written hK ih hf hs (by lia) hM fun h' hpre' hat=>?_
  have hi':=pre_at hpre' hi
  refine onL_at (lst_at hi') ?_
  refine onL_at (lst_at hat) ?_
  refine ⟨le_line (by rw [List.length_map,List.length_map];lia),?_⟩
  refine hq _ (pre_set (hpre.trans hpre') h1) ?_ (set_other hij (pre_at hpre' hj))
  rw [←e,List.map_append];exact get_set hi'
 conv=>whnf
 cases k with
 | zero=>exact go hp L hpre hi hj rfl
 | succ k=>
  rw [decide_eq_true (show (0:Int)<(k+1:Nat) by lia)]
  refine onT_at (ok_append hi) ?_
  refine onL_at (lst_at hi) ?_
  have hz':L.length+1≤100000:=by rw [List.length_append] at hz;show L.length+1≤_;have:(seg (k+1) b).length=(lns b).length+1:=rfl;lia
  refine ⟨Nat.lt_of_lt_of_le (by rw [List.length_map];exact Nat.lt_succ_self _) (le_line (Nat.le_trans hz' (by decide))),?_⟩
  refine go _ (L++[wElse]) (pre_set hpre h1) ?_ (set_other hij hj) ?_
  ·rw [List.map_append];exact get_set hi
  ·show L++[wElse]++lns b=L++wElse::lns b
   rw [List.append_assoc];rfl
noncomputable abbrev rlEnd:List MSt:=[.ite (.cmp .ne (.var 2) (.list [])) [.expr (.mth .append (.var 1) [.cst (.str wEnd)])] [],.ret (.var 1)]
omit hK in
theorem rl_end {x:MV}{us:List MV}{L:List Txt}{M i j:Nat}{Q:MV→List MO→Prop}{X:XM}{h hp:List MO}(hpre:h<+:hp) (hz:L.length+1≤100000) (hi:hp[i]?=some (.list (L.map .str))) (hj:hp[j]?=some (.list us)) (h1:h.length≤i) {w:Option MV}
  (hq:∀hp',h<+:hp'→hp'[i]?=some (.list ((L++(if us.isEmpty then [] else [wEnd])).map .str))→Q (.ref i) hp') :
  wpSs K M rlEnd (fin Q) X ⟨[some x,some (.ref i),some (.ref j),w],hp⟩:=by
 refine .nil _ _ us rfl rfl (get_old hj) (get_last _ _) ?_
 cases us with
 | nil=>exact hq _ (pre_push hpre) (by rw [List.isEmpty_nil,if_pos rfl,List.append_nil];exact get_old hi)
 | cons u us=>
  have hi':(hp++[MO.list []])[i]?=some (.list (L.map .str)):=get_old hi
  refine onT_at (ok_append hi') ?_
  refine onL_at (lst_at hi') ?_
  refine ⟨Nat.lt_of_lt_of_le (by rw [List.length_map];exact Nat.lt_succ_self _) (le_line (Nat.le_trans hz (by decide))),?_⟩
  refine hq _ (pre_set (pre_push hpre) h1) ?_
  rw [List.map_append];exact get_set hi'
theorem rl_head {wd:Txt}{t:Tm}{more:List MV}{us:List MV}{M:Nat}{Q:MV→List MO→Prop}{X:XT}{h:List MO}(hwd:wd=wTell∨wd=wIf∨wd=wWhile) (ht:t.fit) (hl:wd.length+1+t.txt.length≤1000) (hM:15≤M)
  (hus:∀{N:Nat}{Q:MV→List MO→Prop}{X:XT}{h:List MO},Q (.ref h.length) (h++[.list us])→K (N+1) 25 [.tup (.str wd::t.mv::more)] Q X h)
  (hq:∀hp,h<+:hp→hp[h.length]?=some (.list ([wd++[32]++t.txt].map .str))→hp[h.length+1]?=some (.list us)→forL none (fun v P m=>asg [3] false v (fun m=>wpSs K M rlLoop P (fun c m=>X c m.heap) m) m) (fun f m=>match f with
    | .next=>wpSs K M rlEnd (fin Q) (fun c m=>X c m.heap) m
    | f=>fin Q f m) ((List.range us.length).map (fun (i:Nat)=>.int i)) ⟨[some (.tup (.str wd::t.mv::more)),some (.ref h.length),some (.ref (h.length+1)),none],hp⟩) (hz:us.length≤2) :
  K (M+1) 28 [.tup (.str wd::t.mv::more)] Q X h:=by
 have hd:=ht.2
 obtain ⟨M,rfl⟩:∃M',M=M'+1:=⟨M-1,by lia⟩
 have h1:(wd==wSkip)=false:=by rcases hwd with rfl | rfl | rfl<;>rfl
 have h2:(wd==wSet)=false:=by rcases hwd with rfl | rfl | rfl<;>rfl
 have p0:pidx 0 (MV.str wd::t.mv::more).length=some 0:=pidx_nat (by decide) (by rw [List.length_cons];lia)
 have p1:pidx 1 (MV.str wd::t.mv::more).length=some 1:=pidx_nat (by decide) (by rw [List.length_cons,List.length_cons];lia)
 refine hK _ _ _ _ _ _ fn_row_lines rfl rfl ?_
 refine wpNth_at p0 rfl ?_
 conv=>whnf
 rw [h1]
 refine wpNth_at p0 rfl ?_
 conv=>whnf
 rw [h2]
 refine wpNth_at p0 rfl ?_
 refine ⟨le_line (by simp only [List.length_cons,List.length_nil];lia),?_⟩
 refine hK _ _ _ _ _ _ fn_formula_of rfl rfl ?_
 refine wpNth_at p0 rfl ?_
 conv=>whnf
 rw [h1]
 refine wpNth_at p0 rfl ?_
 conv=>whnf
 rw [h2]
 refine wpNth_at p1 rfl ?_
 refine k_text hK t ht.1 (by lia) (by lia) ?_
 refine ⟨le_line (by simp only [List.length_append,List.length_cons,List.length_nil];lia),?_⟩
 refine hus ?_
 have e:(h++[MO.list [MV.str (wd++[32]++t.txt)]]).length=h.length+1:=by simp
 have hj:(h++[MO.list [MV.str (wd++[32]++t.txt)]]++[MO.list us])[h.length+1]?=some (.list us):=by rw [←e];exact get_last _ _
 change wpSs K (M+1) (fn_row_lines.body.drop 4) (fin Q) _ ⟨[some (.tup (.str wd::t.mv::more)),some (.ref h.length),some (.ref (h++[MO.list [MV.str (wd++[32]++t.txt)]]).length),none],h++[.list [.str (wd++[32]++t.txt)]]++[.list us]⟩
 rw [e]
 refine onLD_list hj ?_
 refine onIt_at (iter_range1 (by lia) (by lia)) ?_
 exact hq _ (pre_push (pre_push (pre_self _))) (get_old (get_last _ _)) hj
theorem rl_tell {t:Tm}:RL K (.tell t):=by
 intro N Q X h hf hs _ hN hq
 obtain ⟨M,rfl,hM⟩:=room hN
 refine rl_head hK (.inl rfl) hf (line_len hs rfl) (by lia) (us:=[]) (fun {N Q X h} hq=>?_) (fun hp hpre hi hj=>?_) (by decide)
 ·refine hK _ _ _ _ _ _ fn_blocks_in rfl rfl ?_
  exact hq
 ·show forL _ _ _ [] _
  rw [forL_nil]
  exact ⟨trivial,rl_end hpre (by show 1+1≤100000;decide) hi hj (Nat.le_refl _) hq⟩
theorem rl_wh {t:Tm}{a:List Rw}(ia:∀r∈a,RL K r):RL K (.wh t a):=by
 intro N Q X h hf hs hz hN hq
 obtain ⟨M,rfl,hM⟩:=room hN
 have hsa:Sh (lns a):=fun l hl=>hs l (List.mem_cons_of_mem _ (List.mem_append_left _ hl))
 have hz:((wWhile++[32]++t.txt)::(lns a++[wEnd])).length≤100000:=hz
 rw [List.length_cons,List.length_append,List.length_singleton] at hz
 have hM:2 * (nests a+1)+16≤M:=hM
 refine rl_head hK (.inr (.inr rfl)) hf.1 (line_len hs rfl) (by lia) (us:=[.tup (mvs a)]) (fun {N Q X h} hq=>?_) (fun hp hpre hi hj=>?_) (Nat.le_succ 1)
 ·refine hK _ _ _ _ _ _ fn_blocks_in rfl rfl ?_
  exact hq
 ·show forL _ _ _ [.int (0:Nat)] _
  rw [forL_cons]
  refine ⟨trivial,?_⟩
  refine rl_turn hK ia hf.2 hsa hpre (by show (_::lns a).length≤_;rw [List.length_cons];lia) (by lia) hi hj rfl (Nat.le_refl _) (by lia) fun hp' hpre' hi' hj'=>?_
  rw [forL_nil]
  exact ⟨trivial,rl_end hpre' (by show (_::lns a).length+1≤_;rw [List.length_cons];lia) hi' hj' (Nat.le_refl _) fun hp'' hpre'' e=>hq _ hpre'' e⟩
theorem rl_ite {t:Tm}{a b:List Rw}(ia:∀r∈a,RL K r) (ib:∀r∈b,RL K r):RL K (.ite t a b):=by
 intro N Q X h hf hs hz hN hq
 obtain ⟨M,rfl,hM⟩:=room hN
 have hsa:Sh (lns a):=fun l hl=>hs l (List.mem_cons_of_mem _ (List.mem_append_left _ hl))
 have hsb:Sh (lns b):=fun l hl=>hs l (List.mem_cons_of_mem _ (List.mem_append_right _ (List.mem_cons_of_mem _ (List.mem_append_left _ hl))))
 have hz:((wIf++[32]++t.txt)::(lns a++wElse::(lns b++[wEnd]))).length≤100000:=hz
 rw [List.length_cons,List.length_append,List.length_cons,List.length_append,List.length_singleton] at hz
 have hM:2 * (max (nests a) (nests b)+1)+16≤M:=hM
 refine rl_head hK (.inr (.inl rfl)) hf.1 (line_len hs rfl) (by lia) (us:=[.tup (mvs a),.tup (mvs b)]) (fun {N Q X h} hq=>?_) (fun hp hpre hi hj=>?_) (Nat.le_refl 2)
 ·refine hK _ _ _ _ _ _ fn_blocks_in rfl rfl ?_
  exact hq
 ·show forL _ _ _ [.int (0:Nat),.int (1:Nat)] _
  rw [forL_cons]
  refine ⟨trivial,?_⟩
  refine rl_turn hK ia hf.2.1 hsa hpre (by show (_::lns a).length≤_;rw [List.length_cons];lia) (by lia) hi hj rfl (Nat.le_refl _) (by lia) fun hp' hpre' hi' hj'=>?_
  rw [forL_cons]
  refine ⟨trivial,?_⟩
  refine rl_turn hK ib hf.2.2 hsb hpre' (by show (_::lns a++wElse::lns b).length≤_;rw [List.length_append,List.length_cons,List.length_cons];lia) (by lia) hi' hj' rfl (Nat.le_refl _) (by lia) fun hp' hpre' hi' hj'=>?_
  rw [forL_nil]
  refine ⟨trivial,rl_end hpre' (by show (_::lns a++wElse::lns b).length+1≤_;rw [List.length_append,List.length_cons,List.length_cons];lia) hi' hj' (Nat.le_refl _) fun hp'' hpre'' e=>hq _ hpre'' ?_⟩
  rw [e]
  congr 3
  show (_::lns a)++(wElse::lns b)++[wEnd]=_::(lns a++wElse::(lns b++[wEnd]))
  simp
mutual
theorem rl_all:∀r:Rw,RL K r
 | .set s t=>rl_set hK
 | .tell t=>rl_tell hK
 | .skip=>rl_skip hK
 | .ite t a b=>rl_ite hK (rls_all a) (rls_all b)
 | .wh t a=>rl_wh hK (rls_all a)
theorem rls_all:∀rs:List Rw,∀r∈rs,RL K r
 | [],r,h=>by cases h
 | q::rs,r,h=>(List.mem_cons.mp h).elim (fun e=>e▸rl_all q) fun h=>rls_all rs r h
end
end Internal
end
section
namespace Internal
theorem ty_exc {hp:List MO}{c r:Nat}{t:TS}(e:hp[r]?=some (.exc c)):tyOf hp (.ref r) t=kdTy (.exc c) t:=by
 show tyO hp[r]? t=_
 rw [e];rfl
theorem nests_dps:∀(rs:List Rw),nests rs≤dps rs:=by
 have row:∀(r:Rw),(match r with | .ite _ a b=>nests a≤dps a∧nests b≤dps b | .wh _ a=>nests a≤dps a | _=>True)→r.nest≤r.dp:=by
  intro r h
  cases r with
  | set s t=>exact Nat.zero_le _
  | tell t=>exact Nat.zero_le _
  | skip=>exact Nat.zero_le _
  | ite t a b=>have h1:=h.1;have h2:=h.2;show max (nests a) (nests b)+1≤max (dps a) (dps b)+1;lia
  | wh t a=>exact Nat.succ_le_succ h
 intro rs
 induction rs using Rw.rec_1 (motive_1:=fun r=>r.nest≤r.dp) with
 | set s t=>exact row (.set s t) trivial
 | tell t=>exact row (.tell t) trivial
 | skip=>exact row .skip trivial
 | ite t a b ha hb=>exact row (.ite t a b) ⟨ha,hb⟩
 | wh t a ha=>exact row (.wh t a) ha
 | nil=>exact Nat.le_refl _
 | cons r rs h1 h2=>show max r.nest (nests rs)≤max r.dp (dps rs);lia
structure Lns (ls:List Txt):Prop where
 pl:Pl ls
 sh:Sh ls
 le:ls.length≤10000
theorem Lns.z {ls:List Txt}(h:Lns ls):∀l∈ls,l.length<1000000:=fun l hl=>Nat.lt_of_le_of_lt (h.sh l hl) (by decide)
theorem ok_count {hp:List MO}{r:Nat}{xs:List MV}(e:hp[r]?=some (.list xs)):mthOk .count (.ref r) hp=true:=by
 show (lstO r hp[r]?).isSome=true;rw [e];rfl
variable {K:KT}(hK:Closed PP K)
include hK
theorem k_alone {r N:Nat}{Q:MV→List MO→Prop}{X:XT}{h:List MO}(he:h[r]?=some (.exc 7)) (hq:∀h',h<+:h'→Q (.bool true) h'):K (N+1) 47 [.ref r] Q X h:=by
 refine hK _ _ _ _ _ _ fn_law_alone rfl rfl ?_
 have h1:=fun o=>get_old (o':=o) he
 refine onO_at (ty_exc he) (onO_at (ty_exc he) (onO_at (ty_exc he) (onO_at (ty_exc he) ?_)))
 refine onO_at (ty_exc (h1 _)) (onO_at (ty_exc (h1 _)) (onO_at (ty_exc (h1 _)) ?_))
 refine onLs_at (get_old (get_last _ _)) (onLs_at (get_last _ _) ?_)
 refine ⟨Nat.le_of_ble_eq_true rfl,?_⟩
 refine onO_at (ty_exc (get_old (get_old (h1 _)))) ?_
 refine onT_at (ok_count (get_last _ _)) ?_
 refine onL_at (lst_at (get_last _ _)) ?_
 refine ⟨trivial,[false,false,false,false,false,false,true],rfl,by decide,?_⟩
 exact hq _ (pre_push (pre_push (pre_push (pre_self _))))
theorem k_caught {N:Nat}{v i:Nat}{m:MS}{Q:MV→List MO→Prop}{X:XM}{P:Fl→MS→Prop}(e:m.get v=some (.ref i)) (e0:m.heap[i]?=some (.exc 7)) (hP:∀x m,Q x m.heap→P (.ret x) m) (hq:∀h',m.heap<+:h'→Q (.bool true) h') :
  wpSs K (N+1) [.ret (.and [.isi (.var v) [.cls 7],.call 47 [.var v]])] P X m:=by
 conv=>whnf
 rw [e]
 refine onO_at (ty_exc e0) ?_
 conv=>whnf
 rw [e]
 exact k_alone hK e0 fun h' p=>hP _ ⟨_,h'⟩ (hq h' p)
theorem k_refused {N r:Nat}{ls:List Txt}{h:List MO}(hr:h[r]?=some (.list (ls.map .str))) (hl:Lns ls) (hN:50≤N) {Qf:List Rw→Prop}{Nf:Prop}{Q:MV→List MO→Prop}{X:XT}(hf:ReadF ls Qf Nf) (hq:∀rs h',h<+:h'→Qf rs→Q (.bool false) h') (hn:∀h',h<+:h'→Nf→Q (.bool true) h'):K N 48 [.ref r] Q X h:=by
 obtain ⟨M,rfl,hM⟩:=room (k:=49) hN
 obtain ⟨M,rfl⟩:∃M',M=M'+1:=⟨M-1,by lia⟩
 refine hK _ _ _ _ _ _ fn_law_refused rfl rfl ?_
 refine ⟨rfl,?_⟩
 refine k_read hK hl.pl hl.z (Nat.le_trans hl.le (by decide)) hr (by lia) hf (fun rs h' p q=>?_) fun h' p q=>?_
 ·exact hq rs h' p q
 ·exact k_caught hK (Q:=Q) rfl (get_last _ _) (fun _ _ q=>q) fun h2 p2=>hn h2 ((pre_push p).trans p2) q
theorem k_own {N r:Nat}{ls:List Txt}{h:List MO}(hr:h[r]?=some (.list (ls.map .str))) (hl:Lns ls) (hN:50≤N) {Q:MV→List MO→Prop}{X:XT}(hq:∀h',h<+:h'→Q (.bool true) h'):K N 49 [.ref r] Q X h:=by
 obtain ⟨M,rfl,hM⟩:=room (k:=49) hN
 obtain ⟨M,rfl⟩:∃M',M=M'+1:=⟨M-1,by lia⟩
 refine hK _ _ _ _ _ _ fn_law_own rfl rfl ?_
 refine ⟨rfl,?_⟩
 refine onLD_list hr ?_
 have hp:h<+:h++[MO.list (ls.map .str)]:=pre_push (pre_self _)
 refine k_read hK hl.pl hl.z (Nat.le_trans hl.le (by decide)) (get_last _ _) (by lia) (Qf:=fun rs=>lns rs=ls∧fits rs∧dps rs≤8) (Nf:=True) (read_sound (fun rs h1 h2 h3=>⟨h1,h2,h3⟩) trivial) (fun rs h' p q=>?_) fun h' p q=>?_
 ·obtain ⟨q1,q2,q3⟩:=q
  have q4:=nests_dps rs
  have p:h<+:h':=hp.trans p
  refine k_written hK (rls_all hK rs) q2 (by rw [q1];exact hl.sh) (by rw [q1];exact Nat.le_trans hl.le (by decide)) (by lia) fun h2 p2 e=>?_
  have p2:h<+:h2:=p.trans p2
  refine eq_strs (x:=lns rs) (y:=ls) e (pre_at p2 hr) (by rw [q1];exact hl.pl.ok) hl.pl.ok ?_
  rw [show (lns rs==ls)=true by rw [q1];exact beq_self_eq_true _]
  exact hq _ p2
 ·exact k_caught hK (Q:=Q) rfl (get_last _ _) (fun _ _ q=>q) fun h2 p2=>hq h2 ((pre_push (hp.trans p)).trans p2)
end Internal
end
section
namespace Internal
variable {K:KT}(hK:Closed PP K)
include hK
omit hK in
theorem cut_ok {l s:Txt}{a b:Nat}(h128:∀c∈l,c<128) (hs:∀c∈s,c<128) (ha:a≤b):(l.take a++s++l.drop b).length≤l.length+s.length∧∀c∈l.take a++s++l.drop b,c<128:=by
 refine ⟨by simp only [List.length_append,List.length_take,List.length_drop];lia,fun c hc=>?_⟩
 rcases List.mem_append.mp hc with hc | hc
 ·rcases List.mem_append.mp hc with hc | hc
  ·exact h128 c (List.mem_of_mem_take hc)
  ·exact hs c hc
 ·exact h128 c (List.mem_of_mem_drop hc)
noncomputable abbrev sg1:Txt:=[32,33,34,35,36,38,39,40,41,42,43,44,45,46,47,48,49,50,51,52,53,54,55,56,57,58,59,60,61,62,63,64,65,66,67,68,69,70,71,72,73,74,75,76,77,78,79,80,81,82,83,84,85,86,87,88,89,90,91,92,93,94,95,96]
noncomputable abbrev sg2:Txt:=[97,98,99,100,101,102,103,104,105,106,107,108,109,110,111,112,113,114,115,116,117,118,119,120,121,122,123,124,125,126,9,10]
omit hK in
theorem sg_lt:∀c∈sg1++sg2,c<128:=by decide
omit hK in
theorem ps_lt:∀c∈[32,48,43,47,60],c<128:=by decide
theorem k_changed {l:Txt}{c:Int}{N:Nat}{Q:MV→List MO→Prop}{X:XT}{h:List MO}(hl:l.length≤999) (h128:∀x∈l,x<128) (hq:∀t:Txt,t.length≤l.length+1→(∀x∈t,x<128)→Q (.str t) h):K (N+1) 50 [.str l,.int c] Q X h:=by
 refine hK _ _ _ _ _ _ fn_law_changed rfl rfl ?_
 refine ⟨Nat.le_of_ble_eq_true rfl,?_⟩
 have hp:(0:Int)<l.length+1:=by lia
 refine onT_at (decide_eq_true hp) ?_
 have a0:0≤c / 3 % ((l.length:Int)+1):=Int.emod_nonneg _ (Int.ne_of_gt hp)
 have a1:c / 3 % ((l.length:Int)+1)<(l.length:Int)+1:=Int.emod_lt_of_pos _ hp
 have rest:∀x:Nat,x<128→wpSs K N (fn_law_changed.body.drop 5) (fin Q) (fun c m=>X c m.heap) ⟨[some (.str l),some (.int c),some (.str (sg1++sg2)),some (.int (c / 3 % ((l.length:Int)+1))),some (.str [x])],h⟩:=fun x hx=>by
  generalize c / 3 % ((l.length:Int)+1)=a at a0 a1
  have e1:pslice l none (some a)=l.take a.toNat:=pslice_to a0
  have e2:pslice l (some a) none=l.drop a.toNat:=pslice_from a0
  have e3:pslice l (some (a+1)) none=l.drop (a+1).toNat:=pslice_from (by lia)
  have hx:∀y∈[x],y<128:=fun y hy=>by rw [List.mem_singleton.mp hy];exact hx
  have lt:(l.take a.toNat).length≤999:=by rw [List.length_take];lia
  have ld:∀k:Nat,(l.drop k).length≤999:=fun k=>by rw [List.length_drop];lia
  conv=>whnf
  cases (c % 3==0) with
  | true=>
   show (pslice l none (some a)).length+1≤line∧_
   rw [e1]
   refine ⟨le_line (by lia),?_⟩
   show (l.take a.toNat++[x]).length+(pslice l (some a) none).length≤line∧Q (.str (l.take a.toNat++[x]++pslice l (some a) none)) h
   rw [e2]
   have k:=cut_ok (a:=a.toNat) (b:=a.toNat) h128 hx (Nat.le_refl _)
   refine ⟨le_line (by have:=k.1;rw [List.length_append] at this;simp only [List.length_singleton] at this;lia),hq _ k.1 k.2⟩
  | false=>
   conv=>whnf
   have k:=cut_ok (a:=a.toNat) (b:=(a+1).toNat) h128 hx (by lia)
   have k':=cut_ok (s:=[]) (a:=a.toNat) (b:=(a+1).toNat) h128 (fun _ hy=>by cases hy) (by lia)
   cases (c % 3==1) with
   | true=>
    show (pslice l none (some a)).length+1≤line∧_
    rw [e1]
    refine ⟨le_line (by lia),?_⟩
    show (l.take a.toNat++[x]).length+(pslice l (some (a+1)) none).length≤line∧Q (.str (l.take a.toNat++[x]++pslice l (some (a+1)) none)) h
    rw [e3]
    refine ⟨le_line (by have:=k.1;rw [List.length_append] at this;simp only [List.length_singleton] at this;lia),hq _ k.1 k.2⟩
   | false=>
    show (pslice l none (some a)).length+(pslice l (some (a+1)) none).length≤line∧Q (.str (pslice l none (some a)++pslice l (some (a+1)) none)) h
    rw [e1,e3]
    rw [List.append_nil] at k'
    refine ⟨le_line (by have:=ld (a+1).toNat;lia),hq _ (Nat.le_trans k'.1 (by simp only [List.length_nil];lia)) k'.2⟩
 refine wpNth_at (pidx_nat (em0 rfl) (by show (_:Int)<96;exact em2 rfl)) (get_some (by show _<96;exact emN rfl)) ?_
 conv=>whnf
 cases (c / 7 % 3==0) with
 | true=>
  refine wpNth_at (pidx_nat (em0 rfl) (by show (_:Int)<5;exact em2 rfl)) (get_some (by show _<5;exact emN rfl)) ?_
  exact rest _ (ps_lt _ (List.getElem_mem _))
 | false=>exact rest _ (sg_lt _ (List.getElem_mem _))
omit hK in
theorem sp_end {r:Nat}{ls:List Txt}(G:List Txt→Prop) {a b:Int}{V:List (Option MV)}{lo mi hi:ME}{N:Nat}{X:XM}{hp:List MO}{P:PQ}(hr:hp[r]?=some (.list (ls.map .str))) (hG:∀mid,G mid→ls.length+mid.length≤10000) (ha:0≤a) (hab:a≤b)
  (hlo:∀{Q:PQ}{hp:List MO},Q (.int a) ⟨some (.ref r)::V,hp⟩→wpE K N lo Q X ⟨some (.ref r)::V,hp⟩)
  (hmi:∀{Q:PQ}{h1:List MO},hp<+:h1→(∀hp' i mid,h1<+:hp'→G mid→hp'[i]?=some (.list (mid.map .str))→Q (.ref i) ⟨some (.ref r)::V,hp'⟩)→wpE K N mi Q X ⟨some (.ref r)::V,h1⟩)
  (hhi:∀{Q:PQ}{hp:List MO},Q (.int b) ⟨some (.ref r)::V,hp⟩→wpE K N hi Q X ⟨some (.ref r)::V,hp⟩)
  (hq:∀hp' i mid,hp<+:hp'→G mid→hp'[i]?=some (.list ((ls.take a.toNat++mid++ls.drop b.toNat).map .str))→P (.ref i) ⟨some (.ref r)::V,hp'⟩) :
  wpE K N (.bin .add (.bin .add (.sl (.var 0) none (some lo)) mi) (.sl (.var 0) (some hi) none)) P X ⟨some (.ref r)::V,hp⟩:=by
 show wpE K N lo _ X _
 refine hlo ?_
 refine onLs_at hr ?_
 refine hmi (pre_push (pre_self _)) fun h1 i mid p1 gm e1=>?_
 have hc:=hG mid gm
 have p0:hp<+:h1:=(pre_push (pre_self _)).trans p1
 refine onLs_at (pre_at p1 (get_last _ _)) ?_
 refine onLs_at e1 ?_
 rw [pslice_to ha,←List.map_take]
 have l1:(ls.take a.toNat).length=min a.toNat ls.length:=List.length_take
 have l2:(ls.drop b.toNat).length=ls.length-b.toNat:=List.length_drop
 refine ⟨le_line (by rw [List.length_map,List.length_map];lia),?_⟩
 show wpE K N hi _ X _
 refine hhi ?_
 refine onLs_at (get_old (pre_at p0 hr)) ?_
 refine onLs_at (get_old (get_last _ _)) ?_
 refine onLs_at (get_last _ _) ?_
 rw [pslice_from (by lia),←List.map_drop]
 refine ⟨le_line (by rw [List.length_append,List.length_map,List.length_map,List.length_map];lia),?_⟩
 refine hq _ _ mid (pre_push (pre_push (pre_push p0))) gm ?_
 rw [←List.map_append,←List.map_append]
 exact get_last _ _
end Internal
end
section
namespace Internal
structure Lin (ls:List Txt):Prop where
 pl:Pl ls
 sh:∀l∈ls,l.length≤990
 le:ls.length≤9000
theorem Lin.lns {ls:List Txt}(h:Lin ls):Lns ls:=⟨h.pl,fun l hl=>Nat.le_trans (h.sh l hl) (by decide),Nat.le_trans h.le (by decide)⟩
theorem Lin.cut {ls mid:List Txt}{a b:Nat}(h:Lin ls) (hm:∀l∈mid,l.length≤1000∧∀c∈l,c<128) (hl:mid.length≤2) (hab:a≤b+1):Lns (ls.take a++mid++ls.drop b):=by
 have key:∀l∈ls.take a++mid++ls.drop b,l.length≤1000∧∀c∈l,c<128:=fun l hl=>by
  rcases List.mem_append.mp hl with hl | hl
  ·rcases List.mem_append.mp hl with hl | hl
   ·have:=List.mem_of_mem_take hl
    exact ⟨h.lns.sh l this,h.pl l this⟩
   ·exact hm l hl
  ·have:=List.mem_of_mem_drop hl
   exact ⟨h.lns.sh l this,h.pl l this⟩
 refine ⟨fun l hl=>(key l hl).2,fun l hl=>(key l hl).1,?_⟩
 have:=h.le
 simp only [List.length_append,List.length_take,List.length_drop];lia
theorem glue_set {c:Nat}:∀{ws:List Txt}{k:Nat}{w:Txt},ws[k]?=some w→∃x y,∀u,glue c (ws.set k u)=x++u++y
 | [a],0,w,e=>⟨[],[],fun u=>by rw [List.append_nil];rfl⟩
 | a::b::r,0,w,e=>⟨[],c::glue c (b::r),fun u=>rfl⟩
 | a::b::r,k+1,w,e=>by
  obtain ⟨x,y,h⟩:=glue_set (c:=c) (ws:=b::r) (k:=k) e
  refine ⟨a++c::x,y,fun u=>?_⟩
  have h:=h u
  cases q:(b::r).set k u with
  | nil=>cases k<;>cases q
  | cons b' r'=>
   rw [q] at h
   show glue c (a::(b::r).set k u)=_
   rw [q]
   show a++c::glue c (b'::r')=_
   rw [h,List.append_assoc,List.append_assoc,List.append_assoc];rfl
theorem set_same {ws:List Txt}{k:Nat}{w:Txt}(e:ws[k]?=some w):ws.set k w=ws:=by
 obtain ⟨h1,h2⟩:=List.getElem?_eq_some_iff.mp e
 rw [←h2,List.set_getElem_self]
theorem glue_nought {ws:List Txt}{k:Nat}{w:Txt}(e:ws[k]?=some w):(glue 32 (ws.set k ([48]++w))).length=(glue 32 ws).length+1∧∀c∈glue 32 (ws.set k ([48]++w)),c=48∨c∈glue 32 ws:=by
 obtain ⟨x,y,h⟩:=glue_set (c:=32) e
 have h1:=h w
 rw [set_same e] at h1
 rw [h,h1]
 refine ⟨by simp only [List.length_append,List.length_singleton];lia,fun c hc=>?_⟩
 simp only [List.mem_append,List.mem_singleton] at hc ⊢
 rcases hc with (hc | hc | hc) | hc
 ·exact .inr (.inl (.inl hc))
 ·exact .inl hc
 ·exact .inr (.inl (.inr hc))
 ·exact .inr (.inr hc)
theorem map_set (ws:List Txt) (k:Nat) (u:Txt):(ws.map MV.str).set k (.str u)=(ws.set k u).map MV.str:=List.map_set.symm
noncomputable def Gm (mid:List Txt):Prop:=mid.length≤2∧∀l∈mid,l.length≤1000∧∀c∈l,c<128
noncomputable abbrev spw:List MSt:=[.setIdx (.var 3) (.var 4) (.bin .add (.cst (.str [48])) (.idx (.var 3) (.var 4))),.ret (.bin .add (.bin .add (.sl (.var 0) none (some (.var 2))) (.list [.mth .join (.cst (.str [32])) [.var 3]])) (.sl (.var 0) (some (.bin .add (.var 2) (.cst (.int 1)))) none))]
variable {K:KT}(hK:Closed PP K)
include hK
theorem k_spoilt {r:Nat}{ls:List Txt}{c:Int}{N:Nat}{Q:MV→List MO→Prop}{X:XT}{h:List MO}(hr:h[r]?=some (.list (ls.map .str))) (hl:Lin ls) (h0:0<ls.length) (hq:∀h' i ls',h<+:h'→h'[i]?=some (.list (ls'.map .str))→Lns ls'→Q (.ref i) h'):K (N+2) 51 [.ref r,.int c] Q X h:=by
 refine hK _ _ _ _ _ _ fn_law_spoilt rfl rfl ?_
 refine onLD_list hr ?_
 have hp:(0:Int)<((ls.map MV.str).length:Nat):=by rw [List.length_map];exact cpos h0
 refine onT_at (decide_eq_true hp) ?_
 have a0:0≤c / 8 % (((ls.map MV.str).length:Nat):Int):=Int.emod_nonneg _ (Int.ne_of_gt hp)
 have a1:c / 8 % (((ls.map MV.str).length:Nat):Int)<ls.length:=by have:=Int.emod_lt_of_pos (c / 8) hp;rw [List.length_map] at this ⊢;exact this
 show wpSs K (N+1) (fn_law_spoilt.body.drop 1) (fin Q) (fun c m=>X c m.heap) ⟨[some (.ref r),some (.int c),some (.int (c / 8 % (((ls.map MV.str).length:Nat):Int))),none,none],h⟩
 generalize c / 8 % (((ls.map MV.str).length:Nat):Int)=a at a0 a1
 clear hp
 have hc:=hl.le
 have hat:∀{j:Int},0≤j→j≤a→∃l,ls[j.toNat]?=some l∧l∈ls:=fun {j} j0 j1=>⟨_,get_some (show j.toNat<ls.length by lia),List.getElem_mem _⟩
 have idx:∀{j:Int} {l:Txt} {Q:MV→Prop},0≤j→j≤a→ls[j.toNat]?=some l→Q (.str l)→wpNth (ls.map MV.str) j Q:=fun {j l Q} j0 j1 e q=>wpNth_at (pidx_nat j0 (by rw [List.length_map];lia)) (by rw [List.getElem?_map,e];rfl) q
 obtain ⟨l,el,ml⟩:=hat a0 (Int.le_refl _)
 have one:∀{t:Txt},t.length≤1000→(∀c∈t,c<128)→Gm [t]:=fun h1 h2=>⟨Nat.le_succ 1,fun l hl=>by rw [List.mem_singleton.mp hl];exact ⟨h1,h2⟩⟩
 have gm:∀mid,Gm mid→ls.length+mid.length≤10000:=fun mid g=>by have:=g.1;lia
 have okl:l.length≤1000∧∀c∈l,c<128:=⟨hl.lns.sh l ml,hl.pl l ml⟩
 conv=>whnf
 cases (c % 8==0) with
 | true=>
  refine onLs_at hr ?_
  refine onLs_at (get_old hr) ?_
  refine onLs_at (get_old (get_last _ _)) ?_
  refine onLs_at (get_last _ _) ?_
  rw [pslice_to a0,pslice_from (by lia),←List.map_take,←List.map_drop]
  have l1:(ls.take a.toNat).length=min a.toNat ls.length:=List.length_take
  have l2:(ls.drop (a+1).toNat).length=ls.length-(a+1).toNat:=List.length_drop
  refine ⟨le_line (by rw [List.length_map,List.length_map];lia),?_⟩
  have k:=hl.cut (mid:=[]) (a:=a.toNat) (b:=(a+1).toNat) (fun _ q=>nomem q) (by decide) (by lia)
  rw [List.append_nil] at k
  refine hq _ _ _ (pre_push (pre_push (pre_push (pre_self _)))) ?_ k
  rw [List.map_append]
  exact get_last _ _
 | false=>
 conv=>whnf
 cases (c % 8==1) with
 | true=>
  show wpE K (N+1) _ _ _ _
  refine sp_end Gm (a:=a) (b:=a) hr gm a0 (Int.le_refl _) (fun q=>q) (fun {Q hp} e q=>?_) (fun q=>q) fun hp' i mid p g e=>?_
  ·refine onLs_at (pre_at e hr) ?_
   exact idx a0 (Int.le_refl _) el (q _ _ [l] (pre_push (pre_self _)) (one okl.1 okl.2) (get_last _ _))
  ·exact hq _ _ _ p e (hl.cut g.2 g.1 (by lia))
 | false=>
 have tail:wpSs K (N+1) (fn_law_spoilt.body.drop 4) (fin Q) (fun c m=>X c m.heap) ⟨[some (.ref r),some (.int c),some (.int a),none,none],h⟩:=by
  conv=>whnf
  cases (c % 8==3) with
  | true=>
   refine onLs_at hr ?_
   refine idx a0 (Int.le_refl _) el ?_
   refine ⟨rfl,32,rfl,Nat.lt_of_le_of_lt okl.1 (by decide),fun ws w1 w2 w3=>?_⟩
   have p1:h<+:h++[MO.list (ws.map .str)]:=pre_push (pre_self _)
   have e1:(h++[MO.list (ws.map .str)])[h.length]?=some (.list (ws.map .str)):=get_last _ _
   refine onLD_list e1 ?_
   have hp:(0:Int)<((ws.map MV.str).length:Nat):=by rw [List.length_map];exact cpos (List.length_pos_iff.mpr w1)
   refine onT_at (decide_eq_true hp) ?_
   have k0:0≤c / 64 % (((ws.map MV.str).length:Nat):Int):=Int.emod_nonneg _ (Int.ne_of_gt hp)
   have k1:=Int.emod_lt_of_pos (c / 64) hp
   show wpSs K (N+1) spw (fin Q) (fun c m=>X c m.heap) ⟨[some (.ref r),some (.int c),some (.int a),some (.ref h.length),some (.int (c / 64 % (((ws.map MV.str).length:Nat):Int)))],h++[MO.list (ws.map .str)]⟩
   generalize c / 64 % (((ws.map MV.str).length:Nat):Int)=k at k0 k1
   have k2:k.toNat<ws.length:=by rw [List.length_map] at k1;lia
   have ek:=get_some k2
   generalize ws[k.toNat]=w at ek
   have hw:w.length≤1000:=by
    obtain ⟨x,y,hxy⟩:=glue_set (c:=32) ek
    have:=congrArg List.length (hxy w)
    rw [set_same ek,w3,List.length_append,List.length_append] at this
    have:=okl.1;lia
   refine onLs_at e1 ?_
   refine wpNth_at (pidx_nat k0 k1) (by rw [List.getElem?_map,ek];rfl) ?_
   refine ⟨le_line (by simp only [List.length_singleton];lia),?_⟩
   refine onLs_at e1 ?_
   refine onO_at (pidx_nat k0 k1) ?_
   refine ⟨⟨rfl,k0⟩,?_⟩
   have p2:h<+:(h++[MO.list (ws.map .str)]).set h.length (.list ((ws.map MV.str).set k.toNat (.str ([48]++w)))):=pre_set p1 (Nat.le_refl _)
   have e2:((h++[MO.list (ws.map .str)]).set h.length (.list ((ws.map MV.str).set k.toNat (.str ([48]++w)))))[h.length]?=some (.list ((ws.set k.toNat ([48]++w)).map .str)):=by rw [map_set];exact get_set e1
   obtain ⟨g1,g2⟩:=glue_nought ek
   rw [w3] at g1 g2
   have okg:(glue 32 (ws.set k.toNat ([48]++w))).length≤1000:=by rw [g1];have:=hl.sh l ml;lia
   show wpE K (N+1) _ _ _ ⟨_,(h++[MO.list (ws.map .str)]).set h.length (.list ((ws.map MV.str).set k.toNat (.str ([48]++w))))⟩
   generalize (h++[MO.list (ws.map .str)]).set h.length (.list ((ws.map MV.str).set k.toNat (.str ([48]++w))))=h2 at p2 e2
   refine sp_end Gm (a:=a) (b:=a+1) (pre_at p2 hr) gm a0 (by lia) (fun q=>q) (fun {Q hp} e q=>?_) (fun q=>q) fun hp' i mid p g e=>?_
   ·refine ⟨rfl,?_⟩
    refine onL_at (lst_at (pre_at e e2)) ?_
    refine ⟨32,_,⟨rfl,rfl⟩,Nat.le_trans okg (by decide),?_⟩
    exact q _ _ [_] (pre_push (pre_self _)) (one okg fun c hc=>(g2 c hc).elim (fun q=>by rw [q];decide) fun q=>okl.2 c q) (get_last _ _)
   ·exact hq _ _ _ (p2.trans p) e (hl.cut g.2 g.1 (by lia))
  | false=>
   show wpE K (N+1) _ _ (fun c m=>X c m.heap) _
   refine sp_end Gm (a:=a) (b:=a+1) hr gm a0 (by lia) (fun q=>q) (fun {Q hp} e q=>?_) (fun q=>q) fun hp' i mid p g e=>?_
   ·refine onLs_at (pre_at e hr) ?_
    refine idx a0 (Int.le_refl _) el ?_
    refine k_mixed hK ?_
    refine k_changed hK (Nat.le_trans (hl.sh l ml) (by decide)) okl.2 fun t t1 t2=>?_
    exact q _ _ [t] (pre_push (pre_self _)) (one (Nat.le_trans t1 (Nat.le_trans (Nat.succ_le_succ (hl.sh l ml)) (by decide))) t2) (get_last _ _)
   ·exact hq _ _ _ p e (hl.cut g.2 g.1 (by lia))
 conv=>whnf
 cases (c % 8==2) with
 | false=>exact tail
 | true=>
  conv=>whnf
  cases q:decide (0<a) with
  | false=>exact tail
  | true=>
   have q:=of_decide_eq_true q
   obtain ⟨l',el',ml'⟩:=hat (j:=a-1) (by lia) (by lia)
   show wpE K (N+1) _ _ (fun c m=>X c m.heap) _
   refine sp_end Gm (a:=a-1) (b:=a+1) hr gm (by lia) (by lia) (fun q=>q) (fun {Q hp} e q=>?_) (fun q=>q) fun hp' i mid p g e=>?_
   ·refine onLs_at (pre_at e hr) ?_
    refine idx a0 (Int.le_refl _) el ?_
    refine onLs_at (pre_at e hr) ?_
    refine idx (by lia) (by lia) el' ?_
    refine q _ _ [l,l'] (pre_push (pre_self _)) ⟨Nat.le_refl _,fun x hx=>?_⟩ (get_last _ _)
    rcases List.mem_cons.mp hx with rfl | hx
    ·exact okl
    ·rw [List.mem_singleton.mp hx];exact ⟨hl.lns.sh l' ml',hl.pl l' ml'⟩
   ·exact hq _ _ _ p e (hl.cut g.2 g.1 (by lia))
end Internal
end
section
namespace Internal
noncomputable def Tx (n:Nat) (l:Txt):Prop:=l.length≤n∧∀c∈l,c<128
theorem Tx.app {n m k:Nat}{a b:Txt}(ha:Tx n a) (hb:Tx m b) (hk:n+m≤k):Tx k (a++b):=⟨by rw [List.length_append];have:=ha.1;have:=hb.1;lia,fun c hc=>(List.mem_append.mp hc).elim (ha.2 c) (hb.2 c)⟩
theorem Tx.sp:Tx 1 [32]:=⟨Nat.le_refl _,fun c hc=>by rw [List.mem_singleton.mp hc];decide⟩
theorem kws_tx:∀w∈kws,Tx 5 w:=by unfold Tx kws;decide
theorem Gn.tx {s:Txt}(h:Gn s):Tx 8 s:=⟨h.1.2.1,fun c hc=>abc36_lt c (h.1.2.2.1 c hc)⟩
theorem Tm.tx:∀{t:Tm},t.ok Gn→∀c∈t.txt,c<128
 | .num k,h,c,hc=>by
  obtain ⟨n,rfl⟩:=Int.eq_ofNat_of_zero_le h.1
  have:=(dec_digits n c hc).2;lia
 | .nm s,h,c,hc=>h.tx.2 c hc
 | .op d a b,h,c,hc=>by
  have hc:c∈[d]++[32]++a.txt++[32]++b.txt:=hc
  simp only [List.mem_append,List.mem_singleton] at hc
  rcases hc with (((rfl | rfl) | hc) | rfl) | hc
  ·have:=h.1;unfold isSign at this;lia
  ·decide
  ·exact Tm.tx h.2.1 c hc
  ·decide
  ·exact Tm.tx h.2.2 c hc
theorem Tm.good.tx {t:Tm}(h:t.good):Tx 92 t.txt:=⟨h.len,Tm.tx h.1⟩
theorem line_tx {wd:Txt}{t:Tm}(h:wd∈kws) (ht:t.good):Tx 120 (wd++[32]++t.txt):=((kws_tx wd h).app .sp (Nat.le_refl _)).app ht.tx (by decide)
theorem kw_tx {wd:Txt}(h:wd∈kws):Tx 120 wd:=⟨Nat.le_trans (kws_tx wd h).1 (by decide),(kws_tx wd h).2⟩
mutual
theorem Rw.good_tx:∀{r:Rw},r.good→∀l∈r.lines,Tx 120 l
 | .set s t,h,l,hl=>by
  rw [List.mem_singleton.mp hl]
  exact ((((kws_tx wSet (by decide)).app .sp (Nat.le_refl _)).app h.1.tx (Nat.le_refl _)).app .sp (Nat.le_refl _)).app h.2.tx (by decide)
 | .tell t,h,l,hl=>by rw [List.mem_singleton.mp hl];exact line_tx (by decide) h
 | .skip,h,l,hl=>by rw [List.mem_singleton.mp hl];exact kw_tx (by decide)
 | .ite t a b,h,l,hl=>by
  rcases List.mem_cons.mp hl with rfl | hl
  ·exact line_tx (by decide) h.1
  rcases List.mem_append.mp hl with hl | hl
  ·exact goods_tx h.2.1 l hl
  rcases List.mem_cons.mp hl with rfl | hl
  ·exact kw_tx (by decide)
  rcases List.mem_append.mp hl with hl | hl
  ·exact goods_tx h.2.2 l hl
  ·rw [List.mem_singleton.mp hl];exact kw_tx (by decide)
 | .wh t a,h,l,hl=>by
  rcases List.mem_cons.mp hl with rfl | hl
  ·exact line_tx (by decide) h.1
  rcases List.mem_append.mp hl with hl | hl
  ·exact goods_tx h.2 l hl
  ·rw [List.mem_singleton.mp hl];exact kw_tx (by decide)
theorem goods_tx:∀{rs:List Rw},goods rs→∀l∈lns rs,Tx 120 l
 | [],_,l,hl=>nomem hl
 | r::rs,h,l,hl=>by
  rcases List.mem_append.mp hl with hl | hl
  ·exact Rw.good_tx h.1 l hl
  ·exact goods_tx h.2 l hl
end
theorem goods_lin {rs:List Rw}(h:goods rs) (hl:(lns rs).length≤9000):Lin (lns rs):=⟨fun l q=>(goods_tx h l q).2,fun l q=>Nat.le_trans (goods_tx h l q).1 (by decide),hl⟩
variable {K:KT}(hK:Closed PP K)
include hK
omit hK in
theorem e_bin {n:Nat}{op:Op}{a b:ME}{Q:PQ}{X:XM}{m:MS}(h:wpE K n a (fun x m=>wpE K n b (fun y m=>wpBin op x y Q m) X m) X m):wpE K n (.bin op a b) Q X m:=h
omit hK in
theorem add3 {i:Nat}(pre:List Txt) {L:List Txt}(post:List Txt) {As Bs:List ME}{N:Nat}{X:XM}{V:List (Option MV)}{hp:List MO}{P:PQ}(hi:hp[i]?=some (.list (L.map .str))) (hv:∀hp,(⟨V,hp⟩:MS).get 3=some (.ref i))
  (ha:∀{Q:PQ}{hp:List MO},Q (.ref hp.length) ⟨V,hp++[.list (pre.map .str)]⟩→wpE K N (.list As) Q X ⟨V,hp⟩)
  (hb:∀{Q:PQ}{hp:List MO},Q (.ref hp.length) ⟨V,hp++[.list (post.map .str)]⟩→wpE K N (.list Bs) Q X ⟨V,hp⟩) (hl:pre.length+L.length+post.length≤10000)
  (hq:∀hp' j,hp<+:hp'→hp'[j]?=some (.list ((pre++L++post).map .str))→P (.ref j) ⟨V,hp'⟩) :
  wpE K N (.bin .add (.bin .add (.list As) (.var 3)) (.list Bs)) P X ⟨V,hp⟩:=by
 refine e_bin (e_bin (ha ?_))
 refine e_var (hv _) ?_
 refine onLs_at (get_last _ _) ?_
 refine onLs_at (get_old hi) ?_
 refine ⟨le_line (by rw [List.length_map,List.length_map];lia),?_⟩
 refine hb ?_
 refine onLs_at (get_old (get_last _ _)) ?_
 refine onLs_at (get_last _ _) ?_
 refine ⟨le_line (by rw [List.length_append,List.length_map,List.length_map,List.length_map];lia),?_⟩
 refine hq _ _ (pre_push (pre_push (pre_push (pre_push (pre_self _))))) ?_
 rw [←List.map_append,←List.map_append]
 exact get_last _ _
theorem k_rows_deep {s:Txt}{many:Nat}{c:Int}{N:Nat}{Q:MV→List MO→Prop}{X:XT}{h:List MO}(hs:Gn s) (hm:many≤8)
  (hq:∀h' i r,h<+:h'→h'[i]?=some (.list ((lns [r]).map .str))→goods [r]→dps [r]=many+1→(lns [r]).length≤9000→Q (.ref i) h'):K (N+1) 53 [.str s,.int ((many:Int)+1),.int c] Q X h:=by
 have h8:=hs.1.2.1
 have gt:(Tm.nm s).good:=⟨hs,Nat.zero_le _⟩
 refine hK _ _ _ _ _ _ fn_law_deep_rows rfl rfl ?_
 refine onIt_at (iter_range1 (by lia) (by lia)) ?_
 refine forL_w6 (fun j w4 w5 (c:Int) i hp (r:Rw)=>⟨[some (.str s),some (.int ((many:Int)+1)),some (.int c),some (.ref i),w4,w5],hp⟩) (fun j w4 w5 c i hp r=>A5 (h<+:hp) (hp[i]?=some (.list (r.lines.map .str))) (r.good) (r.dp=j+1) (r.lines.length≤1+4 * j))
  _ _ _ _ _ .skip rfl ⟨pre_push (pre_self _),get_last _ _,trivial,rfl,Nat.le_refl _⟩ (fun _ _ _ _ _ _ _ _=>trivial) (fun j x w4 w5 c i hp r P hx hI hn _=>?_) (fun w4 w5 c i hp r hI=>?_)
 ·obtain ⟨hj,rfl⟩:=range_at hx
  obtain ⟨p1,e1,g1,d1,l1⟩:=hI
  have hj:j<8:=by lia
  have e2:lns [r]=r.lines:=lns_one r
  have up:∀(q:Rw) {hp':List MO} {i':Nat} {pre post:List Txt} {w5:Option MV} {c:Int},q.good→q.dp=j+2→q.lines=pre++r.lines++post→pre.length+post.length≤4→hp<+:hp'→hp'[i']?=some (.list ((pre++r.lines++post).map .str))→P .next ⟨[some (.str s),some (.int ((many:Int)+1)),some (.int c),some (.ref i'),some (.int j),w5],hp'⟩:=fun q {hp' i' pre post w5 c} hg hd he hl hp hat=>by
   refine hn _ _ c i' hp' q ⟨p1.trans hp,he▸hat,hg,hd,?_⟩
   rw [he,List.length_append,List.length_append];lia
  conv=>whnf
  cases (c % 3==0) with
  | true=>
   show wpE K N _ _ (fun c m=>X c m.heap) _
   refine add3 [[119,104,105,108,101,32]++s] [wEnd] e1 (fun _=>rfl) (fun q=>⟨le_line (by simp only [List.length_cons,List.length_nil];lia),q⟩) (fun q=>q) (by simp only [List.length_singleton];lia) fun hp' i' p e=>?_
   refine up (.wh (.nm s) [r]) ⟨gt,g1,trivial⟩ ?_ ?_ (Nat.le_of_ble_eq_true rfl) p e
   ·show max r.dp 0+1=_;lia
   ·show _::(lns [r]++[wEnd])=_;rw [e2];rfl
  | false=>
   conv=>whnf
   cases (c % 3==1) with
   | true=>
    show wpE K N _ _ (fun c m=>X c m.heap) _
    refine add3 [[105,102,32]++s] [wElse,wSkip,wEnd] e1 (fun _=>rfl) (fun q=>⟨le_line (by simp only [List.length_cons,List.length_nil];lia),q⟩) (fun q=>q) (by simp only [List.length_singleton,List.length_cons,List.length_nil];lia) fun hp' i' p e=>?_
    refine up (.ite (.nm s) [r] [.skip]) ⟨gt,⟨g1,trivial⟩,trivial,trivial⟩ ?_ ?_ (Nat.le_of_ble_eq_true rfl) p e
    ·show max (max r.dp 0) 1+1=_;lia
    ·show _::(lns [r]++_)=_;rw [e2];rfl
   | false=>
    show wpE K N _ _ (fun c m=>X c m.heap) _
    refine add3 [[105,102,32]++s,wSkip,wElse] [wEnd] e1 (fun _=>rfl) (fun q=>⟨le_line (by simp only [List.length_cons,List.length_nil];lia),q⟩) (fun q=>q) (by simp only [List.length_singleton,List.length_cons,List.length_nil];lia) fun hp' i' p e=>?_
    refine up (.ite (.nm s) [.skip] [r]) ⟨gt,⟨trivial,trivial⟩,g1,trivial⟩ ?_ ?_ (Nat.le_of_ble_eq_true rfl) p e
    ·show max 1 (max r.dp 0)+1=_;lia
    ·show _::(wSkip::wElse::(lns [r]++[wEnd]))=_;rw [e2];rfl
 ·obtain ⟨p1,e1,g1,d1,l1⟩:=hI
  rw [range_len] at d1 l1
  have e2:lns [r]=r.lines:=lns_one r
  refine hq hp i r p1 (e2▸e1) ⟨g1,trivial⟩ ?_ (by rw [e2];lia)
  show max r.dp 0=_;lia
end Internal
end
section
namespace Internal
theorem sign3_at (j:Nat) (h:j<3):∃t,[MV.str [43,32],MV.str [47,32],MV.str [61,32]][j]?=some t∧∃c,isSign c∧t=.str [c,32]:=
 AllAt.get (P:=fun _ (t:MV)=>∃c,isSign c∧t=.str [c,32]) (n:=0) (.cons ⟨43,by unfold isSign;decide,rfl⟩ (.cons ⟨47,by unfold isSign;decide,rfl⟩ (.cons ⟨61,by unfold isSign;decide,rfl⟩ .nil))) j h
section
variable {c:Nat}{s:Txt}
theorem lft_lv:∀k,(lft c s k).lv=k+1
 | 0=>rfl
 | k+1=>by show (lft c s k).lv+1=_;rw [lft_lv k]
theorem rgt_lv {u:Tm}:∀k,(rgt c s u k).lv=k+u.lv
 | 0=>(Nat.zero_add _).symm
 | k+1=>by show 1+(rgt c s u k).lv=_;rw [rgt_lv k];lia
end
variable {K:KT}(hK:Closed PP K)
include hK
theorem deep_turn {c:Nat}{s:Txt}{low many:Nat}{cc:Int}{i N:Nat}{found:List MV}{w5 w6 w7:Option MV}{P:Fl→MS→Prop}{X:XT}{h hp:List MO}(hc:isSign c) (hs:Gn s) (hl:low<12) (hm:many=13∨many=12) (hN:51≤N) (hp1:h<+:hp) (hi:h.length≤i) (he:hp[i]?=some (.list found)) (hf:found.length<2)
  (hq:∀hp' w6 w7,h<+:hp'→(∀j o,j≠i→hp[j]?=some o→hp'[j]?=some o)→hp'[i]?=some (.list (found++[.bool (many==13)]))→P .next ⟨[some (.str s),some (.int cc),some (.str [c,32]),some (.int low),some (.ref i),some (.int many),w6,w7],hp'⟩) :
  asg [5] false (.int many) (fun m=>wpSs K N [.asg [6] false (.bin .mul (.bin .add (.bin .add (.var 2) (.var 0)) (.cst (.str [32]))) (.var 3)),.asg [7] false (.bin .add (.bin .mul (.var 2) (.bin .sub (.bin .sub (.var 5) (.cst (.int 1))) (.var 3))) (.mth .join (.cst (.str [32])) [.bin .mul (.list [.var 0]) (.bin .sub (.var 5) (.var 3))])),.expr (.mth .append (.var 4) [.call 48 [.list [.bin .add (.bin .add (.cst (.str [116,101,108,108,32])) (.var 6)) (.var 7)]]])] P (fun c m=>X c m.heap) m) ⟨[some (.str s),some (.int cc),some (.str [c,32]),some (.int low),some (.ref i),w5,w6,w7],hp⟩:=by
 have h8:=hs.1.2.1
 obtain ⟨k,hk⟩:∃k,many=low+k+1:=⟨many-low-1,by lia⟩
 have tok:(rgt c s (lft c s k) low).ok Gn:=rgt_ok hc hs (lft_ok hc hs k) low
 have tdp:(rgt c s (lft c s k) low).deep=low+k:=by rw [rgt_deep,lft_deep]
 have tx:(rgt c s (lft c s k) low).txt=(List.replicate low ([c,32]++s++[32])).flatten++((List.replicate k [c,32]).flatten++glue 32 (List.replicate (k+1) s)):=by rw [rgt_txt,lft_txt]
 have tln:(rgt c s (lft c s k) low).txt.length≤160:=by
  have:=Tm.txt_len tok
  rw [rgt_lv,lft_lv] at this;lia
 have tl2:=tln
 rw [tx,List.length_append,List.length_append] at tl2
 refine ⟨le_line (by simp only [List.length_cons,List.length_nil];lia),?_⟩
 refine ⟨le_line (by simp only [List.length_append,List.length_cons,List.length_nil];lia),?_⟩
 refine ⟨rfl,⟨⟨by lia,by lia⟩,by simp only [List.length_append,List.length_cons,List.length_nil];lia⟩,?_⟩
 refine ⟨rfl,⟨⟨by lia,by lia⟩,Nat.le_of_ble_eq_true rfl⟩,?_⟩
 refine onLs_at (get_last _ _) ?_
 refine ⟨rfl,⟨by lia,by lia⟩,?_⟩
 refine ⟨rfl,?_⟩
 refine onL_at (lst_at (get_last _ _)) ?_
 have e1:((many:Int)-low).toNat=k+1:=by lia
 have e2:((many:Int)-1-low).toNat=k:=by lia
 have e3:(low:Int).toNat=low:=rfl
 rw [e1,e2,e3]
 refine ⟨32,List.replicate (k+1) s,⟨rfl,by rw [List.map_replicate]⟩,by lia,?_⟩
 refine ⟨le_line (by lia),?_⟩
 have mid:∀hp':List MO,hp<+:hp'→wpSs K N [.expr (.mth .append (.var 4) [.call 48 [.list [.bin .add (.bin .add (.cst (.str [116,101,108,108,32])) (.var 6)) (.var 7)]]])] P (fun c m=>X c m.heap) ⟨[some (.str s),some (.int cc),some (.str [c,32]),some (.int low),some (.ref i),some (.int many),some (.str (List.replicate low ([c,32]++s++[32])).flatten),some (.str ((List.replicate k [c,32]).flatten++glue 32 (List.replicate (k+1) s)))],hp'⟩:=by
  generalize (List.replicate low ([c,32]++s++[32])).flatten=R at *
  generalize (List.replicate k [c,32]).flatten++glue 32 (List.replicate (k+1) s)=L at *
  intro hp2 p2
  have e2:=pre_at p2 he
  have el:[116,101,108,108,32]++R++L=wTell++[32]++(rgt c s (lft c s k) low).txt:=by rw [tx,List.append_assoc];rfl
  have ll:([116,101,108,108,32]++R++L).length≤1000:=by rw [el];simp only [List.length_append,List.length_cons,List.length_nil];lia
  have lns:Lns [[116,101,108,108,32]++R++L]:=by
   refine ⟨fun l hl c hc=>?_,fun l hl=>by rw [List.mem_singleton.mp hl];exact ll,Nat.le_of_ble_eq_true rfl⟩
   rw [List.mem_singleton.mp hl,el] at hc
   rcases List.mem_append.mp hc with hc | hc
   ·exact ((kws_tx wTell (by decide)).app .sp (Nat.le_refl _)).2 c hc
   ·exact Tm.tx tok c hc
  have fin:∀b:Bool,b=(many==13)→∀h',hp2++[MO.list ([[116,101,108,108,32]++R++L].map .str)]<+:h'→onL (lst (.ref i) h') fun r xs=>on1 [.bool b] fun v=>xs.length<line∧P .next ⟨[some (.str s),some (.int cc),some (.str [c,32]),some (.int low),some (.ref i),some (.int many),some (.str R),some (.str L)],h'.set r (.list (xs++[v]))⟩:=fun b hb h' p=>by
   have p3:hp2<+:h':=(pre_push (pre_self _)).trans p
   have e3:=pre_at p3 e2
   refine onL_at (lst_at e3) ⟨Nat.lt_of_lt_of_le hf (le_line (by decide)),?_⟩
   refine hq _ _ _ (pre_set ((hp1.trans p2).trans p3) hi) (fun j o hj ho=>set_other (Ne.symm hj) (pre_at p3 (pre_at p2 ho))) ?_
   rw [hb];exact get_set e3
  rw [List.length_append,List.length_append] at ll
  refine onT_at (ok_append e2) ?_
  refine ⟨le_line (by simp only [List.length_cons,List.length_nil] at ll ⊢;lia),?_⟩
  refine ⟨le_line (by rw [List.length_append];exact Nat.le_trans ll (by decide)),?_⟩
  refine k_refused hK (ls:=[[116,101,108,108,32]++R++L]) (get_last _ _) lns (by lia) (Qf:=fun _=>many=12) (Nf:=many=13) ?_ (fun rs h' p q=>fin false (by rw [q];rfl) h' p) fun h' p q=>fin true (by rw [q];rfl) h' p
  rw [el]
  rcases hm with hm | hm
  ·exact tell_deep tok (by lia) hm
  ·exact read_of (rs:=[.tell (rgt c s (lft c s k) low)]) ⟨⟨tok,by lia⟩,trivial⟩ (show max 1 0≤8 by decide) hm
 exact mid _ (pre_push (pre_push (pre_self _)))
theorem k_deep {s:Txt}{cc:Int}{N:Nat}{Q:MV→List MO→Prop}{X:XT}{h:List MO}(hs:Gn s) (hN:52≤N) (hq:∀h',h<+:h'→Q (.bool true) h'):K N 52 [.str s,.int cc] Q X h:=by
 obtain ⟨M,rfl,hM⟩:=room (k:=51) hN
 refine hK _ _ _ _ _ _ fn_law_deep rfl rfl ?_
 refine onLs_at (get_last _ _) ?_
 obtain ⟨t,e,c,hc,rfl⟩:=sign3_at (cc % 3).toNat (emN rfl)
 refine wpNth_at (pidx_nat (em0 rfl) (by show (_:Int)<3;exact em2 rfl)) e ?_
 refine forL_w6 (fun j w3 w4 w5 w6 w7 hp=>⟨[some (.str s),some (.int cc),some (.str [c,32]),w3,w4,w5,w6,w7],hp⟩) (fun j w3 w4 w5 w6 w7 hp=>h<+:hp) _ _ _ _ _ _ rfl (pre_push (pre_self _)) (fun _ _ _ _ _ _ _ _=>trivial) (fun j x w3 w4 w5 w6 w7 hp P hx hI hn _=>?_) (fun w3 w4 w5 w6 w7 hp hI=>hq _ hI)
 obtain ⟨hj,rfl⟩:=range_at hx
 have hj:j<12:=hj
 have p1:h<+:hp++[MO.list []]++[MO.list [.int 13,.int 12]]:=pre_push (pre_push hI)
 have e1:(hp++[MO.list []]++[MO.list [.int 13,.int 12]])[hp.length]?=some (.list []):=get_old (get_last _ _)
 have e2:(hp++[MO.list []]++[MO.list [.int 13,.int 12]])[(hp++[MO.list []]).length]?=some (.list [.int 13,.int 12]):=get_last _ _
 have ne:(hp++[MO.list []]).length≠hp.length:=by rw [List.length_append];exact Nat.succ_ne_self _
 have hle:=hI.length_le
 refine onIt_at (iter_list e2) ?_
 rw [forL_cons]
 refine ⟨e2,?_⟩
 refine deep_turn hK (many:=13) hc hs hj (.inl rfl) hM p1 hle e1 (by decide) fun hp3 w6 w7 p3 k3 e3=>?_
 rw [forL_cons]
 have g3:=k3 _ _ ne e2
 refine ⟨g3,?_⟩
 refine deep_turn hK (many:=12) hc hs hj (.inr rfl) hM p3 hle e3 (by decide) fun hp4 w6 w7 p4 k4 e4=>?_
 rw [forL_nil]
 refine ⟨k4 _ _ ne g3,?_⟩
 refine .mk (.list [.bool true,.bool false]) (.list [.bool true,.bool false]) (.list (get_old e4) (.cons (.bool _) (.cons (.bool _) .nil))) (.list (get_last _ _) (.cons (.bool _) (.cons (.bool _) .nil))) (by decide) rfl rfl ?_
 exact hn _ _ _ _ _ _ (pre_push p4)
end Internal
end
section
namespace Internal
theorem ints_sl (is:List Int):pslice (is.map MV.int) (some 10) (some 40)=(pslice is (some 10) (some 40)).map MV.int∧(pslice is (some 10) (some 40)).length≤30:=by
 unfold pslice
 simp only [List.length_map]
 rw [←List.map_take,←List.map_drop]
 refine ⟨rfl,?_⟩
 rw [List.length_drop,List.length_take,pend_nat (by decide),pend_nat (by decide)]
 have:(40:Int).toNat=40:=rfl
 have:(10:Int).toNat=10:=rfl
 lia
theorem strs_at {ls:List Txt}{i:Nat}{x:MV}(e:(ls.map MV.str)[i]?=some x):∃l,l∈ls∧x=.str l:=by
 obtain ⟨l,h1,h2⟩:=List.getElem?_map ..▸e |> Option.map_eq_some_iff.mp
 exact ⟨l,List.mem_of_getElem? h1,h2.symm⟩
theorem ten_tx:∀l∈ten,Tx 120 l:=by unfold Tx;decide
variable {K:KT}(hK:Closed PP K)
include hK
theorem k_reads {N r:Nat}{rs:List Rw}{h:List MO}(hr:h[r]?=some (.list ((lns rs).map .str))) (hl:Lns (lns rs)) (hN:50≤N) (hf:fits rs) (hd:dps rs≤8) {Q:MV→List MO→Prop}{X:XT}(hq:∀h',h<+:h'→Q (.bool false) h'):K N 48 [.ref r] Q X h:=
 k_refused hK hr hl hN (Qf:=fun _=>True) (Nf:=False) (read_of hf hd trivial) (fun _ h' p _=>hq h' p) fun _ _ q=>q.elim
theorem law_ten {rows:List Rw}{is:List Int}{s0:Txt}{ss:List Txt}{r il:Nat}{hp:List MO}{v3 v4:Option MV}(hg:goods rows) (hd:nests rows≤7) (hz:(lns rows).length≤2000) (hr:hp[r]?=some (.list (ss.map .str))) (hs:ss[0]?=some s0) (gs:Gn s0) (hl:hp[il]?=some (.list ((lns rows).map .str))) :
  wpSs K 600 (fn_law_4.body.drop 6) (fin fun v _=>v=.bool true) (fun _ _=>False) ⟨[some (.scr is),some (.ref r),some (.ref il),v3,v4,none,none],hp⟩:=by
 have hf:=goods_fits hg
 have hd8:dps rows≤8:=Nat.le_trans (dps_nest rows) (Nat.succ_le_succ hd)
 have lin:=goods_lin hg (Nat.le_trans hz (by decide))
 refine onLD_list hl ?_
 have e1:(hp++[MO.list ((lns rows).map .str)]++[MO.list (ten.map .str)])[hp.length]?=some (.list ((lns rows).map .str)):=get_old (get_last _ _)
 have e2:(hp++[MO.list ((lns rows).map .str)]++[MO.list (ten.map .str)])[(hp++[MO.list ((lns rows).map .str)]).length]?=some (.list (ten.map .str)):=get_last _ _
 have ne:hp.length≠(hp++[MO.list ((lns rows).map .str)]).length:=by rw [List.length_append];exact Nat.ne_of_lt (Nat.lt_succ_self _)
 refine onIt_at (iter_list e2) ?_
 refine forL_w2 (fun j w h'=>⟨[some (.scr is),some (.ref r),some (.ref il),v3,v4,some (.ref hp.length),w],h'⟩) (fun j w h'=>A3 (hp<+:h') (h'[hp.length]?=some (.list ((lns rows).map .str))) (h'[(hp++[MO.list ((lns rows).map .str)]).length]?=some (.list (ten.map .str)))) none _ rfl ⟨pre_push (pre_push (pre_self _)),e1,e2⟩ (fun _ _ _ hI=>hI.h3) (fun j x w h1 P hx hI hn _=>?_) (fun w h1 hI=>?_)
 ·obtain ⟨p1,f1,f2⟩:=hI
  obtain ⟨l,ml,rfl⟩:=strs_at (ls:=ten) hx
  refine onT_at (ok_append f1) ?_
  refine onL_at (lst_at f1) ?_
  refine ⟨Nat.lt_of_lt_of_le (show _<2001 by rw [List.length_map];lia) (le_line (by decide)),?_⟩
  have p2:hp<+:h1.set hp.length (.list ((lns rows).map MV.str++[.str l])):=pre_set p1 (Nat.le_refl _)
  have g1:(h1.set hp.length (.list ((lns rows).map MV.str++[.str l])))[hp.length]?=some (.list ((lns rows++[l]).map .str)):=by rw [List.map_append];exact get_set f1
  have g2:=set_other (o':=.list ((lns rows).map MV.str++[.str l])) ne f2
  have ll:Lns (lns rows++[l]):=by
   have key:∀x∈lns rows++[l],Tx 120 x:=fun x hx=>(List.mem_append.mp hx).elim (goods_tx hg x) fun q=>by rw [List.mem_singleton.mp q];exact ten_tx l ml
   exact ⟨fun x hx=>(key x hx).2,fun x hx=>Nat.le_trans (key x hx).1 (by decide),by rw [List.length_append,List.length_singleton];lia⟩
  refine k_refused hK g1 ll (by decide) (Qf:=fun _=>False) (Nf:=True) (ten_bad l ml hf hd8 trivial) (fun _ _ _ q=>q.elim) fun h2 q2 _=>?_
  have i1:=pre_at q2 g1
  have i2:=pre_at q2 g2
  refine onT_at (ok_pop i1) ?_
  refine ⟨rfl,?_⟩
  refine onL_at (lst_at i1) ?_
  refine ⟨rfl,?_⟩
  rw [List.map_append] at i1 ⊢
  refine onO_at (a:=.str l) (by rw [List.length_append];exact get_last _ _) ?_
  show wpSs K 600 _ _ _ ⟨_,h2.set hp.length (.list ((lns rows).map MV.str++[MV.str l]).dropLast)⟩
  rw [List.dropLast_concat]
  have p3:hp<+:h2.set hp.length (.list ((lns rows).map MV.str)):=pre_set (p2.trans q2) (Nat.le_refl _)
  have j1:(h2.set hp.length (.list ((lns rows).map MV.str)))[hp.length]?=some (.list ((lns rows).map .str)):=get_set i1
  have j2:=set_other (o':=.list ((lns rows).map MV.str)) ne i2
  generalize h2.set hp.length (.list ((lns rows).map MV.str))=h3 at p3 j1 j2
  refine k_reads hK j1 lin.lns (by decide) hf hd8 fun h4 q4=>?_
  refine k_own hK (pre_at q4 j1) lin.lns (by decide) fun h5 q5=>?_
  have q5:=List.IsPrefix.trans q4 q5
  exact hn _ _ ⟨p3.trans q5,pre_at q5 j1,pre_at q5 j2⟩
 ·obtain ⟨p1,f1,f2⟩:=hI
  refine onLs_at (pre_at p1 hr) ?_
  refine wpNth_at (pidx_at (i:=0) hs) (get_map hs) ?_
  refine k_cell hK (by decide) ?_
  exact k_deep hK gs (by decide) fun _ _=>rfl
theorem law_mid {rows:List Rw}{is:List Int}{s0:Txt}{ss:List Txt}{r il:Nat}{hp:List MO}(hg:goods rows) (hd:nests rows≤7) (hz:(lns rows).length≤2000) (h0:0<(lns rows).length) (hr:hp[r]?=some (.list (ss.map .str))) (hs:ss[0]?=some s0) (gs:Gn s0) (hl:hp[il]?=some (.list ((lns rows).map .str))) :
  wpSs K 600 (fn_law_4.body.drop 2) (fin fun v _=>v=.bool true) (fun _ _=>False) ⟨[some (.scr is),some (.ref r),some (.ref il),none,none,none,none],hp⟩:=by
 have hf:=goods_fits hg
 have hd8:dps rows≤8:=Nat.le_trans (dps_nest rows) (Nat.succ_le_succ hd)
 have lin:=goods_lin hg (Nat.le_trans hz (by decide))
 refine k_own hK hl lin.lns (by decide) fun h1 p1=>?_
 refine k_own hK (ls:=[]) (get_last _ _) ⟨fun _ q=>nomem q,fun _ q=>nomem q,Nat.zero_le _⟩ (by decide) fun h2 p2=>?_
 have p2:hp<+:h2:=List.IsPrefix.trans (pre_push p1) p2
 refine k_reads hK (pre_at p2 hl) lin.lns (by decide) hf hd8 fun h3 p3=>?_
 have p3:hp<+:h3:=List.IsPrefix.trans p2 p3
 refine forL_w2 (fun j w h'=>⟨[some (.scr is),some (.ref r),some (.ref il),w,none,none,none],h'⟩) (fun j w h'=>hp<+:h') none _ rfl p3 (fun _ _ _ _=>trivial) (fun j x w h1 P hx hI hn _=>?_) (fun w h1 hI=>?_)
 ·obtain ⟨hj,rfl⟩:=range_at hx
  refine k_cell hK (by lia) ?_
  refine k_mixed hK ?_
  refine k_spoilt hK (N:=598) (pre_at hI hl) lin h0 fun h2 i ls' p2 e2 l2=>?_
  refine k_own hK e2 l2 (by decide) fun h3 p3=>?_
  exact hn _ _ (List.IsPrefix.trans hI (List.IsPrefix.trans p2 p3))
 ·refine k_cell hK (by decide) ?_
  refine k_mixed hK ?_
  refine onLs_at (pre_at hI hr) ?_
  refine wpNth_at (pidx_at (i:=0) hs) (get_map hs) ?_
  refine k_rows_deep hK (N:=599) (many:=8) gs (Nat.le_refl _) fun h2 i q p2 e2 g2 d2 l2=>?_
  refine k_refused hK e2 (goods_lin g2 l2).lns (by decide) (Qf:=fun _=>False) (Nf:=True) (read_deep (goods_fits g2) (by lia) trivial) (fun _ _ _ q=>q.elim) fun h3 p3 _=>?_
  have p3:hp<+:h3:=List.IsPrefix.trans hI (List.IsPrefix.trans p2 p3)
  refine onLs_at (pre_at p3 hr) ?_
  refine wpNth_at (pidx_at (i:=0) hs) (get_map hs) ?_
  refine k_rows_deep hK (N:=599) (many:=7) gs (by decide) fun h4 i q p4 e4 g4 d4 l4=>?_
  refine k_reads hK e4 (goods_lin g4 l4).lns (by decide) (goods_fits g4) (by lia) fun h5 p5=>?_
  have p5:hp<+:h5:=List.IsPrefix.trans p3 (List.IsPrefix.trans p4 p5)
  exact law_ten hK hg hd hz (pre_at p5 hr) hs gs (pre_at p5 hl)
theorem law_ok (is:List Int):wpSs K 600 fn_law_4.body (fin fun v _=>v=.bool true) (fun _ _=>False) (start fn_law_4 [.scr is] []):=by
 refine k_cell hK (by decide) ?_
 refine k_cell hK (by decide) ?_
 refine k_names hK fun h1 r ss hpre hlen hr ten hs hnd hkw=>?_
 have gn:∀s∈ss,Gn s:=fun s h=>⟨hs s h,hkw s h⟩
 have h0:0<ss.length:=by lia
 have e0:=get_some h0
 have g0:Gn ss[0]:=gn _ (List.getElem_mem h0)
 generalize ss[0]=s0 at e0 g0
 obtain ⟨ei,el⟩:=ints_sl is
 conv=>whnf
 rw [ei]
 refine k_block hK (cells:=pslice is (some 10) (some 40)) (get_last _ _) (get_old hr) ten gn (by lia) (by decide) fun h2 i rows p2 hat hg hd hz=>?_
 have hg:goods rows:=gps_good (gps_mono (fun s h=>gn s h) hg)
 have p2:h1<+:h2:=(pre_push (pre_self _)).trans p2
 have hg2:goods (rows++[.tell (.nm s0)]):=goods_app hg ⟨⟨g0,Nat.zero_le _⟩,trivial⟩
 have hd2:nests (rows++[.tell (.nm s0)])≤7:=nests_app hd (Nat.zero_le _)
 have hz2:(lns (rows++[.tell (.nm s0)])).length=(lns rows).length+1:=by rw [lns_app,List.length_append];rfl
 refine onLs_at (pre_at p2 hr) ?_
 refine wpNth_at (pidx_at (i:=0) e0) (get_map e0) ?_
 refine onLs_at (get_old hat) ?_
 refine onLs_at (get_last _ _) ?_
 have:=rows_le rows
 refine ⟨le_line (by rw [mvs_len,List.length_singleton];lia),?_⟩
 refine onLs_at (get_last _ _) ?_
 rw [show mvs rows++[MV.tup [MV.str [116,101,108,108],MV.tup [MV.str [110,97,109,101],MV.str s0]]]=mvs (rows++[.tell (.nm s0)]) by rw [mvs_app];rfl]
 refine k_written hK (rls_all hK _) (goods_fits hg2) (fun l hl=>Nat.le_trans (goods_tx hg2 l hl).1 (by decide)) (by lia) (by lia) fun h3 p3 a3=>?_
 have p3:h1<+:h3:=List.IsPrefix.trans (pre_push (pre_push p2)) p3
 exact law_mid hK hg2 hd2 (by lia) (by lia) (pre_at p3 hr) e0 g0 a3
end Internal
end
set_option tactic.hygienic true
set_option Elab.async false
set_option maxRecDepth 100000
set_option maxHeartbeats 8000000
open PySem PySem.W PyProof.Rows Internal
noncomputable def Internal.T4:Tabs:=⟨Internal.tab,Internal.mtab,[],"HushError"::xr4,fun f=>f==47,Internal.gl⟩
theorem PySem.Challenge.cw_uf010009_04_holds : PySem.Challenge.rw_uf010009_04.Holds := by
 w_on
 refine holds_law (by decide +kernel) fun said=>?_
 refine holds_open (q:=Q4) (loose:=["MODULUS"]) (Xt:=X4) (XP:=fun mg h=>XL Q4 lv4 mg h∧XFacts ("HushError"::xr4) mg h) (Yf:=fun _=>()) (Ya:=fun _=>()) (YP:=fun _ _=>True) (N:=6000) left4 (fun w s e=>trivial) (fun w h h' y k=>trivial)
  (fun s e=>⟨xl_of s (Bool.and_eq_true_iff.mp (Bool.and_eq_true_iff.mp e).1).1,xfacts_of (Bool.and_eq_true_iff.mp (Bool.and_eq_true_iff.mp e).1).2⟩) (fun mg h h' y k=>⟨XL.keeps mg h h' y.1 k,y.2.keeps k⟩) (by rfl) (by rfl) (by rfl) (fun s e=>recFacts_of (Bool.and_eq_true_iff.mp e).2) (by rfl) said (by decide +kernel) ⟨rfl,rfl,rfl,rfl,rfl,by decide +kernel⟩ ?hw ?hc
 case hw=>w_witness2
 intro w s₀ s₁ mg mb G Y fa o pm cd doc dV kV ho hd hcd hD hmg hg args vals as hpre hlay hrd hwl hlo
 have V:=(Ground.X G).1
 have XF:=(Ground.X G).2
 have T:=G.T
 have B:=G.B
 have TE:=G.TE
 clear hd hcd hD
 wrow_args hpre hlay hrd hwl hlo
 rename Well _ _ _ _=>hW
 rename IntsAre _ _=>hI
 rename Heap.IsList _ _ _=>hL
 rename (¬ _<_)=>hc
 have hct:ctOk (plainsOf Q4 (looseW Q4 ["MODULUS"])) T4=true:=by decide +kernel
 obtain ⟨cm,hcm⟩:=cm_of (t:=T4) TE hct
 refine law_call (t:=T4) (prog:=PySem.Challenge.pw_uf010009_04) T TE XF hcm (f:=54) (x:="law") (d:=fn_law_4) ?zzimp ?zzchk ?zzmt hct ?zzblt ?zzhgl rfl hg rfl hmg rfl (scr_of hW hL hI ?zzhz) (fun K hK=>law_ok hK _) ?zzhQ
 case zzimp=>decide +kernel
 case zzchk=>decide +kernel
 case zzmt=>decide +kernel
 case zzblt=>decide +kernel
 case zzhz=>unfold line;lia
 case zzhgl=>
  intro g x v e
  replace e:Internal.gl g=some (x,v):=e
  unfold Internal.gl at e
  split at e
  ·cases e
   obtain ⟨u,h1,h2⟩:=V.2.val _ (List.mem_cons_self ..)
   refine ⟨u,h1,fun ρ h' _=>?_⟩
   cases h2
   exact .int _ _
  ·cases e;exact gl_tup B (by decide +kernel) (by unfold line;decide)
  ·cases e;exact gl_tup B (by decide +kernel) (by unfold line;decide)
  ·cases e;exact gl_str T (by decide +kernel) (by unfold line;decide)
  ·cases e;exact gl_str T (by decide +kernel) (by unfold line;decide)
  ·cases e;exact gl_int T (by decide +kernel)
  ·cases e;exact gl_int T (by decide +kernel)
  ·cases e;exact gl_int T (by decide +kernel)
  ·cases e;exact gl_int T (by decide +kernel)
  ·cases e
 case zzhQ=>
  intro s' h1 h2 h3
  refine GoodW.toG ⟨.inl ⟨_,.bool true,[],rfl,?_,?_,?_,?_⟩,h1,h2,h3⟩
  ·exact fun _=>rfl
  ·exact .bool _
  ·exact post_true _ _ _
  ·exact fun _=>⟨List.nodup_nil,fun _ h=>by cases h⟩
