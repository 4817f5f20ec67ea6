import PyProof.Rows.All
import PyProof.Rules2
import PyProof.FactsSeq
import PyProof.FactsAll.dict_1
import PyProof.FactsAll.dict_2
import PyProof.TupleIter
import PyProof.FactsAll.subtypes_5
import PyProof.Rules3
import PyProof.SliceSyntax
import PyProof.ForAny
import PyProof.CallRoads
import PyProof.CallType
import PyProof.CallStr
import PyProof.Cells
import PyProof.StrLoop
import PyProof.StrWalks
import PyProof.CollectIter
import PyProof.CompFree
import PyProof.Conv_int_bool
import PyProof.DictKinds
import PyProof.DictRoads
import PyProof.DictTruth
import PyProof.DictStraight
import PyProof.DictCopy
import PyProof.DictIter
import PyProof.EnumStmt
import PyProof.P3Eq
import PyProof.NeData
import PyProof.FactsAll.set_1
import PyProof.StrLawsIn
import PyProof.SliceStr2
import PyProof.StrOps
import PyProof.StrBlock
import PyProof.WalksMore
import PyProof.RangeFor
import PyProof.IsiHeapPairs
import PyProof.IsiNone
import PyProof.IsiPairs
import PyProof.IsiSeqPairs
import PyProof.ListCopy
import PyProof.ListIndexNeg
import PyProof.Rows.TupAssign
import PyProof.Rows.TupSub
import PyProof.Rows.TupIn
import PyProof.Rows.StrMeet
import PyProof.WalksPairs
import PyProof.Rows.Many
import PyProof.Rows.Exc
import PyProof.Rows.RuleU_int
import PyProof.Rows.RuleB_mul
import PyProof.Rows.RuleB_sub
import PyProof.Rows.RuleB_pow
import PyProof.Rows.FactsT1
import PyProof.WalksEnum
import PyProof.Rows.RuleB_floordiv
import PyProof.Rows.RuleB_mod
import PyProof.StrCalls3
import PyProof.Rows.StrTemp
import PyProof.Rows.RuleB_small
import PyProof.Rows.RuleC_int
import PyProof.TupleOps
import PyProof.SliceMore
import PyProof.Rows.SeqMore
import PyProof.Rows.TupAdd
import PyProof.TupleOfSeq
import PyProof.Rows.SortWalk
import PyProof.Rows.TmSorted
import PyProof.Rows.SortStr
import PyProof.SetRoads
import PyProof.Rows.SetFrom
import Wide.Well
import Wide.Loose
import Open.Row
import Open.Line
import KE.KDictOf
import PySem.Challenge.RW_uf010009_01
set_option Elab.async false
set_option genSizeOf false
set_option genInjectivity false
set_option bootstrap.genMatcherCode false
section
set_option genSizeOf false
set_option genInjectivity false
namespace Mine

/-! The small language: values, objects, expressions, statements, and what must hold ahead of them. -/

inductive MV where
  | none | bool (b : Bool) | int (i : Int) | str (s : List Nat) | tup (xs : List MV) | ref (i : Nat) | inst (c i : Nat) | exc (c : Nat) | scr (is : List Int)

inductive MO where
  | list (xs : List MV) | dict (es : List (List Nat × MV))

structure MS where
  vars : List (Option MV)
  heap : List MO

inductive Fl where
  | next | brk | cont | ret (v : MV)

noncomputable abbrev XT := Nat → List MO → Prop
noncomputable abbrev XM := Nat → MS → Prop
/-- room, function, arguments, what is wanted, what is wanted of a raise, the heap -/
noncomputable abbrev KT := Nat → Nat → List MV → (MV → List MO → Prop) → XT → List MO → Prop

inductive Op where
  | add | sub | mul | fdiv | mod | pow
inductive Cmp where
  | eq | ne | lt | le | gt | ge | inn | nin
inductive Bi where
  | len | int | str | list | tuple | dict | sortedSet | sorted | sum | min | max | all | listRev
inductive Me where
  | append | extend | insert | pop | clear | count | index | find | split | join | get
inductive TS where
  | int | bool | str | list | tuple | dict | cls (c : Nat)
inductive IK where
  | val | range1 | range2 | enum

inductive ME where
  | cst (v : MV)
  | var (i : Nat)
  | glob (g : Nat) (v : MV)
  | bin (op : Op) (a b : ME)
  | neg (a : ME)
  | not (a : ME)
  | and (es : List ME)
  | or (es : List ME)
  | cmp (op : Cmp) (a b : ME)
  | cmp2 (op op' : Cmp) (a b c : ME)
  | isN (pos : Bool) (a : ME)
  | call (f : Nat) (args : List ME)
  | blt (b : Bi) (args : List ME)
  | mth (k : Me) (o : ME) (args : List ME)
  | umth (f : Nat) (o : ME) (args : List ME)
  | new (c f : Nat) (args : List ME)
  | attr (o : ME) (x : List Nat)
  | idx (o i : ME)
  | sl (o : ME) (lo hi : Option ME)
  | list (es : List ME)
  | tup (es : List ME)
  | dict0
  | comp (elt : ME) (t : List Nat) (many : Bool) (k : IK) (src : List ME) (ifs : List ME)
  | isi (a : ME) (ts : List TS)

inductive MSt where
  | asg (t : List Nat) (many : Bool) (e : ME)
  | setAttr (o : ME) (x : List Nat) (e : ME)
  | setIdx (o i e : ME)
  | expr (e : ME)
  | ite (c : ME) (a b : List MSt)
  | for_ (t : List Nat) (many : Bool) (k : IK) (src : List ME) (body : List MSt)
  | while_ (c : ME) (body : List MSt)
  | ret (e : ME)
  | cont
  | raise (c : Nat)
  | try_ (body : List MSt) (c : Nat) (v : Nat) (h : List MSt)

noncomputable def MS.set (m : MS) (i : Nat) (v : MV) : MS := ⟨m.vars.set i (some v), m.heap⟩
noncomputable def MS.get (m : MS) (i : Nat) : Option MV := match m.vars[i]? with
  | some (some v) => some v
  | _ => none
noncomputable def MS.push (m : MS) (o : MO) : MS := ⟨m.vars, m.heap ++ [o]⟩
noncomputable def MS.put (m : MS) (i : Nat) (o : MO) : MS := ⟨m.vars, m.heap.set i o⟩

noncomputable def small (x : Int) : Prop := x.natAbs < 2 ^ 63
noncomputable def line : Nat := 2 ^ 24

noncomputable abbrev PQ := MV → MS → Prop

/-- data read out of the heap -/
inductive D where
  | none | bool (b : Bool) | int (i : Int) | str (s : List Nat) | list (xs : List D) | tup (xs : List D)

mutual
noncomputable def D.deq : D → D → Bool
  | .none, .none => true
  | .bool a, .bool b => a == b
  | .bool a, .int j => (if a then 1 else 0) == j
  | .int i, .bool b => i == (if b then 1 else 0)
  | .int i, .int j => i == j
  | .str x, .str y => x == y
  | .list xs, .list ys => D.deqs xs ys
  | .tup xs, .tup ys => D.deqs xs ys
  | _, _ => false
noncomputable def D.deqs : List D → List D → Bool
  | [], [] => true
  | x :: xs, y :: ys => D.deq x y && D.deqs xs ys
  | _, _ => false
end
mutual
noncomputable def D.deep : D → Nat
  | .list xs | .tup xs => D.deeps xs + 1
  | _ => 0
noncomputable def D.deeps : List D → Nat
  | [] => 0
  | x :: xs => max (D.deep x) (D.deeps xs)
end
mutual
noncomputable def D.ok : D → Bool
  | .list xs | .tup xs => D.oks xs
  | .str s => s.all (fun c => decide (c < 55296))
  | _ => true
noncomputable def D.oks : List D → Bool
  | [] => true
  | x :: xs => D.ok x && D.oks xs
end
mutual
inductive Rd (hp : List MO) : MV → D → Prop
  | none : Rd hp .none .none
  | bool (b) : Rd hp (.bool b) (.bool b)
  | int (i) : Rd hp (.int i) (.int i)
  | str (s) : Rd hp (.str s) (.str s)
  | tup {xs ds} : Rds hp xs ds → Rd hp (.tup xs) (.tup ds)
  | list {i xs ds} : hp[i]? = some (.list xs) → Rds hp xs ds → Rd hp (.ref i) (.list ds)
inductive Rds (hp : List MO) : List MV → List D → Prop
  | nil : Rds hp [] []
  | cons {x xs d ds} : Rd hp x d → Rds hp xs ds → Rds hp (x :: xs) (d :: ds)
end

noncomputable def aeq : MV → MV → Option Bool
  | .none, .none => some true
  | .bool a, .bool b => some (a == b)
  | .int i, .int j => some (i == j)
  | .str x, .str y => some (x == y)
  | .none, .int _ | .none, .str _ | .none, .bool _ | .int _, .none | .int _, .str _ | .str _, .none | .str _, .int _ | .bool _, .none | .str _, .bool _ | .bool _, .str _ => some false
  | _, _ => none

/-- two values compared, by what they hold -/
inductive EqP (hp : List MO) (x y : MV) (Q : Bool → Prop) : Prop
  | mk (d e : D) (hd : Rd hp x d) (he : Rd hp y e) (hk : d.deep ≤ 1000) (h1 : d.ok = true) (h2 : e.ok = true) (hq : Q (d.deq e))
  | dicts (i j : Nat) (es : List (List Nat × MV)) (hx : x = .ref i) (hy : y = .ref j) (hi : hp[i]? = some (.dict es)) (hj : hp[j]? = some (.dict es)) (hl : ∀ e ∈ es, ∃ k, e.2 = .int k) (hn : (es.map (·.1)).Nodup) (hq : Q true)

/-- a value among some values -/
inductive InP (hp : List MO) (x : MV) (ys : List MV) (Q : Bool → Prop) : Prop
  | mk (d : D) (es : List D) (hd : Rd hp x d) (he : Rds hp ys es) (hk : d.deep ≤ 1000) (h1 : d.ok = true) (h2 : D.oks es = true) (hq : Q (es.any (fun e => e.deq d)))

noncomputable def dget : List (List Nat × MV) → List Nat → Option MV
  | [], _ => none
  | (k, v) :: r, x => match k == x with
    | true => some v
    | false => dget r x
noncomputable def dset : List (List Nat × MV) → List Nat → MV → List (List Nat × MV)
  | [], x, v => [(x, v)]
  | (k, w) :: r, x, v => match k == x with
    | true => (k, v) :: r
    | false => (k, w) :: dset r x v
noncomputable def ddel : List (List Nat × MV) → List Nat → List (List Nat × MV)
  | [], _ => []
  | (k, w) :: r, x => match k == x with
    | true => r
    | false => (k, w) :: ddel r x

noncomputable def wpIn (x c : MV) (Q : Bool → Prop) (hp : List MO) : Prop :=
  match c, x with
  | .tup ys, x => InP hp x ys Q
  | .ref i, x => match hp[i]? with
    | some (.list ys) => InP hp x ys Q
    | some (.dict es) => match x with
      | .str s => Q (dget es s).isSome
      | _ => False
    | none => False
  | .str s, .str [a] => Q (s.contains a)
  | _, _ => False

noncomputable def wpCmp (op : Cmp) (x y : MV) (Q : Bool → MS → Prop) (m : MS) : Prop :=
  match op with
  | .eq => match aeq x y with
    | some b => Q b m
    | none => EqP m.heap x y (fun b => Q b m)
  | .ne => match aeq x y with
    | some b => Q (!b) m
    | none => EqP m.heap x y (fun b => Q (!b) m)
  | .lt => match x, y with
    | .int i, .int j => Q (decide (i < j)) m
    | _, _ => False
  | .le => match x, y with
    | .int i, .int j => Q (decide (i ≤ j)) m
    | _, _ => False
  | .gt => match x, y with
    | .int i, .int j => Q (decide (j < i)) m
    | _, _ => False
  | .ge => match x, y with
    | .int i, .int j => Q (decide (j ≤ i)) m
    | _, _ => False
  | .inn => wpIn x y (fun b => Q b m) m.heap
  | .nin => wpIn x y (fun b => Q (!b) m) m.heap

noncomputable def wpAdd (a b : MV) (Q : PQ) (m : MS) : Prop := match a with
  | .int x => match b with
    | .int y => Q (.int (x + y)) m
    | _ => False
  | .str x => match b with
    | .str y => x.length + y.length ≤ line ∧ Q (.str (x ++ y)) m
    | _ => False
  | .tup x => match b with
    | .tup y => x.length + y.length ≤ line ∧ Q (.tup (x ++ y)) m
    | _ => False
  | .ref i => match b with
    | .ref j => match m.heap[i]?, m.heap[j]? with
      | some (.list x), some (.list y) => x.length + y.length ≤ line ∧ Q (.ref m.heap.length) (m.push (.list (x ++ y)))
      | _, _ => False
    | _ => False
  | _ => False
noncomputable def wpInt2 (op : Op) (x y : Int) (Q : PQ) (m : MS) : Prop := match op with
  | .add => Q (.int (x + y)) m
  | .sub => Q (.int (x - y)) m
  | .mul => (small x ∨ small y) ∧ Q (.int (x * y)) m
  | .fdiv => (0 < y ∧ y < 2 ^ 30) ∧ Q (.int (x / y)) m
  | .mod => 0 < y ∧ Q (.int (x % y)) m
  | .pow => (x = 10 ∧ (y = 6 ∨ y = 9)) ∧ Q (.int (x ^ y.toNat)) m
noncomputable def wpNum (op : Op) (a b : MV) (Q : PQ) (m : MS) : Prop := match a with
  | .int x => match b with
    | .int y => wpInt2 op x y Q m
    | _ => False
  | _ => False
noncomputable def wpBin (op : Op) (a b : MV) (Q : PQ) (m : MS) : Prop := match op with
  | .add => wpAdd a b Q m
  | .sub => wpNum .sub a b Q m
  | .mul => wpNum .mul a b Q m
  | .fdiv => wpNum .fdiv a b Q m
  | .mod => wpNum .mod a b Q m
  | .pow => wpNum .pow a b Q m

/-- a place counted as Python counts it -/
noncomputable def pidx (k : Int) (n : Nat) : Option Nat :=
  match decide (0 ≤ k), decide (k < (n : Int)), decide (-(n : Int) ≤ k) with
  | true, true, _ => some k.toNat
  | false, _, true => some (k + n).toNat
  | _, _, _ => none
/-- a slice's end counted as Python counts it -/
noncomputable def pend (k : Int) (n : Nat) : Nat :=
  match decide (0 ≤ k) with
  | true => min k.toNat n
  | false => (k + n).toNat
noncomputable def pslice {α : Type} (xs : List α) (lo hi : Option Int) : List α :=
  let a := match lo with
    | none => 0
    | some k => pend k xs.length
  let b := match hi with
    | none => xs.length
    | some k => pend k xs.length
  (xs.take b).drop a

noncomputable def wpIdx (x i : MV) (Q : PQ) (m : MS) : Prop :=
  match x, i with
  | .tup xs, .int k => match pidx k xs.length with
    | some j => match xs[j]? with
      | some v => Q v m
      | none => False
    | none => False
  | .str s, .int k => match pidx k s.length with
    | some j => match s[j]? with
      | some c => Q (.str [c]) m
      | none => False
    | none => False
  | .ref r, .int k => match m.heap[r]? with
    | some (.list xs) => match pidx k xs.length with
      | some j => match xs[j]? with
        | some v => Q v m
        | none => False
      | none => False
    | _ => False
  | .scr xs, .int k => match pidx k xs.length with
    | some j => match xs[j]? with
      | some v => Q (.int v) m
      | none => False
    | none => False
  | .ref r, .str s => match m.heap[r]? with
    | some (.dict es) => match dget es s with
      | some v => Q v m
      | none => False
    | _ => False
  | _, _ => False

noncomputable def optInt : Option MV → Option (Option Int)
  | none => some none
  | some (.int k) => some (some k)
  | some _ => none
noncomputable def wpSl (x : MV) (lo hi : Option MV) (Q : PQ) (m : MS) : Prop :=
  match optInt lo, optInt hi with
  | some lo, some hi => match x with
    | .str s => Q (.str (pslice s lo hi)) m
    | .tup _ => False
    | .scr xs => Q (.ref m.heap.length) (m.push (.list (pslice (xs.map .int) lo hi)))
    | .ref r => match m.heap[r]? with
      | some (.list xs) => Q (.ref m.heap.length) (m.push (.list (pslice xs lo hi)))
      | _ => False
    | _ => False
  | _, _ => False

/-- texts, by Python's order -/
noncomputable def slt : List Nat → List Nat → Bool
  | [], [] => false
  | [], _ :: _ => true
  | _ :: _, [] => false
  | a :: x, b :: y => match decide (a < b), a == b with
    | true, _ => true
    | false, true => slt x y
    | false, false => false
noncomputable def sins (s : List Nat) : List (List Nat) → List (List Nat)
  | [] => [s]
  | t :: r => match slt s t, s == t with
    | true, _ => s :: t :: r
    | false, true => t :: r
    | false, false => t :: sins s r
/-- sorted, each once -/
noncomputable def sset : List (List Nat) → List (List Nat)
  | [] => []
  | s :: r => sins s (sset r)

/-- figures of a number -/
noncomputable def figs : Nat → Nat → List Nat
  | 0, _ => []
  | f + 1, n => match decide (n < 10) with
    | true => [48 + n]
    | false => figs f (n / 10) ++ [48 + n % 10]

noncomputable def b2i : Bool → Int
  | true => 1
  | false => 0

inductive SortP (xs : List MV) (Q : List (List Nat) → Prop) : Prop
  | mk (ss : List (List Nat)) (he : xs = ss.map .str) (hl : (sset ss).length < 64) (hz : ss.length < 4000) (hq : Q (sset ss))

inductive SumP (xs : List MV) (Q : Int → Prop) : Prop
  | mk (is : List Int) (he : xs = is.map .int) (hb : ∀ i ∈ is, 0 ≤ i ∧ i ≤ 1000000) (hl : is.length ≤ 1000000) (hq : Q is.sum)

noncomputable def wpLen (x : MV) (Q : PQ) (m : MS) : Prop := match x with
  | .tup xs => Q (.int xs.length) m
  | .str xs => Q (.int xs.length) m
  | .scr xs => Q (.int xs.length) m
  | .ref r => match m.heap[r]? with
    | some (.list xs) => Q (.int xs.length) m
    | some (.dict xs) => Q (.int xs.length) m
    | none => False
  | _ => False
noncomputable def wpListOf (x : MV) (Q : PQ) (m : MS) : Prop := match x with
  | .ref r => match m.heap[r]? with
    | some (.list xs) => Q (.ref m.heap.length) (m.push (.list xs))
    | _ => False
  | .tup xs => Q (.ref m.heap.length) (m.push (.list xs))
  | _ => False
noncomputable def wpBlt1 (b : Bi) (x : MV) (Q : PQ) (m : MS) : Prop := match b with
  | .len => wpLen x Q m
  | .int => match x with
    | .bool b => Q (.int (b2i b)) m
    | _ => False
  | .str => match x with
    | .str s => Q (.str s) m
    | _ => False
  | .list => wpListOf x Q m
  | .tuple => match x with
    | .ref r => match m.heap[r]? with
      | some (.list xs) => Q (.tup xs) m
      | _ => False
    | _ => False
  | .dict => match x with
    | .ref r => match m.heap[r]? with
      | some (.dict es) => Q (.ref m.heap.length) (m.push (.dict es))
      | _ => False
    | _ => False
  | .sortedSet => match x with
    | .ref r => match m.heap[r]? with
      | some (.list xs) => SortP xs (fun ss => Q (.ref m.heap.length) (m.push (.list (ss.map .str))))
      | _ => False
    | _ => False
  | _ => False
noncomputable def wpBlt (b : Bi) (vs : List MV) (Q : PQ) (m : MS) : Prop := match vs with
  | [x] => wpBlt1 b x Q m
  | _ => False

noncomputable def wpMth (k : Me) (o : MV) (vs : List MV) (Q : PQ) (m : MS) : Prop :=
  match k, o, vs with
  | .append, .ref r, [v] => match m.heap[r]? with
    | some (.list xs) => xs.length < line ∧ Q .none (m.put r (.list (xs ++ [v])))
    | _ => False
  | .find, .str _, [.str _] => ∀ k : Int, -1 ≤ k → Q (.int k) m
  | _, _, _ => False

/-- the method is there -/
noncomputable def mthOk (k : Me) (x : MV) (hp : List MO) : Bool :=
  match k, x with
  | .append, .ref r => match hp[r]? with
    | some (.list _) => true
    | _ => false
  | .find, .str _ => true
  | _, _ => false

noncomputable def tyO (o : Option MO) (t : TS) : Option Bool := match o with
  | some (.list _) => match t with
    | .list => some true
    | _ => some false
  | some (.dict _) => match t with
    | .dict => some true
    | _ => some false
  | none => none
noncomputable def tyOf (hp : List MO) : MV → TS → Option Bool
  | .none, _ => some false
  | .bool _, .bool => some true
  | .bool _, .int => some true
  | .bool _, _ => some false
  | .int _, .int => some true
  | .int _, _ => some false
  | .str _, .str => some true
  | .str _, _ => some false
  | .tup _, .tuple => some true
  | .tup _, _ => some false
  | .ref r, t => tyO hp[r]? t
  | _, _ => none

/-- what a loop goes over, and the list that must stay -/
noncomputable def iterOf (k : IK) (vs : List MV) (hp : List MO) : Option (List MV × Option (Nat × List MV)) :=
  match k, vs with
  | .val, [.ref r] => match hp[r]? with
    | some (.list xs) => some (xs, some (r, xs))
    | _ => none
  | .val, [.tup xs] => some (xs, none)
  | .val, [.str s] => match s.all (fun c => decide (c < 128)) with
    | true => some (s.map (fun c => .str [c]), none)
    | false => none
  | .range1, [.int n] => match decide (-16777216 ≤ n), decide (n ≤ 16777216) with
    | true, true => some ((List.range n.toNat).map (fun (i : Nat) => .int i), none)
    | _, _ => none
  | .range2, [.int a, .int b] => match decide (0 ≤ a), decide (a ≤ 16777216), decide (0 ≤ b), decide (b ≤ 16777216) with
    | true, true, true, true => some ((List.range (b - a).toNat).map (fun (i : Nat) => .int (a + i)), none)
    | _, _, _, _ => none
  | .enum, [.ref r] => match hp[r]? with
    | some (.list xs) => some (xs.zipIdx.map (fun p => .tup [.int p.2, p.1]), some (r, xs))
    | _ => none
  | _, _ => none

noncomputable def guardOk (g : Option (Nat × List MV)) (hp : List MO) : Prop := match g with
  | none => True
  | some (r, xs) => hp[r]? = some (.list xs)

noncomputable def setAll (t : List Nat) (xs : List MV) (m : MS) : MS := match t, xs with
  | i :: t, x :: xs => setAll t xs (m.set i x)
  | _, _ => m

noncomputable def asg (t : List Nat) (many : Bool) (v : MV) (Q : MS → Prop) (m : MS) : Prop :=
  match many, t, v with
  | false, [i], v => Q (m.set i v)
  | true, t, .tup xs => t.length = xs.length ∧ Q (setAll t xs m)
  | _, _, _ => False

noncomputable def forLr (g : Option (Nat × List MV)) (step : MV → (Fl → MS → Prop) → MS → Prop) (Q : Fl → MS → Prop) : List MV → MS → Prop
  | [], m => guardOk g m.heap ∧ Q .next m
  | v :: vs, m => guardOk g m.heap ∧ step v (fun f m => match f with
    | .next => forLr g step Q vs m
    | .cont => forLr g step Q vs m
    | .brk => Q .next m
    | .ret r => Q (.ret r) m) m
@[irreducible] noncomputable def forL (g : Option (Nat × List MV)) (step : MV → (Fl → MS → Prop) → MS → Prop) (Q : Fl → MS → Prop) : List MV → MS → Prop := forLr g step Q

noncomputable def compLr (g : Option (Nat × List MV)) (step : MV → (Option MV → MS → Prop) → MS → Prop) (Q : List MV → MS → Prop) : List MV → List MV → MS → Prop
  | [], acc, m => guardOk g m.heap ∧ Q acc m
  | v :: vs, acc, m => guardOk g m.heap ∧ step v (fun r m => match r with
    | some x => compLr g step Q vs (acc ++ [x]) m
    | none => compLr g step Q vs acc m) m
@[irreducible] noncomputable def compL (g : Option (Nat × List MV)) (step : MV → (Option MV → MS → Prop) → MS → Prop) (Q : List MV → MS → Prop) : List MV → List MV → MS → Prop := compLr g step Q

noncomputable def whileNr (c : (Bool → MS → Prop) → MS → Prop) (b : (Fl → MS → Prop) → MS → Prop) (Q : Fl → MS → Prop) : Nat → MS → Prop
  | 0, _ => False
  | k + 1, m => c (fun t m => match t with
    | true => b (fun f m => match f with
      | .next => whileNr c b Q k m
      | .cont => whileNr c b Q k m
      | .brk => Q .next m
      | .ret r => Q (.ret r) m) m
    | false => Q .next m) m
@[irreducible] noncomputable def whileN (c : (Bool → MS → Prop) → MS → Prop) (b : (Fl → MS → Prop) → MS → Prop) (Q : Fl → MS → Prop) : Nat → MS → Prop := whileNr c b Q

theorem forL_nil {g : Option (Nat × List MV)} {step : MV → (Fl → MS → Prop) → MS → Prop} {Q : Fl → MS → Prop} {m : MS} : forL g step Q [] m = (guardOk g m.heap ∧ Q .next m) := by unfold forL; rfl
theorem forL_cons {g : Option (Nat × List MV)} {step : MV → (Fl → MS → Prop) → MS → Prop} {Q : Fl → MS → Prop} {v : MV} {vs : List MV} {m : MS} : forL g step Q (v :: vs) m = (guardOk g m.heap ∧ step v (fun f m => match f with
    | .next => forL g step Q vs m
    | .cont => forL g step Q vs m
    | .brk => Q .next m
    | .ret r => Q (.ret r) m) m) := by unfold forL; rfl
theorem compL_nil {g : Option (Nat × List MV)} {step : MV → (Option MV → MS → Prop) → MS → Prop} {Q : List MV → MS → Prop} {acc : List MV} {m : MS} : compL g step Q [] acc m = (guardOk g m.heap ∧ Q acc m) := by unfold compL; rfl
theorem compL_cons {g : Option (Nat × List MV)} {step : MV → (Option MV → MS → Prop) → MS → Prop} {Q : List MV → MS → Prop} {v : MV} {vs acc : List MV} {m : MS} : compL g step Q (v :: vs) acc m = (guardOk g m.heap ∧ step v (fun r m => match r with
    | some x => compL g step Q vs (acc ++ [x]) m
    | none => compL g step Q vs acc m) m) := by unfold compL; rfl
theorem whileN_zero {c : (Bool → MS → Prop) → MS → Prop} {b : (Fl → MS → Prop) → MS → Prop} {Q : Fl → MS → Prop} {m : MS} : whileN c b Q 0 m = False := by unfold whileN; rfl
theorem whileN_succ {c : (Bool → MS → Prop) → MS → Prop} {b : (Fl → MS → Prop) → MS → Prop} {Q : Fl → MS → Prop} {k : Nat} {m : MS} : whileN c b Q (k + 1) m = c (fun t m => match t with
    | true => b (fun f m => match f with
      | .next => whileN c b Q k m
      | .cont => whileN c b Q k m
      | .brk => Q .next m
      | .ret r => Q (.ret r) m) m
    | false => Q .next m) m := by unfold whileN; rfl

noncomputable def isNn (p : Bool) (x : MV) : Bool := match x with
  | .none => p
  | _ => !p

noncomputable def ofBool (Q : Bool → MS → Prop) : PQ := fun v m => match v with
  | .bool b => Q b m
  | _ => False

mutual
noncomputable def wpE (K : KT) (n : Nat) : ME → PQ → XM → MS → Prop
  | .cst v, Q, _, m => Q v m
  | .glob _ v, Q, _, m => Q v m
  | .var i, Q, _, m => match m.get i with
    | some v => Q v m
    | none => False
  | .bin op a b, Q, X, m => wpE K n a (fun x m => wpE K n b (fun y m => wpBin op x y Q m) X m) X m
  | .neg a, Q, X, m => wpE K n a (fun x m => match x with
    | .int i => Q (.int (-i)) m
    | _ => False) X m
  | .not a, Q, X, m => wpE K n a (ofBool fun b m => Q (.bool (!b)) m) X m
  | .and es, Q, X, m => wpAnd K n es Q X m
  | .or es, Q, X, m => wpOr K n es Q X m
  | .cmp op a b, Q, X, m => wpE K n a (fun x m => wpE K n b (fun y m => wpCmp op x y (fun b m => Q (.bool b) m) m) X m) X m
  | .cmp2 op op' a b c, Q, X, m => wpE K n a (fun x m => wpE K n b (fun y m => wpCmp op x y (fun t m => match t with
    | true => wpE K n c (fun z m => wpCmp op' y z (fun b m => Q (.bool b) m) m) X m
    | false => Q (.bool false) m) m) X m) X m
  | .isN p a, Q, X, m => wpE K n a (fun x m => Q (.bool (isNn p x)) m) X m
  | .call f args, Q, X, m => wpEs K n args (fun vs m => K n f vs (fun v h => Q v ⟨m.vars, h⟩) (fun c h => X c ⟨m.vars, h⟩) m.heap) X m
  | .blt b args, Q, X, m => wpEs K n args (fun vs m => wpBlt b vs Q m) X m
  | .mth k o args, Q, X, m => wpE K n o (fun x m => match mthOk k x m.heap with
    | true => wpEs K n args (fun vs m => wpMth k x vs Q m) X m
    | false => False) X m
  | .umth _ _ _, _, _, _ => False
  | .new _ _ _, _, _, _ => False
  | .attr _ _, _, _, _ => False
  | .idx o i, Q, X, m => wpE K n o (fun x m => wpE K n i (fun y m => wpIdx x y Q m) X m) X m
  | .sl o lo hi, Q, X, m => wpE K n o (fun x m => wpO K n lo (fun l m => wpO K n hi (fun h m => wpSl x l h Q m) X m) X m) X m
  | .list es, Q, X, m => wpEs K n es (fun vs m => Q (.ref m.heap.length) (m.push (.list vs))) X m
  | .tup es, Q, X, m => wpEs K n es (fun vs m => Q (.tup vs) m) X m
  | .dict0, Q, _, m => Q (.ref m.heap.length) (m.push (.dict []))
  | .comp elt t many k src ifs, Q, X, m => wpEs K n src (fun vs m => match iterOf k vs m.heap with
    | some (items, g) => compL g (fun v P m => asg t many v (fun m => wpIfs K n ifs (fun b m => match b with
        | true => wpE K n elt (fun x m => P (some x) m) X m
        | false => P none m) X m) m) (fun acc m' => Q (.ref m'.heap.length) ⟨m.vars, m'.heap ++ [.list acc]⟩) items [] m
    | none => False) X m
  | .isi a ts, Q, X, m => wpE K n a (fun x m => match ts with
    | [t] => match tyOf m.heap x t with
      | some b => Q (.bool b) m
      | none => False
    | [t, u] => match tyOf m.heap x t, tyOf m.heap x u with
      | some b, some c => Q (.bool (b || c)) m
      | _, _ => False
    | _ => False) X m
noncomputable def wpEs (K : KT) (n : Nat) : List ME → (List MV → MS → Prop) → XM → MS → Prop
  | [], Q, _, m => Q [] m
  | e :: r, Q, X, m => wpE K n e (fun v m => wpEs K n r (fun vs m => Q (v :: vs) m) X m) X m
noncomputable def wpO (K : KT) (n : Nat) : Option ME → (Option MV → MS → Prop) → XM → MS → Prop
  | none, Q, _, m => Q none m
  | some e, Q, X, m => wpE K n e (fun v m => Q (some v) m) X m
noncomputable def wpAnd (K : KT) (n : Nat) : List ME → PQ → XM → MS → Prop
  | [], _, _, _ => False
  | [e], Q, X, m => wpE K n e Q X m
  | e :: r, Q, X, m => wpE K n e (ofBool fun b m => match b with
    | true => wpAnd K n r Q X m
    | false => Q (.bool false) m) X m
noncomputable def wpOr (K : KT) (n : Nat) : List ME → PQ → XM → MS → Prop
  | [], _, _, _ => False
  | [e], Q, X, m => wpE K n e Q X m
  | e :: r, Q, X, m => wpE K n e (ofBool fun b m => match b with
    | true => Q (.bool true) m
    | false => wpOr K n r Q X m) X m
noncomputable def wpIfs (K : KT) (n : Nat) : List ME → (Bool → MS → Prop) → XM → MS → Prop
  | [], Q, _, m => Q true m
  | e :: r, Q, X, m => wpE K n e (ofBool fun b m => match b with
    | true => wpIfs K n r Q X m
    | false => Q false m) X m
end

mutual
noncomputable def wpS (K : KT) (n : Nat) : MSt → (Fl → MS → Prop) → XM → MS → Prop
  | .asg t many e, Q, X, m => wpE K n e (fun v m => asg t many v (fun m => Q .next m) m) X m
  | .setAttr _ _ _, _, _, _ => False
  | .setIdx o i e, Q, X, m => wpE K n e (fun v m => wpE K n o (fun x m => wpE K n i (fun y m => match x, y with
    | .ref r, .str s => match m.heap[r]? with
      | some (.dict es) => es.length < line ∧ Q .next (m.put r (.dict (dset es s v)))
      | _ => False
    | _, _ => False) X m) X m) X m
  | .expr e, Q, X, m => wpE K n e (fun v m => match v with
    | .none => Q .next m
    | .bool _ => Q .next m
    | .int _ => Q .next m
    | .str _ => Q .next m
    | _ => False) X m
  | .ite c a b, Q, X, m => wpE K n c (ofBool fun t m => match t with
    | true => wpSs K n a Q X m
    | false => wpSs K n b Q X m) X m
  | .for_ t many k src body, Q, X, m => wpEs K n src (fun vs m => match iterOf k vs m.heap with
    | some (items, g) => forL g (fun v P m => asg t many v (fun m => wpSs K n body P X m) m) Q items m
    | none => False) X m
  | .while_ c body, Q, X, m => ∃ k, whileN (fun P m => wpE K n c (ofBool P) X m) (fun P m => wpSs K n body P X m) Q k m
  | .ret e, Q, X, m => wpE K n e (fun v m => Q (.ret v) m) X m
  | .cont, Q, _, m => Q .cont m
  | .raise c, _, X, m => X c m
  | .try_ _ _ _ _, _, _, _ => False
noncomputable def wpSs (K : KT) (n : Nat) : List MSt → (Fl → MS → Prop) → XM → MS → Prop
  | [], Q, _, m => Q .next m
  | s :: r, Q, X, m => wpS K n s (fun f m => match f with
    | .next => wpSs K n r Q X m
    | f => Q f m) X m
end

/-- a function's end -/
noncomputable def fin (Q : MV → List MO → Prop) : Fl → MS → Prop := fun f m => match f with
  | .ret v => Q v m.heap
  | .next => Q .none m.heap
  | _ => False

structure Fn where
  args : Nat
  slots : Nat
  body : List MSt

noncomputable def start (d : Fn) (vs : List MV) (h : List MO) : MS := ⟨vs.map some ++ List.replicate (d.slots - d.args) none, h⟩

/-- what calls mean -/
noncomputable def Closed (P : Nat → Option Fn) (K : KT) : Prop :=
  ∀ n f vs Q X h d, P f = some d → vs.length = d.args → wpSs K n d.body (fin Q) (fun c m => X c m.heap) (start d vs h) → K (n + 1) f vs Q X h

end Mine
end
section
set_option autoImplicit false
set_option linter.unusedVariables false
namespace Mine
open PySem PyProof.Rows

noncomputable abbrev tupO (items : List Value) (n : Nat) : Obj := { cls := .type "tuple", dict := none, data := .seq items.toArray n, slots := #[] }
noncomputable abbrev listO (items : List Value) (n : Nat) : Obj := { cls := .type "list", dict := none, data := .seq items.toArray n, slots := #[] }
noncomputable abbrev dictO (es : List DictEntry) (n : Nat) : Obj := { cls := .type "dict", dict := none, data := .dict es.toArray n, slots := #[] }
noncomputable abbrev instO (C : Addr) (d : Addr) : Obj := { cls := .ref C, dict := some d, data := .plain, slots := #[] }
noncomputable abbrev str (s : List Nat) : Str := ⟨s.toArray⟩

/-- what is fixed while the law runs -/
structure Glo where
  prog : Program
  w : World
  base : Heap
  fa : Nat → Option Addr
  ca : Nat → Option Addr

/-- objects that nothing changes -/
noncomputable def Solid (o : Obj) : Prop := (o.cls = .type "tuple" ∧ ∃ xs n, o.data = .seq xs n) ∨ ((∃ c, o.cls = .ref c) ∧ (o.data = .plain ∨ ∃ vs, o.data = .fields vs))
noncomputable def Solids (h h' : Heap) : Prop := ∀ a o, h.get? a = some o → Solid o → h'.get? a = some o

mutual
inductive Rep (C : Glo) (ρ : List Addr) (h : Heap) : MV → Value → Prop
  | none : Rep C ρ h .none .none
  | bool (b) : Rep C ρ h (.bool b) (.bool b)
  | int (i t) : Rep C ρ h (.int i) (.int i t)
  | str (s t) : s.length ≤ line → Rep C ρ h (.str s) (.str (str s) t)
  | tup {a n xs items} : h.get? a = some (tupO items n) → RepL C ρ h xs items → xs.length ≤ line → Rep C ρ h (.tup xs) (.ref a)
  | ref {i a} : ρ[i]? = some a → Rep C ρ h (.ref i) (.ref a)
  | scr {is a items n} : C.base.get? a = some (listO items n) → IntsAre items is → is.length ≤ line → Rep C ρ h (.scr is) (.ref a)
  | inst {c i a k d} : C.ca c = some k → ρ[i]? = some d → h.get? a = some (instO k d) → Rep C ρ h (.inst c i) (.ref a)
inductive RepL (C : Glo) (ρ : List Addr) (h : Heap) : List MV → List Value → Prop
  | nil : RepL C ρ h [] []
  | cons {x v xs vs} : Rep C ρ h x v → RepL C ρ h xs vs → RepL C ρ h (x :: xs) (v :: vs)
end

theorem solid_tup {items : List Value} {n : Nat} : Solid (tupO items n) := .inl ⟨rfl, _, _, rfl⟩
theorem solid_inst {C d : Addr} : Solid (instO C d) := .inr ⟨⟨_, rfl⟩, .inl rfl⟩
theorem pre_get {ρ ρ' : List Addr} (hp : ρ <+: ρ') {i : Nat} {a : Addr} (h : ρ[i]? = some a) : ρ'[i]? = some a := by
  obtain ⟨t, rfl⟩ := hp
  rw [List.getElem?_append_left (List.getElem?_eq_some_iff.mp h).1]; exact h

section
variable {C : Glo} {ρ ρ' : List Addr} {h h' : Heap}
mutual
theorem Rep.up (hs : Solids h h') (hp : ρ <+: ρ') : ∀ {x : MV} {v : Value}, Rep C ρ h x v → Rep C ρ' h' x v
  | _, _, .none => .none
  | _, _, .bool b => .bool b
  | _, _, .int i t => .int i t
  | _, _, .str s t z => .str s t z
  | _, _, .tup e l z => .tup (hs _ _ e solid_tup) (RepL.up hs hp l) z
  | _, _, .ref e => .ref (pre_get hp e)
  | _, _, .scr e l z => .scr e l z
  | _, _, .inst e1 e2 e3 => .inst e1 (pre_get hp e2) (hs _ _ e3 solid_inst)
theorem RepL.up (hs : Solids h h') (hp : ρ <+: ρ') : ∀ {x : List MV} {v : List Value}, RepL C ρ h x v → RepL C ρ' h' x v
  | _, _, .nil => .nil
  | _, _, .cons a b => .cons (Rep.up hs hp a) (RepL.up hs hp b)
end

theorem ints_rep : ∀ {is : List Int} {items : List Value}, IntsAre items is → RepL C ρ h (is.map .int) items
  | _, _, .nil => .nil
  | _, _, .cons n t r => .cons (.int n t) (ints_rep r)
theorem RepL.length : ∀ {xs : List MV} {vs : List Value}, RepL C ρ h xs vs → vs.length = xs.length
  | _, _, .nil => rfl
  | _, _, .cons _ b => by simp only [List.length_cons, b.length]
theorem RepL.get : ∀ {xs : List MV} {vs : List Value}, RepL C ρ h xs vs → ∀ {i : Nat} {x : MV}, xs[i]? = some x → ∃ v, vs[i]? = some v ∧ Rep C ρ h x v
  | _, _, .nil, _, _, e => by simp at e
  | _, _, .cons a b, 0, _, e => by simp at e; subst e; exact ⟨_, rfl, a⟩
  | _, _, .cons a b, i + 1, x, e => by
    simp only [List.getElem?_cons_succ] at e ⊢
    exact b.get e
theorem RepL.append : ∀ {xs : List MV} {vs : List Value} {ys : List MV} {ws : List Value}, RepL C ρ h xs vs → RepL C ρ h ys ws → RepL C ρ h (xs ++ ys) (vs ++ ws)
  | _, _, _, _, .nil, l => l
  | _, _, _, _, .cons a b, l => .cons a (b.append l)
theorem RepL.take : ∀ {xs : List MV} {vs : List Value} (k : Nat), RepL C ρ h xs vs → RepL C ρ h (xs.take k) (vs.take k)
  | _, _, _, .nil => by simp only [List.take_nil]; exact .nil
  | _, _, 0, .cons a b => by simp only [List.take_zero]; exact .nil
  | _, _, k + 1, .cons a b => by simp only [List.take_succ_cons]; exact .cons a (b.take k)
theorem RepL.drop : ∀ {xs : List MV} {vs : List Value} (k : Nat), RepL C ρ h xs vs → RepL C ρ h (xs.drop k) (vs.drop k)
  | _, _, _, .nil => by simp only [List.drop_nil]; exact .nil
  | _, _, 0, .cons a b => by simp only [List.drop_zero]; exact .cons a b
  | _, _, k + 1, .cons a b => by simp only [List.drop_succ_cons]; exact b.drop k
theorem RepL.set : ∀ {xs : List MV} {vs : List Value} (k : Nat) {x : MV} {v : Value}, RepL C ρ h xs vs → Rep C ρ h x v → RepL C ρ h (xs.set k x) (vs.set k v)
  | _, _, _, _, _, .nil, _ => by simp only [List.set_nil]; exact .nil
  | _, _, 0, _, _, .cons a b, r => by simp only [List.set_cons_zero]; exact .cons r b
  | _, _, k + 1, _, _, .cons a b, r => by simp only [List.set_cons_succ]; exact .cons a (b.set k r)
end

/-- a dict's rows -/
inductive RepK (C : Glo) (ρ : List Addr) (h : Heap) : List (List Nat × MV) → List (Str × Value) → Prop
  | nil : RepK C ρ h [] []
  | cons {k x v es ds} : Rep C ρ h x v → RepK C ρ h es ds → RepK C ρ h ((k, x) :: es) ((str k, v) :: ds)
theorem RepK.up {C : Glo} {ρ ρ' : List Addr} {h h' : Heap} (hs : Solids h h') (hp : ρ <+: ρ') : ∀ {x v}, RepK C ρ h x v → RepK C ρ' h' x v
  | _, _, .nil => .nil
  | _, _, .cons a b => .cons (a.up hs hp) (b.up hs hp)

noncomputable def RepO (C : Glo) (ρ : List Addr) (h : Heap) : MO → Addr → Prop
  | .list xs, a => ∃ items n, h.get? a = some (listO items n) ∧ RepL C ρ h xs items ∧ xs.length ≤ line
  | .dict es, a => ∃ kvs, h.DictOf (strKind C.prog C.w) a kvs ∧ RepK C ρ h es kvs ∧ es.length ≤ line

/-- the small heap stands in the heap -/
structure Hp (C : Glo) (ρ : List Addr) (hp : List MO) (h : Heap) : Prop where
  base : C.base.StaysIn h
  len : ρ.length = hp.length
  nodup : ρ.Nodup
  fresh : ∀ a ∈ ρ, C.base.get? a = none
  objs : ∀ (i : Nat) (o : MO) (a : Addr), hp[i]? = some o → ρ[i]? = some a → RepO C ρ h o a

inductive Loc where
  | nm (L : Addr) (x : Str)
  | cl (c : Addr)

structure Fm where
  env : Env
  A : Around
  W : List Addr
  V : List Addr
  lay : Nat → Option Loc
  outer : List Env

noncomputable def Holds (C : Glo) (ρ : List Addr) (h : Heap) : Loc → MV → Prop
  | .nm L x, v => ∃ f w, h.Ns L f ∧ f x = some w ∧ Rep C ρ h v w
  | .cl c, v => ∃ w, h.IsCell c (some w) ∧ Rep C ρ h v w

noncomputable def WOk (h : Heap) (a : Addr) : Prop := ∃ o, h.get? a = some o ∧ ((∃ es n, o.data = .dict es n) ∨ ∃ v, o.data = .cell v)

/-- a frame of a caller -/
noncomputable def OutOk (C : Glo) (ρ W : List Addr) (h : Heap) (env : Env) : Prop :=
  env.scope.kind ≠ .module ∧ ∃ L o es n, env.frame = some L ∧ C.base.get? L = none ∧ L ∉ ρ ∧ L ∉ W ∧ h.get? L = some o ∧ o.cls = .type "frame" ∧ o.data = .dict es n

structure Rel (C : Glo) (F : Fm) (ρ : List Addr) (m : MS) (s : Shared) : Prop where
  hp : Hp C ρ m.heap s.heap
  ns : ∃ f, s.heap.Ns F.env.locals f
  w : ∀ a ∈ F.W ++ F.V, a ∉ ρ ∧ C.base.get? a = none ∧ WOk s.heap a
  vars : ∀ i v, m.get i = some v → ∃ l, F.lay i = some l ∧ Holds C ρ s.heap l v
  cells : ∀ i c, F.lay i = some (.cl c) → ∃ v, s.heap.IsCell c v
  out : ∀ e ∈ F.outer, OutOk C ρ F.W s.heap e
  gens : s.gens = #[]

/-- what a step may do -/
structure Step (W : List Addr) (ρ : List Addr) (s : Shared) (ρ' : List Addr) (s' : Shared) : Prop where
  pre : ρ <+: ρ'
  new : ∀ a ∈ ρ', a ∈ ρ ∨ s.heap.get? a = none
  keep : ∀ a o, s.heap.get? a = some o → a ∉ ρ → a ∉ W → s'.heap.get? a = some o ∨ (o.cls = .type "frame" ∧ ∃ sl, s'.heap.get? a = some { o with slots := sl })
  solid : Solids s.heap s'.heap
  alive : ∀ a o, s.heap.get? a = some o → ∃ o', s'.heap.get? a = some o'
  gens : s'.gens = s.gens
  os : s'.os = s.os

theorem Step.refl (W ρ : List Addr) (s : Shared) : Step W ρ s ρ s := ⟨List.prefix_refl _, fun _ h => .inl h, fun _ _ e _ _ => .inl e, fun _ _ e _ => e, fun _ o e => ⟨o, e⟩, rfl, rfl⟩
theorem Step.trans {W ρ ρ₁ ρ₂ : List Addr} {s s₁ s₂ : Shared} (x : Step W ρ s ρ₁ s₁) (y : Step W ρ₁ s₁ ρ₂ s₂) : Step W ρ s ρ₂ s₂ where
  pre := x.pre.trans y.pre
  new := fun a h => (y.new a h).elim (fun h => x.new a h) fun h => .inr (by
    cases e : s.heap.get? a with
    | none => rfl
    | some o => obtain ⟨o', e'⟩ := x.alive a o e; rw [h] at e'; cases e')
  keep := fun a o e h1 h2 => by
    have h1' : a ∉ ρ₁ := fun h => (x.new a h).elim h1 fun h => by rw [h] at e; cases e
    rcases x.keep a o e h1 h2 with e1 | ⟨hc, sl, e1⟩
    · exact y.keep a o e1 h1' h2
    · rcases y.keep a _ e1 h1' h2 with e2 | ⟨_, sl2, e2⟩
      · exact .inr ⟨hc, sl, e2⟩
      · exact .inr ⟨hc, sl2, e2⟩
  solid := fun a o e h => y.solid a o (x.solid a o e h) h
  alive := fun a o e => let ⟨o', e'⟩ := x.alive a o e; y.alive a o' e'
  gens := y.gens.trans x.gens
  os := y.os.trans x.os

theorem Rep.step {C : Glo} {W ρ ρ' : List Addr} {s s' : Shared} {x : MV} {v : Value} (r : Rep C ρ s.heap x v) (st : Step W ρ s ρ' s') : Rep C ρ' s'.heap x v := r.up st.solid st.pre
theorem RepL.step {C : Glo} {W ρ ρ' : List Addr} {s s' : Shared} {x : List MV} {v : List Value} (r : RepL C ρ s.heap x v) (st : Step W ρ s ρ' s') : RepL C ρ' s'.heap x v := r.up st.solid st.pre

/-- what a raise leaves (none yet) -/
noncomputable def Er (C : Glo) (F : Fm) (X : XM) (ρ : List Addr) (s : Shared) : Value → Shared → Prop := fun _ _ => False
theorem Er.back {C : Glo} {F : Fm} {X : XM} {ρ ρ₁ : List Addr} {s s₁ : Shared} (_st : Step F.W ρ s ρ₁ s₁) : ∀ e s', Er C F X ρ₁ s₁ e s' → Er C F X ρ s e s' := fun _ _ h => h

noncomputable abbrev mod (C : Glo) : Model := model C.prog C.w

/-- what a tree's end is to be -/
noncomputable def Out (C : Glo) (F : Fm) (ρ : List Addr) (s : Shared) (Q : PQ) : Value → Shared → Prop :=
  fun v s' => ∃ ρ' m' x, Step F.W ρ s ρ' s' ∧ Rel C F ρ' m' s' ∧ Rep C ρ' s'.heap x v ∧ Q x m'
theorem Out.back {C : Glo} {F : Fm} {Q : PQ} {ρ ρ₁ : List Addr} {s s₁ : Shared} (st : Step F.W ρ s ρ₁ s₁) : ∀ v s', Out C F ρ₁ s₁ Q v s' → Out C F ρ s Q v s' :=
  fun _ _ ⟨ρ', m', x, a, b⟩ => ⟨ρ', m', x, st.trans a, b⟩
/-- a tree that yields a value -/
noncomputable def WPv (C : Glo) (F : Fm) (X : XM) (t : Sem Value) (Q : PQ) (m : MS) : Prop :=
  ∀ s ρ, Rel C F ρ m s → wpAny (mod C) F.A t (Out C F ρ s Q) (Er C F X ρ s) s
theorem WPv.then {C : Glo} {F : Fm} {X : XM} {t : Sem Value} {Q : PQ} {m : MS} {s : Shared} {ρ : List Addr} {P : Value → Shared → Prop} (h : WPv C F X t Q m) (R : Rel C F ρ m s)
    (k : ∀ ρ₁ s₁ m₁ x v, Step F.W ρ s ρ₁ s₁ → Rel C F ρ₁ m₁ s₁ → Rep C ρ₁ s₁.heap x v → Q x m₁ → P v s₁) : wpAny (mod C) F.A t P (Er C F X ρ s) s :=
  wpAny_mono (h s ρ R) (fun v s₁ ⟨ρ₁, m₁, x, a, b, c, d⟩ => k ρ₁ s₁ m₁ x v a b c d) fun _ _ e => e
theorem backV {C : Glo} {F : Fm} {X : XM} {A : Around} {t : Sem Value} {Q : PQ} {ρ ρ₁ : List Addr} {s s₁ s₂ : Shared} (st : Step F.W ρ s ρ₁ s₁) (h : wpAny (mod C) A t (Out C F ρ₁ s₁ Q) (Er C F X ρ₁ s₁) s₂) :
    wpAny (mod C) A t (Out C F ρ s Q) (Er C F X ρ s) s₂ := wpAny_mono h (Out.back st) (Er.back st)

end Mine
end
section
set_option autoImplicit false
set_option linter.unusedVariables false
namespace Mine
open PySem

noncomputable def Loc.addr : Loc → Addr
  | .nm L _ => L
  | .cl c => c

theorem ns_unique {h : Heap} {a : Addr} {f g : Str → Option Value} (x : h.Ns a f) (y : h.Ns a g) : f = g := by
  obtain ⟨o, es, ep, ho, hd, _, hf⟩ := x
  obtain ⟨o', es', ep', ho', hd', _, hg⟩ := y
  rw [ho] at ho'; cases ho'
  rw [hd] at hd'; cases hd'
  funext n; rw [← hf, ← hg]

theorem ns_data {h h' : Heap} {a : Addr} {f : Str → Option Value} (x : h.Ns a f) (k : ∀ o, h.get? a = some o → ∃ o', h'.get? a = some o' ∧ o'.data = o.data) : h'.Ns a f := by
  obtain ⟨o, es, ep, ho, hd, r⟩ := x
  obtain ⟨o', ho', hd'⟩ := k o ho
  exact ⟨o', es, ep, ho', hd'.trans hd, r⟩
theorem cell_data {h h' : Heap} {a : Addr} {v : Option Value} (x : h.IsCell a v) (k : ∀ o, h.get? a = some o → ∃ o', h'.get? a = some o' ∧ o'.data = o.data) : h'.IsCell a v := by
  obtain ⟨o, ho, hd⟩ := x
  obtain ⟨o', ho', hd'⟩ := k o ho
  exact ⟨o', ho', hd'.trans hd⟩

section
variable {C : Glo} {F : Fm} {ρ ρ' : List Addr} {h h' : Heap} {m : MS} {s s' : Shared}

noncomputable def KeepD (h h' : Heap) (a : Addr) : Prop := ∀ o, h.get? a = some o → ∃ o', h'.get? a = some o' ∧ o'.data = o.data ∧ o'.cls = o.cls
noncomputable def KeepX (h h' : Heap) (a : Addr) : Prop := ∀ o, h.get? a = some o → h'.get? a = some o
theorem KeepX.d {h h' : Heap} {a : Addr} (k : KeepX h h' a) : KeepD h h' a := fun o e => ⟨o, k o e, rfl, rfl⟩
theorem KeepD.e {h h' : Heap} {a : Addr} (k : KeepD h h' a) : ∀ o, h.get? a = some o → ∃ o', h'.get? a = some o' ∧ o'.data = o.data := fun o e => let ⟨o', x, y, _⟩ := k o e; ⟨o', x, y⟩

theorem Holds.up {l : Loc} {v : MV} (x : Holds C ρ h l v) (hs : Solids h h') (hp : ρ <+: ρ') (k : KeepD h h' l.addr) : Holds C ρ' h' l v := by
  cases l with
  | nm L x' => obtain ⟨f, w, hn, e, r⟩ := x; exact ⟨f, w, ns_data hn k.e, e, r.up hs hp⟩
  | cl c => obtain ⟨w, hc, r⟩ := x; exact ⟨w, cell_data hc k.e, r.up hs hp⟩

theorem RepO.up {o : MO} {a : Addr} (x : RepO C ρ h o a) (hs : Solids h h') (hp : ρ <+: ρ') (k : KeepX h h' a) : RepO C ρ' h' o a := by
  cases o with
  | list xs => obtain ⟨items, n, e, l, z⟩ := x; exact ⟨items, n, k _ e, l.up hs hp, z⟩
  | dict es =>
    obtain ⟨kvs, ⟨o, ds, ep, e, r⟩, l, z⟩ := x
    exact ⟨kvs, ⟨o, ds, ep, k _ e, r⟩, l.up hs hp, z⟩

theorem Hp.up {hp : List MO} (x : Hp C ρ hp h) (hs : Solids h h') (k : ∀ a ∈ ρ, KeepX h h' a) (hb : C.base.StaysIn h') : Hp C ρ hp h' :=
  ⟨hb, x.len, x.nodup, x.fresh, fun i o a e1 e2 => (x.objs i o a e1 e2).up hs (List.prefix_refl _) (k a (List.mem_of_getElem? e2))⟩

theorem Hp.alloc {hp : List MO} (x : Hp C ρ hp h) (hs : Solids h h') (k : ∀ a ∈ ρ, KeepX h h' a) (hb : C.base.StaysIn h') {o : MO} {a : Addr} (ha : a ∉ ρ) (hf : C.base.get? a = none)
    (hr : RepO C (ρ ++ [a]) h' o a) : Hp C (ρ ++ [a]) (hp ++ [o]) h' := by
  refine ⟨hb, by simp [x.len], ?_, ?_, ?_⟩
  · exact List.nodup_append.mpr ⟨x.nodup, by simp, fun b hb c hc => by simp at hc; subst hc; exact fun e => ha (e ▸ hb)⟩
  · intro b hb
    rcases List.mem_append.mp hb with hb | hb
    · exact x.fresh b hb
    · simp at hb; subst hb; exact hf
  · intro i o' b e1 e2
    rcases Nat.lt_trichotomy i hp.length with hi | hi | hi
    · rw [List.getElem?_append_left hi] at e1
      rw [List.getElem?_append_left (by rw [x.len]; exact hi)] at e2
      exact (x.objs i o' b e1 e2).up hs (List.prefix_append _ _) (k b (List.mem_of_getElem? e2))
    · subst hi
      rw [List.getElem?_append_right (Nat.le_refl _)] at e1
      rw [← x.len, List.getElem?_append_right (Nat.le_refl _)] at e2
      simp at e1 e2; subst e1; subst e2; exact hr
    · rw [List.getElem?_eq_none (by simp; omega)] at e1; cases e1

theorem Hp.put {hp : List MO} (x : Hp C ρ hp h) (hs : Solids h h') {i : Nat} {a : Addr} (hi : ρ[i]? = some a) (k : ∀ b ∈ ρ, b ≠ a → KeepX h h' b) (hb : C.base.StaysIn h') {o : MO}
    (hr : RepO C ρ h' o a) : Hp C ρ (hp.set i o) h' := by
  refine ⟨hb, by simp [x.len], x.nodup, x.fresh, fun j o' b e1 e2 => ?_⟩
  by_cases e : i = j
  · subst e
    rw [hi] at e2; cases e2
    have hlt : i < hp.length := by rw [← x.len]; exact (List.getElem?_eq_some_iff.mp hi).1
    rw [List.getElem?_set_self hlt] at e1; cases e1
    exact hr
  · rw [List.getElem?_set_ne e] at e1
    refine (x.objs j o' b e1 e2).up hs (List.prefix_refl _) (k b (List.mem_of_getElem? e2) fun q => ?_)
    subst q
    have h1 := (List.getElem?_eq_some_iff.mp hi)
    have h2 := (List.getElem?_eq_some_iff.mp e2)
    exact e ((List.getElem_inj x.nodup).mp (h1.2.trans h2.2.symm))

/-- the frame is well made -/
structure FmOk (F : Fm) : Prop where
  loc : F.env.locals ∈ F.W
  lay : ∀ i l, F.lay i = some l → l.addr ∈ F.W ++ F.V
  inj : ∀ i j l, F.lay i = some l → F.lay j = some l → i = j
  kind : F.env.scope.kind = .function
  hn : F.A.handled = none

theorem Rel.up {hpN : List MO} (x : Rel C F ρ m s) (ok : FmOk F) (hs : Solids s.heap s'.heap) (hpre : ρ <+: ρ') (hH : Hp C ρ' hpN s'.heap) (hnew : ∀ a ∈ ρ', a ∈ ρ ∨ s.heap.get? a = none)
    (hW : ∀ a ∈ F.W ++ F.V, KeepD s.heap s'.heap a) (ho : ∀ e ∈ F.outer, ∀ L, e.frame = some L → KeepD s.heap s'.heap L) (hg : s'.gens = s.gens) : Rel C F ρ' ⟨m.vars, hpN⟩ s' where
  hp := hH
  ns := let ⟨f, hf⟩ := x.ns; ⟨f, ns_data hf (hW _ (List.mem_append_left _ ok.loc)).e⟩
  w := fun a ha => by
    obtain ⟨h1, h2, o, h3, h4⟩ := x.w a ha
    obtain ⟨o', e', d', _⟩ := hW a ha o h3
    refine ⟨fun hm => (hnew a hm).elim h1 fun q => (by rw [q] at h3; cases h3), h2, o', e', by rw [d']; exact h4⟩
  vars := fun i v e => let ⟨l, h1, h2⟩ := x.vars i v e; ⟨l, h1, h2.up hs hpre (hW _ (ok.lay i l h1))⟩
  cells := fun i c e => let ⟨v, h1⟩ := x.cells i c e; ⟨v, cell_data h1 (hW c (ok.lay i _ e)).e⟩
  out := fun e he => by
    obtain ⟨k, L, o, es, n, h1, h2, h3, h4, h5, h6, h7⟩ := x.out e he
    obtain ⟨o', e', d', c'⟩ := ho e he L h1 o h5
    exact ⟨k, L, o', es, n, h1, h2, fun hm => (hnew L hm).elim h3 fun q => (by rw [q] at h5; cases h5), h4, e', c'.trans h6, d'.trans h7⟩
  gens := hg.trans x.gens

/-- all that was there stays -/
theorem Rel.grow (x : Rel C F ρ m s) (ok : FmOk F) (hk : ∀ a o, s.heap.get? a = some o → s'.heap.get? a = some o) (hg : s'.gens = s.gens) (hos : s'.os = s.os) :
    Rel C F ρ m s' ∧ Step F.W ρ s ρ s' :=
  ⟨x.up ok (fun a o e _ => hk a o e) (List.prefix_refl _) (x.hp.up (fun a o e _ => hk a o e) (fun a _ o e => hk a o e) fun b o e => hk b o (x.hp.base b o e)) (fun a h => .inl h) (fun a _ o e => ⟨o, hk a o e, rfl, rfl⟩)
    (fun _ _ L _ o e => ⟨o, hk L o e, rfl, rfl⟩) hg,
   ⟨List.prefix_refl _, fun _ h => .inl h, fun a o e _ _ => .inl (hk a o e), fun a o e _ => hk a o e, fun a o e => ⟨o, hk a o e⟩, hg, hos⟩⟩
theorem Rel.tok (x : Rel C F ρ m s) (ok : FmOk F) (t : Nat) : Rel C F ρ m { s with toks := t } ∧ Step F.W ρ s ρ { s with toks := t } := x.grow ok (fun _ _ e => e) rfl rfl

theorem fresh_at {h : Heap} {a : Addr} (ha : h.objs.size ≤ a) : h.get? a = none := by
  cases e : h.get? a with
  | none => rfl
  | some o => exact absurd (Heap.lt_size e) (Nat.not_lt.mpr ha)

theorem base_fresh (x : Hp C ρ m.heap s.heap) {a : Addr} (ha : s.heap.get? a = none) : C.base.get? a = none := by
  cases e : C.base.get? a with
  | none => rfl
  | some o => have := x.base a o e; rw [ha] at this; cases this
theorem Hp.there (x : Hp C ρ m.heap s.heap) {a : Addr} (ha : a ∈ ρ) : ∃ o, s.heap.get? a = some o := by
  obtain ⟨i, hi, rfl⟩ := List.getElem_of_mem ha
  have hi' : i < m.heap.length := by rw [← x.len]; exact hi
  have := x.objs i m.heap[i] ρ[i] (List.getElem?_eq_getElem hi') (List.getElem?_eq_getElem hi)
  cases hm : m.heap[i] with
  | list xs => rw [hm] at this; obtain ⟨_, _, e, _⟩ := this; exact ⟨_, e⟩
  | dict es => rw [hm] at this; obtain ⟨_, ⟨_, _, _, e, _⟩, _⟩ := this; exact ⟨_, e⟩

/-- a new object of the small heap -/
theorem Rel.alloc (x : Rel C F ρ m s) (ok : FmOk F) (hk : ∀ a o, s.heap.get? a = some o → s'.heap.get? a = some o) (hg : s'.gens = s.gens) (hos : s'.os = s.os)
    {o : MO} {a : Addr} (ha : s.heap.get? a = none) (hr : RepO C (ρ ++ [a]) s'.heap o a) : Rel C F (ρ ++ [a]) (m.push o) s' ∧ Step F.W ρ s (ρ ++ [a]) s' := by
  have hn : ∀ b ∈ ρ ++ [a], b ∈ ρ ∨ s.heap.get? b = none := fun b hb => by
    rcases List.mem_append.mp hb with hb | hb
    · exact .inl hb
    · simp at hb; subst hb; exact .inr ha
  refine ⟨x.up ok (fun a o e _ => hk a o e) (List.prefix_append _ _) (x.hp.alloc (fun a o e _ => hk a o e) (fun a _ o e => hk a o e) (fun b o e => hk b o (x.hp.base b o e)) (fun hm => ?_) (base_fresh x.hp ha) hr) hn
    (fun a _ o e => ⟨o, hk a o e, rfl, rfl⟩) (fun _ _ L _ o e => ⟨o, hk L o e, rfl, rfl⟩) hg, ⟨List.prefix_append _ _, hn, fun a o e _ _ => .inl (hk a o e), fun a o e _ => hk a o e, fun a o e => ⟨o, hk a o e⟩, hg, hos⟩⟩
  obtain ⟨o', e⟩ := x.hp.there hm
  rw [ha] at e; cases e

theorem solids_but {a : Addr} (hk : ∀ b o, b ≠ a → h.get? b = some o → h'.get? b = some o) (ha : ∀ o, h.get? a = some o → ¬ Solid o) : Solids h h' := fun b o e hs => by
  by_cases q : b = a
  · subst q; exact absurd hs (ha o e)
  · exact hk b o q e
theorem repO_not_solid {o : MO} {a : Addr} (x : RepO C ρ h o a) : ∀ ob, h.get? a = some ob → ¬ Solid ob := fun ob e hs => by
  cases o with
  | list xs =>
    obtain ⟨items, n, e', _⟩ := x
    rw [e'] at e; cases e
    rcases hs with ⟨q, _⟩ | ⟨⟨c, q⟩, _⟩ <;> simp at q
  | dict es =>
    obtain ⟨kvs, ⟨o', ds, ep, e', ⟨hc, _⟩, _⟩, _⟩ := x
    rw [e'] at e; cases e
    rcases hs with ⟨q, _⟩ | ⟨⟨c, q⟩, _⟩ <;> rw [hc] at q <;> simp at q
theorem wok_not_solid {a : Addr} (x : WOk h a) : ∀ ob, h.get? a = some ob → ¬ Solid ob := fun ob e hs => by
  obtain ⟨o, e', d⟩ := x
  rw [e'] at e; cases e
  rcases hs with ⟨_, xs, n, q⟩ | ⟨_, q | ⟨vs, q⟩⟩ <;> rcases d with ⟨es, k, d⟩ | ⟨v, d⟩ <;> rw [d] at q <;> cases q

theorem RepO.there {o : MO} {a : Addr} (x : RepO C ρ h o a) : ∃ ob, h.get? a = some ob := by
  cases o with
  | list xs => obtain ⟨_, _, e, _⟩ := x; exact ⟨_, e⟩
  | dict es => obtain ⟨_, ⟨_, _, _, e, _⟩, _⟩ := x; exact ⟨_, e⟩

/-- an object of the small heap is changed -/
theorem Rel.put (x : Rel C F ρ m s) (ok : FmOk F) {i : Nat} {a : Addr} (hi : ρ[i]? = some a) {o₀ o : MO} (h0 : m.heap[i]? = some o₀) (hk : ∀ b ob, b ≠ a → s.heap.get? b = some ob → s'.heap.get? b = some ob) (hg : s'.gens = s.gens) (hos : s'.os = s.os)
    (hr : RepO C ρ s'.heap o a) : Rel C F ρ (m.put i o) s' ∧ Step F.W ρ s ρ s' := by
  have ham : a ∈ ρ := List.mem_of_getElem? hi
  have hs : Solids s.heap s'.heap := solids_but hk (repO_not_solid (x.hp.objs i o₀ a h0 hi))
  have hb : C.base.StaysIn s'.heap := fun b ob e => hk b ob (fun q => by rw [q, x.hp.fresh a ham] at e; cases e) (x.hp.base b ob e)
  refine ⟨x.up ok hs (List.prefix_refl _) (x.hp.put hs hi (fun b hb hne ob e => hk b ob hne e) hb hr) (fun b h => .inl h) (fun b hb ob e => ⟨ob, hk b ob (fun q => (x.w b hb).1 (q ▸ ham)) e, rfl, rfl⟩)
    (fun e he L hL ob eb => ⟨ob, hk L ob (fun q => ?_) eb, rfl, rfl⟩) hg, ⟨List.prefix_refl _, fun b h => .inl h, fun b ob e h1 _ => .inl (hk b ob (fun q => h1 (q ▸ ham)) e), hs, fun b ob e => ?_, hg, hos⟩⟩
  · obtain ⟨_, L', _, _, _, h1, _, h3, _⟩ := x.out e he
    rw [hL] at h1; cases h1
    exact h3 (q ▸ ham)
  · by_cases q : b = a
    · subst q; exact hr.there
    · exact ⟨ob, hk b ob q e⟩

theorem MS.get_set (m : MS) (i j : Nat) (v w : MV) (h : (m.set i v).get j = some w) : (j = i ∧ w = v) ∨ (j ≠ i ∧ m.get j = some w) := by
  unfold MS.get MS.set at h
  simp only at h
  by_cases e : i = j
  · subst e
    rw [List.getElem?_set] at h
    simp only [if_true] at h
    split at h
    · rename_i hh
      split at hh
      · cases hh; cases h; exact .inl ⟨rfl, rfl⟩
      · cases hh
    · cases h
  · rw [List.getElem?_set_ne e] at h
    exact .inr ⟨fun q => e q.symm, h⟩

/-- an object of the frame's own is changed -/
theorem Rel.own (x : Rel C F ρ m s) (ok : FmOk F) {a : Addr} (ha : a ∈ F.W) (hsb : Heap.SameBut a s.heap s'.heap) (hg : s'.gens = s.gens) (hos : s'.os = s.os) {m' : MS} (hm : m'.heap = m.heap)
    (hw : WOk s'.heap a) (hns : ∃ f, s'.heap.Ns F.env.locals f) (hcell : ∀ v, s.heap.IsCell a v → ∃ w, s'.heap.IsCell a w)
    (hv : Solids s.heap s'.heap → ∀ i v, m'.get i = some v → ∃ l, F.lay i = some l ∧ Holds C ρ s'.heap l v) : Rel C F ρ m' s' ∧ Step F.W ρ s ρ s' := by
  have hk : ∀ b ob, b ≠ a → s.heap.get? b = some ob → s'.heap.get? b = some ob := fun b ob q e => (hsb.2 b q).trans e
  have hL := x.w _ (List.mem_append_left _ ha)
  have hs : Solids s.heap s'.heap := solids_but hk (wok_not_solid hL.2.2)
  refine ⟨⟨?_, hns, fun b hb => ?_, hv hs, fun i c e => ?_, fun e he => ?_, hg.trans x.gens⟩, ⟨List.prefix_refl _, fun b h => .inl h, fun b ob e h1 h2 => .inl (hk b ob (fun q => h2 (q ▸ ha)) e), hs, fun b ob e => ?_, hg, hos⟩⟩
  · rw [hm]
    exact x.hp.up hs (fun b hb ob e => hk b ob (fun q => hL.1 (q ▸ hb)) e) fun b ob e => hk b ob (fun q => by rw [q, hL.2.1] at e; cases e) (x.hp.base b ob e)
  · obtain ⟨h1, h2, o, h3, h4⟩ := x.w b hb
    refine ⟨h1, h2, ?_⟩
    by_cases q : b = a
    · subst q; exact hw
    · exact ⟨o, hk b o q h3, h4⟩
  · obtain ⟨v, o, h1, h2⟩ := x.cells i c e
    by_cases q : c = a
    · subst q; exact hcell v ⟨o, h1, h2⟩
    · exact ⟨v, o, hk c o q h1, h2⟩
  · obtain ⟨k, L, o, es, n, h1, h2, h3, h4, h5, h6, h7⟩ := x.out e he
    exact ⟨k, L, o, es, n, h1, h2, h3, h4, hk L o (fun q => h4 (q ▸ ha)) h5, h6, h7⟩
  · by_cases q : b = a
    · subst q; obtain ⟨o, e, _⟩ := hw; exact ⟨o, e⟩
    · exact ⟨ob, hk b ob q e⟩

/-- a name is set -/
theorem Rel.setName (x : Rel C F ρ m s) (ok : FmOk F) {i : Nat} {n : Str} (hi : F.lay i = some (.nm F.env.locals n)) {f : Str → Option Value} {v : Value} {w : MV} (hf : s.heap.Ns F.env.locals f)
    (hn : s'.heap.Ns F.env.locals (fun y => if y = n then some v else f y)) (hsb : Heap.SameBut F.env.locals s.heap s'.heap) (hg : s'.gens = s.gens) (hos : s'.os = s.os) (hr : Rep C ρ s.heap w v) :
    Rel C F ρ (m.set i w) s' ∧ Step F.W ρ s ρ s' := by
  refine x.own ok ok.loc hsb hg hos rfl ?_ ⟨_, hn⟩ (fun v hc => ?_) fun hs j u e => ?_
  · obtain ⟨o, es, ep, ho, hd, _⟩ := hn
    exact ⟨o, ho, .inl ⟨es, ep, hd⟩⟩
  · exfalso
    obtain ⟨o', es, ep, ho, hd, _⟩ := hf
    obtain ⟨o, g1, g2⟩ := hc
    rw [ho] at g1; cases g1; rw [hd] at g2; cases g2
  · rcases MS.get_set m i j w u e with ⟨rfl, rfl⟩ | ⟨hne, e⟩
    · exact ⟨_, hi, _, v, hn, by simp, hr.up hs (List.prefix_refl _)⟩
    · obtain ⟨l, h1, h2⟩ := x.vars j u e
      refine ⟨l, h1, ?_⟩
      by_cases q : l.addr = F.env.locals
      · cases l with
        | nm L y =>
          simp only [Loc.addr] at q; subst q
          obtain ⟨g, z, g1, g2, g3⟩ := h2
          have := ns_unique g1 hf; subst this
          refine ⟨_, z, hn, ?_, g3.up hs (List.prefix_refl _)⟩
          have : y ≠ n := fun q => by subst q; exact hne (ok.inj j i _ h1 hi)
          simp [this, g2]
        | cl c =>
          simp only [Loc.addr] at q; subst q
          exfalso
          obtain ⟨z, ⟨o, g1, g2⟩, _⟩ := h2
          obtain ⟨o', es, ep, ho, hd, _⟩ := hf
          rw [ho] at g1; cases g1; rw [hd] at g2; cases g2
      · exact h2.up hs (List.prefix_refl _) fun o e => ⟨o, (hsb.2 _ q).trans e, rfl, rfl⟩

/-- a captured name is set -/
theorem Rel.setCell (x : Rel C F ρ m s) (ok : FmOk F) {i : Nat} {c : Addr} (hi : F.lay i = some (.cl c)) (hcm : c ∈ F.W) {v₀ : Option Value} {v : Value} {w : MV} (h0 : s.heap.IsCell c v₀)
    (hn : s'.heap.IsCell c (some v)) (hsb : Heap.SameBut c s.heap s'.heap) (hg : s'.gens = s.gens) (hos : s'.os = s.os) (hr : Rep C ρ s.heap w v) :
    Rel C F ρ (m.set i w) s' ∧ Step F.W ρ s ρ s' := by
  refine x.own ok hcm hsb hg hos rfl ?_ ?_ (fun _ _ => ⟨_, hn⟩) fun hs j u e => ?_
  · obtain ⟨o, ho, hd⟩ := hn
    exact ⟨o, ho, .inr ⟨_, hd⟩⟩
  · obtain ⟨f, hf⟩ := x.ns
    refine ⟨f, hf.sameBut hsb fun q => ?_⟩
    obtain ⟨o, es, ep, ho, hd, _⟩ := hf
    obtain ⟨o', g1, g2⟩ := h0
    rw [← q, ho] at g1; cases g1; rw [hd] at g2; cases g2
  · rcases MS.get_set m i j w u e with ⟨rfl, rfl⟩ | ⟨hne, e⟩
    · exact ⟨_, hi, v, hn, hr.up hs (List.prefix_refl _)⟩
    · obtain ⟨l, h1, h2⟩ := x.vars j u e
      refine ⟨l, h1, ?_⟩
      by_cases q : l.addr = c
      · cases l with
        | nm L y =>
          simp only [Loc.addr] at q; subst q
          exfalso
          obtain ⟨g, z, ⟨o, es, ep, ho, hd, _⟩, _⟩ := h2
          obtain ⟨o', g1, g2⟩ := h0
          rw [ho] at g1; cases g1; rw [hd] at g2; cases g2
        | cl c' =>
          simp only [Loc.addr] at q; subst q
          exact absurd (ok.inj j i _ h1 hi) hne
      · exact h2.up hs (List.prefix_refl _) fun o e => ⟨o, (hsb.2 _ q).trans e, rfl, rfl⟩
end
end Mine
end
section
set_option autoImplicit false
set_option linter.unusedVariables false
namespace Mine
open PySem

section
variable {C : Glo} {F : Fm} {X : XM} {ρ : List Addr} {m : MS} {s : Shared} {Q : PQ} {E : Value → Shared → Prop} {A : Around}

theorem small_bits {x : Int} (h : small x) : Builtin.Int.intBits x ≤ 64 := by
  unfold small at h
  refine intBits_le_64 ?_ ?_ <;> omega
theorem fdiv_pos' {x y : Int} (h : 0 < y) : x.fdiv y = x / y := Int.fdiv_eq_ediv_of_nonneg x (Int.le_of_lt h)
theorem fmod_pos' {x y : Int} (h : 0 < y) : x.fmod y = x % y := Int.fmod_eq_emod_of_nonneg x (Int.le_of_lt h)
theorem line_is : line = sizeLine := rfl

/-- an end without a change but for the counter -/
theorem outTok (R : Rel C F ρ m s) (ok : FmOk F) {x : MV} {v : Value} {t : Nat} (hr : Rep C ρ s.heap x v) (h : Q x m) : Out C F ρ s Q v { s with toks := t } :=
  let ⟨R', st⟩ := R.tok ok t; ⟨ρ, m, x, st, R', hr, h⟩
theorem outSame (R : Rel C F ρ m s) {x : MV} {v : Value} (hr : Rep C ρ s.heap x v) (h : Q x m) : Out C F ρ s Q v s := ⟨ρ, m, x, .refl _ _ _, R, hr, h⟩
/-- a new tuple -/
theorem outTup (R : Rel C F ρ m s) (ok : FmOk F) {xs : List MV} {vs : List Value} (hr : RepL C ρ s.heap xs vs) (hz : xs.length ≤ line) (h : Q (.tup xs) m) {t : Nat} :
    Out C F ρ s Q (.ref s.heap.objs.size) { s with heap := s.heap.push (tupO vs 0), toks := t } := by
  obtain ⟨R', st⟩ := R.grow (s' := { s with heap := s.heap.push (tupO vs 0), toks := t }) ok (fun a o e => Heap.get?_push_of_some _ e) rfl rfl
  exact ⟨ρ, m, _, st, R', .tup (Heap.get?_push_size _ rfl) (hr.step st) hz, h⟩
/-- a new list -/
theorem outList (R : Rel C F ρ m s) (ok : FmOk F) {xs : List MV} {vs : List Value} (hr : RepL C ρ s.heap xs vs) (hz : xs.length ≤ line) (h : Q (.ref m.heap.length) (m.push (.list xs))) {t : Nat} :
    Out C F ρ s Q (.ref s.heap.objs.size) { s with heap := s.heap.push (listO vs 0), toks := t } := by
  have hk : ∀ a o, s.heap.get? a = some o → (s.heap.push (listO vs 0)).get? a = some o := fun a o e => Heap.get?_push_of_some _ e
  obtain ⟨R', st⟩ := R.alloc (s' := { s with heap := s.heap.push (listO vs 0), toks := t }) ok hk rfl rfl (o := .list xs) (a := s.heap.objs.size) (fresh_at (Nat.le_refl _))
    ⟨vs, 0, Heap.get?_push_size _ rfl, hr.up (fun a o e _ => hk a o e) (List.prefix_append _ _), hz⟩
  refine ⟨_, _, _, st, R', .ref (i := m.heap.length) ?_, h⟩
  rw [← R.hp.len, List.getElem?_append_right (Nat.le_refl _)]; simp

theorem str_append (x y : List Nat) : str x ++ str y = str (x ++ y) := by
  show (⟨x.toArray ++ y.toArray⟩ : Str) = ⟨(x ++ y).toArray⟩
  simp
theorem str_length (x : List Nat) : (str x).length = x.length := by simp [Str.length]
theorem str_cps (x : List Nat) : (str x).cps.toList = x := by simp

noncomputable def opIs : Op → Operator
  | .add => .Add | .sub => .Sub | .mul => .Mult | .fdiv => .FloorDiv | .mod => .Mod | .pow => .Pow

theorem add_tup_ok (R : Rel C F ρ m s) (ok : FmOk F) {x y : List MV} {v w : Value} (hx : Rep C ρ s.heap (.tup x) v) (hy : Rep C ρ s.heap (.tup y) w) (h : x.length + y.length ≤ line ∧ Q (.tup (x ++ y)) m) :
    wpAny (mod C) A (binaryOp .Add v w) (Out C F ρ s Q) E s := by
  obtain ⟨hl, hq⟩ := h
  have hx' := hx
  have hy' := hy
  cases hx with | @tup t n _ vs gx lx zx => cases hy with | @tup b n2 _ ws gy ly zy =>
  have e : vs.toArray ++ ws.toArray = (vs ++ ws).toArray := by simp
  by_cases hv : vs = []
  · subst hv
    cases lx
    exact concat_meets ⟨_, gx, rfl⟩ ⟨_, gy, rfl⟩ noFill_tuple_add seq_tuple_add PySem.F.slot_tuple_add PySem.F.entry_tuple_add (PySem.F.args_tuple_add_2 _ _)
      (PyProof.Rows.tuple_addW0 t b ([] : List Value).toArray ws.toArray n n2 none none #[] #[] (by simp)) ⟨gx, gy, outSame R hy' hq⟩
  · by_cases hw : ws = []
    · subst hw
      cases ly
      exact concat_meets ⟨_, gx, rfl⟩ ⟨_, gy, rfl⟩ noFill_tuple_add seq_tuple_add PySem.F.slot_tuple_add PySem.F.entry_tuple_add (PySem.F.args_tuple_add_2 _ _)
        (PyProof.Rows.tuple_addW1 t b vs.toArray ([] : List Value).toArray n n2 none none #[] #[] (by simpa using hv) (by simp)) ⟨gx, gy, outSame R hx' (by simpa using hq)⟩
    · refine concat_meets ⟨_, gx, rfl⟩ ⟨_, gy, rfl⟩ noFill_tuple_add seq_tuple_add PySem.F.slot_tuple_add PySem.F.entry_tuple_add (PySem.F.args_tuple_add_2 _ _)
        (PyProof.Rows.tuple_addW2 t b vs.toArray ws.toArray n n2 none none #[] #[] (by simpa using hv) (by simpa using hw) (by rw [List.size_toArray, List.size_toArray, lx.length, ly.length]; exact hl)) ⟨gx, gy, ?_⟩
      rw [e]
      exact outTup R ok (lx.append ly) (by simpa using hl) hq

theorem num_ok (R : Rel C F ρ m s) (ok : FmOk F) {op : Op} (hop : op ≠ .add) {x y : Int} {t u : Tok} (h : wpInt2 op x y Q m) : wpAny (mod C) A (binaryOp (opIs op) (.int x t) (.int y u)) (Out C F ρ s Q) E s := by
  cases op with
  | add => exact absurd rfl hop
  | sub => exact PyProof.Rows.sub_int' (outTok R ok (.int _ _) h)
  | mul => exact PyProof.Rows.mul_int (outTok R ok (.int _ _) h.2) (h.1.elim (fun h => .of_left (small_bits h)) fun h => .of_right (small_bits h))
  | fdiv =>
    refine PyProof.Rows.floordiv_int (Int.ne_of_gt h.1.1) ?_ (.inl (PyProof.noPylong_small (by have := h.1; omega)))
    rw [fdiv_pos' h.1.1]; exact outTok R ok (.int _ _) h.2
  | mod =>
    refine PyProof.Rows.mod_int' (Int.ne_of_gt h.1) ?_
    rw [fmod_pos' h.1]; exact outTok R ok (.int _ _) h.2
  | pow =>
    obtain ⟨⟨rfl, hy⟩, hq⟩ := h
    exact PyProof.Rows.pow_int_small (by omega) (by omega) (by decide) (outTok R ok (.int _ _) hq)
theorem num_of {op : Op} {x y : MV} {v w : Value} (hx : Rep C ρ s.heap x v) (hy : Rep C ρ s.heap y w) (h : wpNum op x y Q m) : ∃ a b t u, v = .int a t ∧ w = .int b u ∧ wpInt2 op a b Q m := by
  cases hx with
  | int a t =>
    cases hy with
    | int b u => exact ⟨a, b, t, u, rfl, rfl, h⟩
    | _ => exact (show False from h).elim
  | _ => exact (show False from h).elim
theorem add_ok (R : Rel C F ρ m s) (ok : FmOk F) {x y : MV} {v w : Value} (hx : Rep C ρ s.heap x v) (hy : Rep C ρ s.heap y w) (h : wpAdd x y Q m) : wpAny (mod C) A (binaryOp (opIs .add) v w) (Out C F ρ s Q) E s := by
  cases hx with
  | int a t =>
    cases hy with
    | int b u => exact wpAny_add_int (outTok R ok (.int _ _) h)
    | _ => exact (show False from h).elim
  | str a t zx =>
    cases hy with
    | str b u zy =>
      have h : a.length + b.length ≤ line ∧ Q (.str (a ++ b)) m := h
      refine P.add_str ?_
      rw [str_length, str_length]
      by_cases ea : a = []
      · subst ea; exact outSame R (.str b u zy) (by simpa using h.2)
      · by_cases eb : b = []
        · subst eb; rw [if_neg (by simpa using ea), if_pos (by simp)]; exact outSame R (.str a t zx) (by simpa using h.2)
        · rw [if_neg (by simpa using ea), if_neg (by simpa using eb), str_append]
          refine ⟨by rw [str_length, List.length_append]; exact h.1, outTok R ok (.str _ _ (by rw [List.length_append]; exact h.1)) h.2⟩
    | _ => exact (show False from h).elim
  | tup g l z =>
    cases hy with
    | tup g' l' z' => exact add_tup_ok R ok (.tup g l z) (.tup g' l' z') h
    | _ => exact (show False from h).elim
  | ref ea =>
    cases hy with
    | ref eb =>
      simp only [wpAdd] at h
      split at h
      · rename_i x y e1 e2
        obtain ⟨ix, nx, gx, lx, zx⟩ := R.hp.objs _ _ _ e1 ea
        obtain ⟨iy, ny, gy, ly, zy⟩ := R.hp.objs _ _ _ e2 eb
        have e : ix.toArray ++ iy.toArray = (ix ++ iy).toArray := by simp
        refine P.add_list gx gy ?_ (by simp only [List.size_toArray, lx.length, ly.length]; exact h.1)
        rw [e]
        exact outList R ok (lx.append ly) (by rw [List.length_append]; exact h.1) h.2
      · exact h.elim
    | _ => exact (show False from h).elim
  | _ => exact (show False from h).elim
theorem bin_ok (R : Rel C F ρ m s) (ok : FmOk F) {op : Op} {x y : MV} {v w : Value} (hx : Rep C ρ s.heap x v) (hy : Rep C ρ s.heap y w) (h : wpBin op x y Q m) :
    wpAny (mod C) A (binaryOp (opIs op) v w) (Out C F ρ s Q) E s := by
  by_cases hop : op = .add
  · subst hop; exact add_ok R ok hx hy h
  · have h : wpNum op x y Q m := by cases op <;> first | exact h | exact absurd rfl hop
    obtain ⟨a, b, t, u, rfl, rfl, h⟩ := num_of hx hy h
    exact num_ok R ok hop h
end
end Mine
end
section
set_option autoImplicit false
set_option linter.unusedVariables false
namespace Mine
open PySem

mutual
noncomputable def D.py : D → PyData
  | .none => .none
  | .bool b => .bool b
  | .int i => .int i
  | .str s => .str (Mine.str s)
  | .list xs => .list (D.pys xs)
  | .tup xs => .tuple (D.pys xs)
noncomputable def D.pys : List D → List PyData
  | [] => []
  | x :: xs => D.py x :: D.pys xs
end

theorem str_eq_iff {x y : List Nat} : (Mine.str x == Mine.str y) = (x == y) := by
  rw [Bool.eq_iff_iff]; simp
mutual
theorem D.eqv_py : ∀ (d e : D), PyData.eqv d.py e.py = d.deq e
  | .none, e => by cases e <;> simp [D.py, PyData.eqv, D.deq]
  | .bool b, e => by cases e <;> simp [D.py, PyData.eqv, D.deq]
  | .int b, e => by cases e <;> simp [D.py, PyData.eqv, D.deq]
  | .str b, e => by
    cases e with
    | str c => simp only [D.py, PyData.eqv, D.deq]; exact str_eq_iff
    | _ => simp [D.py, PyData.eqv, D.deq]
  | .list xs, e => by
    cases e with
    | list ys => simp only [D.py, PyData.eqv, D.deq]; exact D.eqvs_py xs ys
    | _ => simp [D.py, PyData.eqv, D.deq]
  | .tup xs, e => by
    cases e with
    | tup ys => simp only [D.py, PyData.eqv, D.deq]; exact D.eqvs_py xs ys
    | _ => simp [D.py, PyData.eqv, D.deq]
theorem D.eqvs_py : ∀ (d e : List D), PyData.eqvAll (D.pys d) (D.pys e) = D.deqs d e
  | [], [] => by simp [D.pys, PyData.eqvAll, D.deqs]
  | [], _ :: _ => by simp [D.pys, PyData.eqvAll, D.deqs]
  | _ :: _, [] => by simp [D.pys, PyData.eqvAll, D.deqs]
  | x :: xs, y :: ys => by simp only [D.pys, PyData.eqvAll, D.deqs]; rw [D.eqv_py x y, D.eqvs_py xs ys]
end
mutual
theorem D.lay_py : ∀ (d : D), d.ok = true → d.py.canLay0 = true
  | .none, _ => rfl
  | .bool b, _ => rfl
  | .int b, _ => rfl
  | .str b, h => by
    simp only [D.ok, List.all_eq_true, decide_eq_true_eq] at h
    simp only [D.py, PyData.canLay0, PyData.strOk, List.all_toArray, List.all_eq_true, decide_eq_true_eq]
    intro c hc; have := h c hc; omega
  | .list xs, h => by simp only [D.ok] at h; simp only [D.py, PyData.canLay0]; exact D.lays_py xs h
  | .tup xs, h => by simp only [D.ok] at h; simp only [D.py, PyData.canLay0]; exact D.lays_py xs h
theorem D.lays_py : ∀ (d : List D), D.oks d = true → PyData.canLayAll0 (D.pys d) = true
  | [], _ => rfl
  | x :: xs, h => by
    simp only [D.oks, Bool.and_eq_true] at h
    simp only [D.pys, PyData.canLayAll0, D.lay_py x h.1, D.lays_py xs h.2, Bool.and_self]
end
mutual
theorem D.depth_py : ∀ (d : D), d.py.depth = d.deep
  | .none => rfl
  | .bool b => rfl
  | .int b => rfl
  | .str b => rfl
  | .list xs => by simp only [D.py, PyData.depth, D.deep, D.depths_py xs]
  | .tup xs => by simp only [D.py, PyData.depth, D.deep, D.depths_py xs]
theorem D.depths_py : ∀ (d : List D), PyData.depthAll (D.pys d) = D.deeps d
  | [] => rfl
  | x :: xs => by simp only [D.pys, PyData.depthAll, D.deeps, D.depth_py x, D.depths_py xs]
end

section
variable {C : Glo} {F : Fm} {X : XM} {ρ : List Addr} {m : MS} {s : Shared} {E : Value → Shared → Prop} {A : Around} {h : Heap} {hp : List MO}

mutual
theorem Rd.reads (H : Hp C ρ hp h) : ∀ {x : MV} {d : D} {v : Value}, Rd hp x d → Rep C ρ h x v → ∃ as, Reads h v d.py as
  | _, _, _, .none, .none => ⟨_, .none⟩
  | _, _, _, .bool b, .bool _ => ⟨_, .bool b⟩
  | _, _, _, .int i, .int _ t => ⟨_, .int i t⟩
  | _, _, _, .str i, .str _ t _ => ⟨_, .str _ t⟩
  | _, _, _, .tup l, .tup e r _ => by
    obtain ⟨as, q⟩ := Rds.reads H l r
    exact ⟨_, .tuple e rfl rfl (by simpa using q)⟩
  | _, _, _, .list hi l, .ref e => by
    obtain ⟨items, n, g, r, _⟩ := H.objs _ _ _ hi e
    obtain ⟨as, q⟩ := Rds.reads H l r
    exact ⟨_, .list g rfl rfl (by simpa using q)⟩
theorem Rds.reads (H : Hp C ρ hp h) : ∀ {x : List MV} {d : List D} {v : List Value}, Rds hp x d → RepL C ρ h x v → ∃ as, ReadsAll h v (D.pys d) as
  | _, _, _, .nil, .nil => ⟨_, .nil⟩
  | _, _, _, .cons a b, .cons r l => by
    obtain ⟨as, q⟩ := Rd.reads H a r
    obtain ⟨bs, q'⟩ := Rds.reads H b l
    exact ⟨_, .cons q q'⟩
end

/-- a comparison's end -/
noncomputable def OutB (s : Shared) (P : Bool → Prop) : Value → Shared → Prop := fun r s' => ∃ b t, r = .bool b ∧ s' = { s with toks := t } ∧ P b

theorem eqP_ok (R : Hp C ρ hp s.heap) {x y : MV} {v w : Value} (hx : Rep C ρ s.heap x v) (hy : Rep C ρ s.heap y w) {d e : D} (hd : Rd hp x d) (he : Rd hp y e) (hk : d.deep ≤ 1000) (h1 : d.ok = true) (h2 : e.ok = true)
    (hu : A.units + 1000 < cLine) {P : Bool → Prop} (h : P (d.deq e)) : wpAny (mod C) A (compareOp .Eq v w) (OutB s P) E s := by
  obtain ⟨as, ra⟩ := hd.reads R hx
  obtain ⟨bs, rb⟩ := he.reads R hy
  refine SeqAt.compareEq_reads ra rb (d.lay_py h1) (e.lay_py h2) ?_ ⟨_, s.toks, rfl, rfl, ?_⟩
  · rw [D.depth_py, D.depth_py]; omega
  · rw [D.eqv_py]; exact h
theorem neP_ok (R : Hp C ρ hp s.heap) {x y : MV} {v w : Value} (hx : Rep C ρ s.heap x v) (hy : Rep C ρ s.heap y w) {d e : D} (hd : Rd hp x d) (he : Rd hp y e) (hk : d.deep ≤ 1000) (h1 : d.ok = true) (h2 : e.ok = true)
    (hu : A.units + 1000 < cLine) {P : Bool → Prop} (h : P (!d.deq e)) : wpAny (mod C) A (compareOp .NotEq v w) (OutB s P) E s := by
  obtain ⟨as, ra⟩ := hd.reads R hx
  obtain ⟨bs, rb⟩ := he.reads R hy
  refine SeqAt.compareNe_reads ra rb (d.lay_py h1) (e.lay_py h2) ?_ ⟨_, s.toks, rfl, rfl, ?_⟩
  · rw [D.depth_py, D.depth_py]; omega
  · rw [D.eqv_py]; exact h

open SeqAt in
theorem aeq_ok {x y : MV} {v w : Value} (hx : Rep C ρ s.heap x v) (hy : Rep C ρ s.heap y w) {b : Bool} (h : aeq x y = some b) : RcAt A s v w b ∧ RcNeAt A s v w (!b) := by
  cases hx with
  | none =>
    cases hy with
    | none => cases h; exact ⟨RcAt.none_none, RcNeAt.none_none⟩
    | bool q => cases h; exact ⟨RcAt.none_bool q, RcNeAt.none_bool q⟩
    | int q qt => cases h; exact ⟨RcAt.none_int q qt, RcNeAt.none_int q qt⟩
    | str q qt qz => cases h; exact ⟨RcAt.none_str (Mine.str q) qt, RcNeAt.none_str (Mine.str q) qt⟩
    | _ => cases h
  | bool p =>
    cases hy with
    | none => cases h; exact ⟨RcAt.bool_none p, RcNeAt.bool_none p⟩
    | bool q => cases h; exact ⟨RcAt.bool_bool p q, RcNeAt.bool_bool p q⟩
    | int q qt => cases h
    | str q qt qz => cases h; exact ⟨RcAt.bool_str p (Mine.str q) qt, RcNeAt.bool_str p (Mine.str q) qt⟩
    | _ => cases h
  | int p pt =>
    cases hy with
    | none => cases h; exact ⟨RcAt.int_none p pt, RcNeAt.int_none p pt⟩
    | bool q => cases h
    | int q qt => cases h; exact ⟨RcAt.int_int p pt q qt, RcNeAt.int_int p pt q qt⟩
    | str q qt qz => cases h; exact ⟨RcAt.int_str p pt (Mine.str q) qt, RcNeAt.int_str p pt (Mine.str q) qt⟩
    | _ => cases h
  | str p pt pz =>
    cases hy with
    | none => cases h; exact ⟨RcAt.str_none (Mine.str p) pt, RcNeAt.str_none (Mine.str p) pt⟩
    | bool q => cases h; exact ⟨RcAt.str_bool (Mine.str p) pt q, RcNeAt.str_bool (Mine.str p) pt q⟩
    | int q qt => cases h; exact ⟨RcAt.str_int (Mine.str p) pt q qt, RcNeAt.str_int (Mine.str p) pt q qt⟩
    | str q qt qz => cases h; rw [← str_eq_iff]; exact ⟨RcAt.str_str (Mine.str p) pt (Mine.str q) qt, RcNeAt.str_str (Mine.str p) pt (Mine.str q) qt⟩
    | _ => cases h
  | _ => cases hy <;> cases h

end
end Mine
end
section
set_option autoImplicit false
set_option linter.unusedVariables false
namespace Mine
open PySem PyProof.Rows

section
variable {prog : Program} {w : World} {K : Type} [DecidableEq K] {knd : KeyKind prog w K} {A : Around} {E : Value → Shared → Prop} {s : Shared}

theorem pairs_at {es : List DictEntry} {kvs : List (K × Value)} (h : Pairs knd es kvs) : ∀ {i : Nat} {e : DictEntry}, es[i]? = some e → ∃ kv, kvs[i]? = some kv ∧ knd.is kv.1 e.key = true ∧ e.val = kv.2 := by
  induction h with
  | nil => intro i e q; simp at q
  | cons h1 h2 _ ih =>
    intro i e q
    cases i with
    | zero => simp at q; subst q; exact ⟨_, rfl, h1, h2⟩
    | succ i => simp only [List.getElem?_cons_succ] at q ⊢; exact ih q

/-- two dicts with the same rows -/
theorem same_pairs {nm : String} {a b : Addr} {ka kb : List (K × Value)} {Q : Bool → Shared → Prop} (ha : (a == sysModules) = false) (hb : (b == sysModules) = false) (da : s.heap.DictOf knd a ka) (db : s.heap.DictOf knd b kb)
    (hl : ka.length = kb.length) (hv : ∀ p ∈ ka, ∃ y, valueAt kb p.1 = some y ∧ SeqAt.EqAt A s p.2 y true) (h : Q true s) : wpAny (model prog w) A (Builtin.Dict.samePairs nm a b) Q E s := by
  obtain ⟨oa, ea, epa, goa, _, gda, gka, gpa, _⟩ := da
  obtain ⟨ob, eb, epb, gob, _, gdb, gkb, gpb, _⟩ := db
  have la : ea.size = ka.length := by rw [← gpa.length, Array.length_toList]
  have lb : eb.size = kb.length := by rw [← gpb.length, Array.length_toList]
  unfold Builtin.Dict.samePairs Builtin.Dict.showsAll
  simp only [ha, hb, Bool.false_eq_true, if_false]
  refine wpAny_bind (wpAny_pure (wpAny_bind (wpAny_pure (wpAny_bind (wpAny_dictEntries goa gda (wpAny_bind (wpAny_dictEntries gob gdb ?_)))))))
  have hne : (ea.size != eb.size) = false := by simp [la, lb, hl]
  simp only [hne, Bool.false_eq_true, if_false]
  refine wpAny_bind (wpAny_dictEpoch goa gda (wpAny_bind ?_))
  rw [Std.Legacy.Range.forIn_eq_forIn_range']
  refine wpAny_forIn_list _ (fun rest q s' => s' = s ∧ q = (none, ()) ∧ ∀ i ∈ rest, i < ea.size) _ ?_ ?_ _ _ ⟨rfl, rfl, fun i hi => by simp [Std.Legacy.Range.size, List.mem_range'] at hi; omega⟩
  · intro x rest q s' hI
    obtain ⟨rfl, rfl, hlt⟩ := hI
    have hx : x < ea.size := hlt x (List.mem_cons_self ..)
    have hx' : x < ka.length := by rw [← la]; exact hx
    refine wpAny_bind (wpAny_dictEntries goa gda ?_)
    rw [Array.getElem?_eq_getElem hx]
    obtain ⟨⟨k, v⟩, e1, e2, e3⟩ := pairs_at gpa (i := x) (e := ea[x]) (by rw [Array.getElem?_toList]; exact Array.getElem?_eq_getElem hx)
    obtain ⟨y, hy, heq⟩ := hv (k, v) (List.mem_of_getElem? e1)
    obtain ⟨k', hk', hh⟩ := gka ea[x] (Array.getElem_mem hx)
    have hkk := knd.inj _ _ _ hk' e2
    dsimp only at e2 e3 hkk ⊢
    subst hkk
    rw [hh]
    refine wpAny_bind (wpAny_holding (wpAny_bind (wpAny_dictFind_of e2 gob gdb gkb ?_)))
    have hl2 : (eb.findIdx? fun e => knd.is k' e.key) = eb.toList.findIdx? fun e => knd.is k' e.key := by obtain ⟨l⟩ := eb; simp
    rw [hl2]
    cases hj : eb.toList.findIdx? fun e => knd.is k' e.key with
    | none =>
      exfalso
      have := gpb.find k'
      rw [List.findIdx?_eq_none_iff] at hj
      rw [List.find?_eq_none.mpr (fun e he => by simpa using hj e he), hy] at this
      cases this
    | some j =>
      obtain ⟨f, hf, _, hfv⟩ := gpb.at hj
      rw [hy] at hfv
      cases hfv
      refine wpAny_bind (wpAny_dictEntries gob gdb ?_)
      have hf' : eb[j]? = some f := by rw [← Array.getElem?_toList]; exact hf
      rw [hf']
      refine wpAny_holding ?_
      rw [e3]
      refine heq prog w _ _ ?_
      show wpAny _ _ (dictEpoch a >>= _) _ _ _
      refine wpAny_bind (wpAny_dictEpoch goa gda ?_)
      simp only [bne_self_eq_false, Bool.false_eq_true, if_false]
      exact wpAny_pure ⟨rfl, rfl, fun i hi => hlt i (List.mem_cons_of_mem _ hi)⟩
  · intro q s' hI
    obtain ⟨rfl, rfl, _⟩ := hI
    exact wpAny_pure h

theorem dict_eq {a b : Addr} {ka kb : List (K × Value)} {Q : Value → Shared → Prop} (ha : (a == sysModules) = false) (hb : (b == sysModules) = false) (da : s.heap.DictOf knd a ka) (db : s.heap.DictOf knd b kb) (hu : A.units < cLine)
    (hl : ka.length = kb.length) (hv : ∀ p ∈ ka, ∃ y, valueAt kb p.1 = some y ∧ SeqAt.EqAt A.in1 s p.2 y true) :
    (Q (.bool true) s → wpAny (model prog w) A (compareOp .Eq (.ref a) (.ref b)) Q E s) ∧ (Q (.bool false) s → wpAny (model prog w) A (compareOp .NotEq (.ref a) (.ref b)) Q E s) := by
  constructor
  · intro h
    refine wpAny_richCompare_same_room (op := .Eq) da.typeIs db.typeIs PySem.F.slot_dict_eq (wpAny_call_entry PySem.F.slot_dict_eq da.typeIs PySem.F.entry_dict_eq ?_ (PySem.F.args_dict_eq_2 _ _)) hu
    show wpAny _ _ (Builtin.Dict.dictSlotArgs "__eq__" ⟨[.ref a, .ref b], []⟩ >>= _) _ _ s
    unfold Builtin.Dict.dictSlotArgs
    refine wpAny_bind (wpAny_bind (wpAny_notOrdered_dict da.typeIs (wpAny_pure ?_)))
    refine wpAny_bind (wpAny_isInstance (T := "dict") db.typeIs PySem.F.sub_dict_dict ?_)
    simp only [Bool.not_true, Bool.false_eq_true, if_false]
    refine wpAny_bind (wpAny_pure (wpAny_bind (wpAny_pure (wpAny_bind (same_pairs ha hb da db hl hv ?_)))))
    exact wpAny_pure ⟨_, rfl, (fun q => nomatch q), h⟩
  · intro h
    refine wpAny_richCompare_same_room (op := .NotEq) da.typeIs db.typeIs PySem.F.slot_dict_ne (wpAny_call_entry PySem.F.slot_dict_ne da.typeIs PySem.F.entry_dict_ne ?_ (PySem.F.args_dict_ne_2 _ _)) hu
    show wpAny _ _ (Builtin.Dict.dictSlotArgs "__ne__" ⟨[.ref a, .ref b], []⟩ >>= _) _ _ s
    unfold Builtin.Dict.dictSlotArgs
    refine wpAny_bind (wpAny_bind (wpAny_notOrdered_dict da.typeIs (wpAny_pure ?_)))
    refine wpAny_bind (wpAny_isInstance (T := "dict") db.typeIs PySem.F.sub_dict_dict ?_)
    simp only [Bool.not_true, Bool.false_eq_true, if_false]
    refine wpAny_bind (wpAny_pure (wpAny_bind (wpAny_pure (wpAny_bind (same_pairs ha hb da db hl hv ?_)))))
    exact wpAny_pure ⟨_, rfl, (fun q => nomatch q), h⟩
end
end Mine
end
section
set_option autoImplicit false
set_option linter.unusedVariables false
namespace Mine
open PySem

/-- what the top gives -/
structure GOk (C : Glo) : Prop where
  sys : (C.base.get? sysModules).isSome = true
  nolimit : C.base.NoLimit
  fns : ∀ f a, C.fa f = some a → ∃ o fd, C.base.get? a = some o ∧ o.data = .func fd

section
variable {C : Glo} {F : Fm} {X : XM} {ρ : List Addr} {m : MS} {s : Shared} {E : Value → Shared → Prop} {A : Around} {h : Heap} {hp : List MO}

theorem not_sys (G : GOk C) (H : Hp C ρ hp h) {a : Addr} (ha : a ∈ ρ) : (a == sysModules) = false := by
  have := H.fresh a ha
  cases e : a == sysModules with
  | false => rfl
  | true =>
    have : a = sysModules := by simpa using e
    subst this
    have g := G.sys
    rw [H.fresh _ ha] at g
    cases g

theorem RepK.length : ∀ {es : List (List Nat × MV)} {kvs : List (Str × Value)}, RepK C ρ h es kvs → kvs.length = es.length
  | _, _, .nil => rfl
  | _, _, .cons _ b => by simp [b.length]
theorem str_inj {x y : List Nat} (e : str x = str y) : x = y := by
  have : (str x).cps.toList = (str y).cps.toList := by rw [e]
  simpa using this
theorem RepK.get : ∀ {es : List (List Nat × MV)} {kvs : List (Str × Value)}, RepK C ρ h es kvs → ∀ k : List Nat, match dget es k with
    | some x => ∃ v, valueAt kvs (str k) = some v ∧ Rep C ρ h x v
    | none => valueAt kvs (str k) = none
  | _, _, .nil, k => rfl
  | _, _, @RepK.cons _ _ _ k' x v es ds a b, k => by
    have ih := b.get k
    unfold dget
    by_cases e : k' = k
    · subst e
      simp only [beq_self_eq_true]
      exact ⟨v, by simp [valueAt], a⟩
    · have e2 : ¬ str k' = str k := fun q => e (str_inj q)
      have e1 : (k' == k) = false := by simpa using e
      have ev : valueAt ((str k', v) :: ds) (str k) = valueAt ds (str k) := by simp [valueAt, e2]
      simp only [e1, ev]
      exact ih

theorem rows_same {es : List (List Nat × MV)} {ka kb : List (Str × Value)} (r : RepK C ρ h es ka) (hi : ∀ e ∈ es, ∃ k, e.2 = .int k)
    (hv : ∀ p ∈ es, ∀ k, p.2 = .int k → ∃ t, valueAt kb (str p.1) = some (.int k t)) : ∀ p ∈ ka, ∃ y, valueAt kb p.1 = some y ∧ SeqAt.EqAt A s p.2 y true := by
  induction r with
  | nil => intro p hp; cases hp
  | @cons k x v es ds a b ih =>
    intro p hp
    rcases List.mem_cons.mp hp with rfl | hp
    · obtain ⟨i, hx⟩ := hi _ (List.mem_cons_self ..)
      simp only at hx
      subst hx
      cases a with
      | int _ t =>
        obtain ⟨t', e⟩ := hv _ (List.mem_cons_self ..) i rfl
        exact ⟨_, e, by have := SeqAt.EqAt.int_int (A := A) (s := s) i t i t'; simpa using this⟩
    · exact ih (fun p hp => hi p (List.mem_cons_of_mem _ hp)) (fun p hp => hv p (List.mem_cons_of_mem _ hp)) p hp

theorem dget_mem : ∀ {es : List (List Nat × MV)}, (es.map (·.1)).Nodup → ∀ p ∈ es, dget es p.1 = some p.2
  | [], _, p, hp => by simp at hp
  | (k, x) :: r, hn, p, hp => by
    simp only [List.map_cons, List.nodup_cons] at hn
    unfold dget
    rcases List.mem_cons.mp hp with rfl | hp
    · simp
    · have : (k == p.1) = false := by
        cases e : k == p.1 with
        | false => rfl
        | true => exact absurd (List.mem_map.mpr ⟨p, hp, (by simpa using e : k = p.1).symm⟩) hn.1
      simp only [this]
      exact dget_mem hn.2 p hp

theorem eqDict_ok (G : GOk C) (R : Hp C ρ hp s.heap) {i j : Nat} {v w : Value} (hx : Rep C ρ s.heap (.ref i) v) (hy : Rep C ρ s.heap (.ref j) w) {es : List (List Nat × MV)} (hi : hp[i]? = some (.dict es)) (hj : hp[j]? = some (.dict es))
    (hl : ∀ e ∈ es, ∃ k, e.2 = .int k) (hn : (es.map (·.1)).Nodup) (hu : A.units < cLine) {Q : Value → Shared → Prop} :
    (Q (.bool true) s → wpAny (mod C) A (compareOp .Eq v w) Q E s) ∧ (Q (.bool false) s → wpAny (mod C) A (compareOp .NotEq v w) Q E s) := by
  cases hx with | ref ex => cases hy with | ref ey =>
  obtain ⟨ka, da, ra, _⟩ := R.objs _ _ _ hi ex
  obtain ⟨kb, db, rb, _⟩ := R.objs _ _ _ hj ey
  have sa := not_sys G R (List.mem_of_getElem? ex)
  have sb := not_sys G R (List.mem_of_getElem? ey)
  have el : ka.length = kb.length := by rw [ra.length, rb.length]
  exact dict_eq sa sb da db hu el (rows_same (kb := kb) ra hl fun p hp k hk => by
    have := rb.get p.1
    rw [dget_mem hn p hp, hk] at this
    obtain ⟨v, e, r⟩ := this
    cases r with | int _ t => exact ⟨t, e⟩)
end
end Mine
end
section
set_option autoImplicit false
set_option linter.unusedVariables false
namespace Mine
open PySem

section
variable {C : Glo} {F : Fm} {X : XM} {ρ : List Addr} {m : MS} {s : Shared} {Q : PQ} {E : Value → Shared → Prop} {A : Around} {h : Heap} {hp : List MO}

theorem Rds.get : ∀ {xs : List MV} {ds : List D}, Rds hp xs ds → ∀ {j : Nat} {x : MV}, xs[j]? = some x → ∃ d, ds[j]? = some d ∧ Rd hp x d
  | _, _, .nil, _, _, e => by simp at e
  | _, _, .cons a b, 0, _, e => by simp at e; subst e; exact ⟨_, rfl, a⟩
  | _, _, .cons a b, i + 1, x, e => by
    simp only [List.getElem?_cons_succ] at e ⊢
    exact b.get e
theorem Rds.length : ∀ {xs : List MV} {ds : List D}, Rds hp xs ds → ds.length = xs.length
  | _, _, .nil => rfl
  | _, _, .cons a b => by simp [b.length]
theorem oks_get : ∀ {ds : List D}, D.oks ds = true → ∀ {j : Nat} {d : D}, ds[j]? = some d → d.ok = true
  | [], _, _, _, e => by simp at e
  | d :: ds, h, 0, _, e => by simp at e; subst e; simp only [D.oks, Bool.and_eq_true] at h; exact h.1
  | d :: ds, h, i + 1, _, e => by
    simp only [D.oks, Bool.and_eq_true] at h
    simp only [List.getElem?_cons_succ] at e
    exact oks_get h.2 e

/-- one item of a list asked -/
theorem eqItem (H : Hp C ρ hp s.heap) {x y : MV} {v w : Value} (hx : Rep C ρ s.heap x v) (hy : Rep C ρ s.heap y w) {d e : D} (hd : Rd hp x d) (he : Rd hp y e) (hk : e.deep ≤ 1000) (h1 : d.ok = true) (h2 : e.ok = true)
    (hu : A.units + 1000 < cLine) : SeqAt.EqAt A s v w (d.deq e) := by
  obtain ⟨as, ra⟩ := hd.reads H hx
  obtain ⟨bs, rb⟩ := he.reads H hy
  rw [← D.eqv_py]
  exact SeqAt.eqAt_reads _ _ A s v w _ _ ra rb (d.lay_py h1) (e.lay_py h2) (by rw [D.depth_py, D.depth_py]; omega)

open Classical in
theorem any_items (H : Hp C ρ hp s.heap) {x : MV} {v : Value} {ys : List MV} {ws : List Value} (hx : Rep C ρ s.heap x v) (hy : RepL C ρ s.heap ys ws) {d : D} {es : List D} (hd : Rd hp x d) (he : Rds hp ys es) (hk : d.deep ≤ 1000)
    (h1 : d.ok = true) (h2 : D.oks es = true) (hu : A.units + 1000 < cLine) :
    ∃ e : Value → Bool, (∀ y, y ∈ ws.toArray → SeqAt.EqAt A s y v (e y)) ∧ ws.toArray.any e = es.any (fun e => e.deq d) := by
  have item : ∀ j y, ws[j]? = some y → ∃ e : D, es[j]? = some e ∧ SeqAt.EqAt A s y v (e.deq d) := fun j y hj => by
    have hlt : j < ys.length := by rw [← hy.length]; exact (List.getElem?_eq_some_iff.mp hj).1
    obtain ⟨e, e1, e2⟩ := he.get (List.getElem?_eq_getElem hlt)
    obtain ⟨w, w1, w2⟩ := hy.get (List.getElem?_eq_getElem hlt)
    rw [hj] at w1; cases w1
    exact ⟨e, e1, eqItem H w2 hx e2 hd hk (oks_get h2 e1) h1 hu⟩
  refine ⟨fun y => decide (∃ (j : Nat) (e : D), ws[j]? = some y ∧ es[j]? = some e ∧ e.deq d = true), fun y hy' => ?_, ?_⟩
  · obtain ⟨j, hj⟩ := List.mem_iff_getElem?.mp (by simpa using hy' : y ∈ ws)
    obtain ⟨e, e1, e2⟩ := item j y hj
    show SeqAt.EqAt A s y v (decide (∃ (j : Nat) (e : D), ws[j]? = some y ∧ es[j]? = some e ∧ e.deq d = true))
    by_cases q : ∃ (j : Nat) (e : D), ws[j]? = some y ∧ es[j]? = some e ∧ e.deq d = true
    · rw [decide_eq_true q]
      obtain ⟨k, e', k1, k2, k3⟩ := q
      obtain ⟨e'', e3, e4⟩ := item k y k1
      rw [k2] at e3; cases e3
      rw [k3] at e4; exact e4
    · rw [decide_eq_false q]
      cases b : e.deq d with
      | false => rw [b] at e2; exact e2
      | true => exact absurd ⟨j, e, hj, e1, b⟩ q
  · rw [Bool.eq_iff_iff]
    simp only [List.any_toArray, List.any_eq_true, decide_eq_true_eq]
    constructor
    · rintro ⟨y, _, j, e, _, h4, h5⟩
      exact ⟨e, List.mem_of_getElem? h4, h5⟩
    · rintro ⟨e, he', h5⟩
      obtain ⟨j, hj⟩ := List.mem_iff_getElem?.mp he'
      have hlt : j < ws.length := by rw [hy.length, ← he.length]; exact (List.getElem?_eq_some_iff.mp hj).1
      exact ⟨ws[j], List.getElem_mem hlt, j, e, List.getElem?_eq_getElem hlt, hj, h5⟩

theorem in_ok (G : GOk C) (H : Hp C ρ hp s.heap) {x c : MV} {v w : Value} (hx : Rep C ρ s.heap x v) (hc : Rep C ρ s.heap c w) {P : Bool → Prop} (hu : A.units + 1001 < cLine) (h : wpIn x c P hp) :
    wpAny (mod C) A (compareOp .In v w) (OutB s P) E s := by
  unfold wpIn at h
  split at h
  · rename_i ys x'
    obtain ⟨d, es, hd, he, hk, h1, h2, hq⟩ := h
    cases hc with | tup g l _ =>
    obtain ⟨e, e1, e2⟩ := any_items (A := A.in1) H hx l hd he hk h1 h2 (by simp; omega)
    exact SeqAt.in_tupleAt e ⟨_, g, rfl, _, rfl⟩ e1 ⟨_, s.toks, rfl, rfl, by rw [e2]; exact hq⟩
  · rename_i i x'
    split at h
    · rename_i ys hi
      obtain ⟨d, es, hd, he, hk, h1, h2, hq⟩ := h
      cases hc with | ref g =>
      obtain ⟨items, n, gi, l, _⟩ := H.objs _ _ _ hi g
      obtain ⟨e, e1, e2⟩ := any_items (A := A.in1) H hx l hd he hk h1 h2 (by simp; omega)
      exact SeqAt.in_listAt e ⟨_, gi, rfl, _, rfl⟩ e1 ⟨_, s.toks, rfl, rfl, by rw [e2]; exact hq⟩
    · rename_i es hi
      split at h
      · rename_i k
        cases hc with | ref g =>
        cases hx with | str _ t _ =>
        obtain ⟨kvs, dk, rk, _⟩ := H.objs _ _ _ hi g
        refine wpAny_in_of (strKind_is' C.prog C.w (str k) t) (not_sys G H (List.mem_of_getElem? g)) dk.mapOf ⟨_, s.toks + 1, rfl, rfl, ?_⟩
        have := rk.get k
        cases e : dget es k with
        | none => rw [e] at this h; rw [this]; exact h
        | some x => rw [e] at this h; obtain ⟨v, e', _⟩ := this; rw [e']; exact h
      · exact h.elim
    · exact h.elim
  · rename_i s' a
    cases hc with | str _ t _ => cases hx with | str _ u _ =>
    refine PySem.P.in_str ⟨_, s.toks, rfl, rfl, ?_⟩
    have := StrLaws.found_one (str s') a
    rw [this]
    simpa using h
  · exact h.elim
where
  strKind_is' (prog : Program) (w : World) (x : Str) (t : Tok) : (strKind prog w).is x (.str x t) = true := by simp [strKind, Value.isStrOf]

theorem notIn_of {v w : Value} {P : Bool → Prop} (h : wpAny (mod C) A (compareOp .In v w) (OutB s (fun b => P (!b))) E s) : wpAny (mod C) A (compareOp .NotIn v w) (OutB s P) E s := fun Γ p hΓ => by
  have := h Γ p hΓ
  simp only [compareOp, Sem.wp_bind'] at this ⊢
  refine Sem.wp_mono _ Γ _ (fun b p' s' h' => ?_) (fun _ _ _ h' => h') _ _ this
  obtain ⟨b', t, e1, e2, e3⟩ := h'
  cases e1
  exact ⟨_, t, rfl, e2, e3⟩

noncomputable def cmpIs : Cmp → CmpOp
  | .eq => .Eq | .ne => .NotEq | .lt => .Lt | .le => .LtE | .gt => .Gt | .ge => .GtE | .inn => .In | .nin => .NotIn

theorem cmp_ok (G : GOk C) (H : Hp C ρ m.heap s.heap) {op : Cmp} {x y : MV} {v w : Value} (hx : Rep C ρ s.heap x v) (hy : Rep C ρ s.heap y w) {P : Bool → MS → Prop} (hu : A.units + 1001 < cLine) (h : wpCmp op x y P m) :
    wpAny (mod C) A (compareOp (cmpIs op) v w) (OutB s (fun b => P b m)) E s := by
  unfold wpCmp at h
  split at h
  · split at h
    · rename_i b e
      exact (aeq_ok (A := A) hx hy e).1 _ _ _ _ ⟨_, s.toks, rfl, rfl, h⟩
    · obtain ⟨d, e, hd, he, hk, h1, h2, hq⟩ | ⟨i, j, es, rfl, rfl, hi, hj, hl, hn, hq⟩ := h
      · exact eqP_ok H hx hy hd he hk h1 h2 (by omega) hq
      · exact (eqDict_ok G H hx hy hi hj hl hn (by omega)).1 ⟨_, s.toks, rfl, rfl, hq⟩
  · split at h
    · rename_i b e
      exact (aeq_ok (A := A) hx hy e).2 _ _ _ _ ⟨_, s.toks, rfl, rfl, h⟩
    · obtain ⟨d, e, hd, he, hk, h1, h2, hq⟩ | ⟨i, j, es, rfl, rfl, hi, hj, hl, hn, hq⟩ := h
      · exact neP_ok H hx hy hd he hk h1 h2 (by omega) hq
      · exact (eqDict_ok G H hx hy hi hj hl hn (by omega)).2 ⟨_, s.toks, rfl, rfl, hq⟩
  · split at h
    · cases hx; cases hy; exact wpAny_lt_int ⟨_, s.toks, rfl, rfl, h⟩
    · exact h.elim
  · split at h
    · cases hx; cases hy; exact PyProof.Rows.le_int ⟨_, s.toks, rfl, rfl, h⟩
    · exact h.elim
  · split at h
    · cases hx; cases hy; exact PyProof.Rows.gt_int ⟨_, s.toks, rfl, rfl, h⟩
    · exact h.elim
  · split at h
    · cases hx; cases hy; exact PyProof.Rows.ge_int ⟨_, s.toks, rfl, rfl, h⟩
    · exact h.elim
  · exact in_ok G H hx hy hu h
  · exact notIn_of (in_ok G H hx hy hu h)
end
end Mine
end
section
set_option autoImplicit false
set_option linter.unusedVariables false
set_option genSizeOf false
set_option genInjectivity false
namespace Mine
open PySem

/-- the trees that are taken -/
inductive V where
  | const (k : Const) (a : Nat) (p : Pos) | name (x : Str) (p : Pos) | bin (l : Expr) (o : Operator) (r : Expr) (p : Pos) | un (o : UnaryOp) (x : Expr) (p : Pos) | bool (o : BoolOp) (xs : List Expr) (p : Pos)
  | cmp (l : Expr) (os : List CmpOp) (rs : List Expr) (p : Pos) | call (f : Expr) (xs : List Expr) (ks : List Keyword) (p : Pos) | attr (v : Expr) (n : Str) (p : Pos) | sub (v i : Expr) (p : Pos) | slice (l u st : Option Expr) (p : Pos)
  | list (xs : List Expr) (p : Pos) | tup (xs : List Expr) (k : Nat) (p : Pos) | dict (ks : List (Option Expr)) (vs : List Expr) (p : Pos) | lc (e : Expr) (gs : List Comprehension) (sc : Scope) (p : Pos) | other
noncomputable def view : Expr → V
  | .Constant k a p => .const k a p
  | .Name x p => .name x p
  | .BinOp l o r p => .bin l o r p
  | .UnaryOp o x p => .un o x p
  | .BoolOp o xs p => .bool o xs p
  | .Compare l os rs p => .cmp l os rs p
  | .Call f xs ks p => .call f xs ks p
  | .Attribute v n p => .attr v n p
  | .Subscript v i p => .sub v i p
  | .Slice l u st p => .slice l u st p
  | .List xs p => .list xs p
  | .Tuple xs k p => .tup xs k p
  | .Dict ks vs p => .dict ks vs p
  | .ListComp e gs sc p => .lc e gs sc p
  | _ => .other
noncomputable def back (e : Expr) : V → Prop
  | .const k a p => e = .Constant k a p
  | .name x p => e = .Name x p
  | .bin l o r p => e = .BinOp l o r p
  | .un o x p => e = .UnaryOp o x p
  | .bool o xs p => e = .BoolOp o xs p
  | .cmp l os rs p => e = .Compare l os rs p
  | .call f xs ks p => e = .Call f xs ks p
  | .attr v n p => e = .Attribute v n p
  | .sub v i p => e = .Subscript v i p
  | .slice l u st p => e = .Slice l u st p
  | .list xs p => e = .List xs p
  | .tup xs k p => e = .Tuple xs k p
  | .dict ks vs p => e = .Dict ks vs p
  | .lc x gs sc p => e = .ListComp x gs sc p
  | .other => True
theorem view_eq (e : Expr) : back e (view e) := by cases e <;> first | exact rfl | exact trivial

noncomputable def okV : V → Bool
  | .slice .. => false
  | .other => false
  | _ => true
/-- no star, no set display, no slice -/
noncomputable def okX (e : Expr) : Bool := okV (view e)
theorem okX_cases {e : Expr} {P : Expr → Prop} (h : okX e = true) (h1 : ∀ k a p, P (.Constant k a p)) (h2 : ∀ x p, P (.Name x p)) (h3 : ∀ l o r p, P (.BinOp l o r p)) (h4 : ∀ o x p, P (.UnaryOp o x p)) (h5 : ∀ o xs p, P (.BoolOp o xs p))
    (h6 : ∀ l os rs p, P (.Compare l os rs p)) (h7 : ∀ f xs ks p, P (.Call f xs ks p)) (h8 : ∀ v n p, P (.Attribute v n p)) (h9 : ∀ v i p, P (.Subscript v i p)) (h10 : ∀ xs p, P (.List xs p)) (h11 : ∀ xs k p, P (.Tuple xs k p)) (h12 : ∀ ks vs p, P (.Dict ks vs p))
    (h13 : ∀ x gs sc p, P (.ListComp x gs sc p)) : P e := by
  have t := view_eq e
  unfold okX at h
  generalize view e = v at t h
  cases v with
  | const => obtain rfl : e = _ := t; exact h1 _ _ _
  | name => obtain rfl : e = _ := t; exact h2 _ _
  | bin => obtain rfl : e = _ := t; exact h3 _ _ _ _
  | un => obtain rfl : e = _ := t; exact h4 _ _ _
  | bool => obtain rfl : e = _ := t; exact h5 _ _ _
  | cmp => obtain rfl : e = _ := t; exact h6 _ _ _ _
  | call => obtain rfl : e = _ := t; exact h7 _ _ _ _
  | attr => obtain rfl : e = _ := t; exact h8 _ _ _
  | sub => obtain rfl : e = _ := t; exact h9 _ _ _
  | slice => cases h
  | list => obtain rfl : e = _ := t; exact h10 _ _
  | tup => obtain rfl : e = _ := t; exact h11 _ _ _
  | dict => obtain rfl : e = _ := t; exact h12 _ _ _
  | lc => obtain rfl : e = _ := t; exact h13 _ _ _ _
  | other => cases h
theorem okX_star {e : Expr} (h : okX e = true) (rest : List Expr) (env : Env) : starEach (e :: rest) env = (false, eval e env) :: starEach rest env :=
  okX_cases (P := fun e => starEach (e :: rest) env = (false, eval e env) :: starEach rest env) h (fun _ _ _ => rfl) (fun _ _ => rfl) (fun _ _ _ _ => rfl) (fun _ _ _ => rfl) (fun _ _ _ => rfl) (fun _ _ _ _ => rfl) (fun _ _ _ _ => rfl) (fun _ _ _ => rfl) (fun _ _ _ => rfl) (fun _ _ => rfl) (fun _ _ _ => rfl) (fun _ _ _ => rfl) (fun _ _ _ _ => rfl)
theorem okX_marks {e : Expr} (h : okX e = true) (op : CmpOp) : behindInMarks op e = false :=
  okX_cases (P := fun e => behindInMarks op e = false) h (fun _ _ _ => rfl) (fun _ _ => rfl) (fun _ _ _ _ => rfl) (fun _ _ _ => rfl) (fun _ _ _ => rfl) (fun _ _ _ _ => rfl) (fun _ _ _ _ => rfl) (fun _ _ _ => rfl) (fun _ _ _ => rfl) (fun _ _ => rfl) (fun _ _ _ => rfl) (fun _ _ _ => rfl) (fun _ _ _ _ => rfl)
theorem okX_folded {e : Expr} (h : okX e = true) (env : Env) (x : Value) : foldedSetIterable e env x = pure x :=
  okX_cases (P := fun e => foldedSetIterable e env x = pure x) h (fun _ _ _ => rfl) (fun _ _ => rfl) (fun _ _ _ _ => rfl) (fun _ _ _ => rfl) (fun _ _ _ => rfl) (fun _ _ _ _ => rfl) (fun _ _ _ _ => rfl) (fun _ _ _ => rfl) (fun _ _ _ => rfl) (fun _ _ => rfl) (fun _ _ _ => rfl) (fun _ _ _ => rfl) (fun _ _ _ _ => rfl)

noncomputable def xConst (e : Expr) : Option Const := match view e with
  | .const k _ _ => some k
  | _ => none
noncomputable def xName (e : Expr) : Option Str := match view e with
  | .name x _ => some x
  | _ => none
noncomputable def xBin (e : Expr) : Option (Expr × Operator × Expr) := match view e with
  | .bin l o r _ => some (l, o, r)
  | _ => none
noncomputable def xUn (e : Expr) : Option (UnaryOp × Expr) := match view e with
  | .un o x _ => some (o, x)
  | _ => none
noncomputable def xBool (e : Expr) : Option (BoolOp × List Expr) := match view e with
  | .bool o xs _ => some (o, xs)
  | _ => none
noncomputable def xCmp (e : Expr) : Option (Expr × List CmpOp × List Expr) := match view e with
  | .cmp l os rs _ => some (l, os, rs)
  | _ => none
noncomputable def xCall (e : Expr) : Option (Expr × List Expr × List Keyword × Pos) := match view e with
  | .call f xs ks p => some (f, xs, ks, p)
  | _ => none
noncomputable def xAttr (e : Expr) : Option (Expr × Str × Pos) := match view e with
  | .attr v n p => some (v, n, p)
  | _ => none
noncomputable def xSub (e : Expr) : Option (Expr × Expr) := match view e with
  | .sub v i _ => some (v, i)
  | _ => none
noncomputable def xSlice (e : Expr) : Option (Option Expr × Option Expr × Option Expr) := match view e with
  | .slice l u st _ => some (l, u, st)
  | _ => none
noncomputable def xList (e : Expr) : Option (List Expr) := match view e with
  | .list xs _ => some xs
  | _ => none
noncomputable def xTup (e : Expr) : Option (List Expr) := match view e with
  | .tup xs _ _ => some xs
  | _ => none
noncomputable def xDict (e : Expr) : Option (List (Option Expr) × List Expr) := match view e with
  | .dict ks vs _ => some (ks, vs)
  | _ => none
noncomputable def xLC (e : Expr) : Option (Expr × List Comprehension × Scope) := match view e with
  | .lc e gs sc _ => some (e, gs, sc)
  | _ => none
section
variable {e : Expr}
theorem xConst_eq {k : Const} (h : xConst e = some k) : ∃ a b, e = .Constant k a b := by
  have t := view_eq e
  unfold xConst at h
  split at h
  · rename_i hv; rw [hv] at t; cases h; exact ⟨_, _, t⟩
  · cases h
theorem xName_eq {x : Str} (h : xName e = some x) : ∃ p, e = .Name x p := by
  have t := view_eq e
  unfold xName at h
  split at h
  · rename_i hv; rw [hv] at t; cases h; exact ⟨_, t⟩
  · cases h
theorem xBin_eq {l r : Expr} {o : Operator} (h : xBin e = some (l, o, r)) : ∃ p, e = .BinOp l o r p := by
  have t := view_eq e
  unfold xBin at h
  split at h
  · rename_i hv; rw [hv] at t; cases h; exact ⟨_, t⟩
  · cases h
theorem xUn_eq {o : UnaryOp} {x : Expr} (h : xUn e = some (o, x)) : ∃ p, e = .UnaryOp o x p := by
  have t := view_eq e
  unfold xUn at h
  split at h
  · rename_i hv; rw [hv] at t; cases h; exact ⟨_, t⟩
  · cases h
theorem xBool_eq {o : BoolOp} {xs : List Expr} (h : xBool e = some (o, xs)) : ∃ p, e = .BoolOp o xs p := by
  have t := view_eq e
  unfold xBool at h
  split at h
  · rename_i hv; rw [hv] at t; cases h; exact ⟨_, t⟩
  · cases h
theorem xCmp_eq {l : Expr} {os : List CmpOp} {rs : List Expr} (h : xCmp e = some (l, os, rs)) : ∃ p, e = .Compare l os rs p := by
  have t := view_eq e
  unfold xCmp at h
  split at h
  · rename_i hv; rw [hv] at t; cases h; exact ⟨_, t⟩
  · cases h
theorem xCall_eq {f : Expr} {xs : List Expr} {ks : List Keyword} {p : Pos} (h : xCall e = some (f, xs, ks, p)) : e = .Call f xs ks p := by
  have t := view_eq e
  unfold xCall at h
  split at h
  · rename_i hv; rw [hv] at t; cases h; exact t
  · cases h
theorem xAttr_eq {v : Expr} {n : Str} {p : Pos} (h : xAttr e = some (v, n, p)) : e = .Attribute v n p := by
  have t := view_eq e
  unfold xAttr at h
  split at h
  · rename_i hv; rw [hv] at t; cases h; exact t
  · cases h
theorem xSub_eq {v i : Expr} (h : xSub e = some (v, i)) : ∃ p, e = .Subscript v i p := by
  have t := view_eq e
  unfold xSub at h
  split at h
  · rename_i hv; rw [hv] at t; cases h; exact ⟨_, t⟩
  · cases h
theorem xSlice_eq {l u st : Option Expr} (h : xSlice e = some (l, u, st)) : ∃ p, e = .Slice l u st p := by
  have t := view_eq e
  unfold xSlice at h
  split at h
  · rename_i hv; rw [hv] at t; cases h; exact ⟨_, t⟩
  · cases h
theorem xList_eq {xs : List Expr} (h : xList e = some xs) : ∃ p, e = .List xs p := by
  have t := view_eq e
  unfold xList at h
  split at h
  · rename_i hv; rw [hv] at t; cases h; exact ⟨_, t⟩
  · cases h
theorem xTup_eq {xs : List Expr} (h : xTup e = some xs) : ∃ k p, e = .Tuple xs k p := by
  have t := view_eq e
  unfold xTup at h
  split at h
  · rename_i hv; rw [hv] at t; cases h; exact ⟨_, _, t⟩
  · cases h
theorem xDict_eq {ks : List (Option Expr)} {vs : List Expr} (h : xDict e = some (ks, vs)) : ∃ p, e = .Dict ks vs p := by
  have t := view_eq e
  unfold xDict at h
  split at h
  · rename_i hv; rw [hv] at t; cases h; exact ⟨_, t⟩
  · cases h
theorem xLC_eq {x : Expr} {gs : List Comprehension} {sc : Scope} (h : xLC e = some (x, gs, sc)) : ∃ p, e = .ListComp x gs sc p := by
  have t := view_eq e
  unfold xLC at h
  split at h
  · rename_i hv; rw [hv] at t; cases h; exact ⟨_, t⟩
  · cases h
end
noncomputable def mObjV : V → Bool
  | .name .. => true
  | .sub .. => true
  | .const .. => true
  | .attr .. => true
  | _ => false
/-- what a method may be called of -/
noncomputable def notCall0 (e : Expr) : Bool := mObjV (view e)
theorem notCall0_base {o : Expr} (h : notCall0 o = true) (name : Str) (env : Env) : attributeBase o name env (eval o env) = eval o env := by
  have t := view_eq o
  unfold notCall0 at h
  generalize view o = v at t h
  unfold mObjV at h
  split at h
  · obtain rfl : o = _ := t; rfl
  · obtain rfl : o = _ := t; rfl
  · obtain rfl : o = _ := t; rfl
  · obtain rfl : o = _ := t; rfl
  · cases h
noncomputable def isComp (e : Expr) : Bool := (xLC e).isSome
theorem swaps_no {e : Expr} (h : isComp e = false) (h' : okX e = true) (t : Option Expr) (l : Nat) (env : Env) : swapsWith e t l env = pure false :=
  okX_cases (P := fun e => isComp e = false → swapsWith e t l env = pure false) h' (fun _ _ _ _ => rfl) (fun _ _ _ => rfl) (fun _ _ _ _ _ => rfl) (fun _ _ _ _ => rfl) (fun _ _ _ _ => rfl) (fun _ _ _ _ _ => rfl) (fun _ _ _ _ _ => rfl) (fun _ _ _ _ => rfl) (fun _ _ _ _ => rfl) (fun _ _ _ => rfl) (fun _ _ _ _ => rfl) (fun _ _ _ _ => rfl) (fun _ _ _ _ h => by cases h) h
end Mine
end
section
set_option autoImplicit false
set_option linter.unusedVariables false
namespace Mine
open PySem PyProof.Rows

theorem sub_plain {slice : Expr} {o i : Value} (h : okX slice = true) : subscripted slice false o i = operate [o, i] (getItem o i) :=
  okX_cases (P := fun e => subscripted e false o i = operate [o, i] (getItem o i)) h (fun _ _ _ => rfl) (fun _ _ => rfl) (fun _ _ _ _ => rfl) (fun _ _ _ => rfl) (fun _ _ _ => rfl) (fun _ _ _ _ => rfl) (fun _ _ _ _ => rfl) (fun _ _ _ => rfl) (fun _ _ _ => rfl) (fun _ _ => rfl) (fun _ _ _ => rfl) (fun _ _ _ => rfl) (fun _ _ _ _ => rfl)
theorem sub_slice {l u : Option Expr} {p : Pos} {o i : Value} : subscripted (.Slice l u none p) false o i = operate [i, o] (getItem o i) := rfl

theorem pidx_seq {k : Int} {n j : Nat} (h : pidx k n = some j) : seqIndex? k n = some j ∧ -(n : Int) ≤ k ∧ k < n ∧ (0 ≤ k → j = k.toNat) ∧ (k < 0 → j = (k + n).toNat) := by
  unfold pidx at h
  by_cases h0 : 0 ≤ k
  · by_cases h1 : k < n
    · simp only [h0, h1, decide_true] at h
      cases h
      exact ⟨seqIndex_of h0 h1, by omega, h1, fun _ => rfl, fun q => by omega⟩
    · simp [h0, h1] at h
  · by_cases h1 : -(n : Int) ≤ k
    · simp only [h0, h1, decide_true, decide_false] at h
      cases h
      exact ⟨seqIndex_neg (by omega) h1, h1, by omega, fun q => absurd q h0, fun _ => rfl⟩
    · simp [h0, h1] at h

theorem pend_clip (k : Int) (n : Nat) : pend k n = clipAt n k := by
  unfold pend clipAt
  split
  · rename_i h; simp only [decide_eq_true_eq] at h; rw [if_neg (by omega)]; omega
  · rename_i h; simp only [decide_eq_false_iff_not] at h; rw [if_pos (by omega)]; omega
theorem clip_le (k : Int) (n : Nat) : clipAt n k ≤ n := by unfold clipAt; split <;> omega

theorem pslice_eq {α : Type} (xs : List α) (lo hi : Option Int) : pslice xs lo hi = (xs.drop (lo.elim 0 (clipAt xs.length))).take (hi.elim xs.length (clipAt xs.length) - lo.elim 0 (clipAt xs.length)) := by
  unfold pslice
  simp only
  rw [List.drop_take]
  cases lo <;> cases hi <;> simp only [Option.elim, pend_clip]

section
variable {C : Glo} {F : Fm} {X : XM} {ρ : List Addr} {m : MS} {s : Shared} {Q : PQ} {E : Value → Shared → Prop} {A : Around} {h : Heap} {hp : List MO}

theorem RepL.slice {xs : List MV} {vs : List Value} (l : RepL C ρ h xs vs) (lo hi : Option Int) : RepL C ρ h (pslice xs lo hi) (pslice vs lo hi) := by
  unfold pslice
  have e := l.length
  cases lo <;> cases hi <;> simp only [e] <;> exact (l.take _).drop _
theorem pslice_len {α : Type} (xs : List α) (lo hi : Option Int) : (pslice xs lo hi).length ≤ xs.length := by
  rw [pslice_eq, List.length_take, List.length_drop]; omega

theorem line_lt {n : Nat} (h : n ≤ line) : (n : Int) < 2 ^ 63 := by unfold line at h; omega

theorem idx_ok (G : GOk C) (R : Rel C F ρ m s) (ok : FmOk F) {x y : MV} {v w : Value} (hx : Rep C ρ s.heap x v) (hy : Rep C ρ s.heap y w) {value slice : Expr} (hns : okX slice = true) (h : wpIdx x y Q m) :
    wpAny (mod C) A (subscriptTail value slice v w) (Out C F ρ s Q) E s := by
  unfold wpIdx at h
  split at h
  · rename_i xs k
    split at h
    · rename_i j hj
      split at h
      · rename_i z hz
        cases hx with | tup g l zl => cases hy with | int _ u =>
        obtain ⟨e1, e2, e3, _⟩ := pidx_seq hj
        obtain ⟨r, r1, r2⟩ := l.get hz
        have := line_lt zl
        refine tail_any ⟨_, g, rfl⟩ slot_tuple_getitem.lookup (PySem.P.getItem_tuple g (by omega) (by omega) ?_ (by simpa using r1) (outSame R r2 h)) (sub_plain hns)
        rw [List.size_toArray, l.length]; exact e1
      · exact h.elim
    · exact h.elim
  · rename_i xs k
    split at h
    · rename_i j hj
      split at h
      · rename_i z hz
        cases hx with | str _ t zl => cases hy with | int _ u =>
        obtain ⟨e1, e2, e3, _⟩ := pidx_seq hj
        have := line_lt zl
        refine tail_any (T := "str") (typeIs_str s (Mine.str xs) t) slot_str_getitem.lookup (PySem.P.getItem_str ?_ ?_ (outTok R ok (.str _ _ (by simp [line])) h)) (sub_plain hns)
        · simp only [Bool.or_eq_false_iff, decide_eq_false_iff_not]; omega
        · rw [str_length, e1]; simpa using hz
      · exact h.elim
    · exact h.elim
  · rename_i i k
    split at h
    · rename_i xs hi
      split at h
      · rename_i j hj
        split at h
        · rename_i z hz
          cases hx with | ref g => cases hy with | int _ u =>
          obtain ⟨items, n, gi, l, zl⟩ := R.hp.objs _ _ _ hi g
          obtain ⟨e1, e2, e3, e4, e5⟩ := pidx_seq hj
          obtain ⟨r, r1, r2⟩ := l.get hz
          have := line_lt zl
          have hl : s.heap.IsList _ items.toArray := ⟨_, gi, rfl, _, rfl⟩
          refine tail_any hl.typeIs slot_list_getitem.lookup ?_ (sub_plain hns)
          by_cases h0 : 0 ≤ k
          · exact wpAny_getItem_list hl h0 (by omega) (by rw [← e4 h0]; simpa using r1) (outSame R r2 h)
          · exact wpAny_getItem_list_neg hl (by omega) (by rw [List.size_toArray, l.length]; exact e2) (by omega) (by rw [List.size_toArray, l.length, ← e5 (by omega)]; simpa using r1) (outSame R r2 h)
        · exact h.elim
      · exact h.elim
    · exact h.elim
  · rename_i xs k
    split at h
    · rename_i j hj
      split at h
      · rename_i z hz
        cases hx with | @scr _ la items n g l zl => cases hy with | int _ u =>
        have gi := R.hp.base _ _ g
        have rl : RepL C ρ s.heap (xs.map .int) items := ints_rep l
        have hlen : items.length = xs.length := by rw [rl.length]; simp
        obtain ⟨e1, e2, e3, e4, e5⟩ := pidx_seq hj
        obtain ⟨r, r1, r2⟩ := rl.get (i := j) (x := .int z) (by simp [hz])
        have := line_lt zl
        have hl : s.heap.IsList la items.toArray := ⟨_, gi, rfl, _, rfl⟩
        refine tail_any hl.typeIs slot_list_getitem.lookup ?_ (sub_plain hns)
        by_cases h0 : 0 ≤ k
        · exact wpAny_getItem_list hl h0 (by omega) (by rw [← e4 h0]; simpa using r1) (outSame R r2 h)
        · exact wpAny_getItem_list_neg hl (by omega) (by rw [List.size_toArray, hlen]; exact e2) (by omega) (by rw [List.size_toArray, hlen, ← e5 (by omega)]; simpa using r1) (outSame R r2 h)
      · exact h.elim
    · exact h.elim
  · rename_i i k
    split at h
    · rename_i es hi
      split at h
      · rename_i z hz
        cases hx with | ref g => cases hy with | str _ t _ =>
        obtain ⟨kvs, dk, rk, zk⟩ := R.hp.objs _ _ _ hi g
        have := rk.get k
        rw [hz] at this
        obtain ⟨v, e, r⟩ := this
        exact tail_any dk.typeIs slot_dict_getitem.lookup (wpAny_getItem_of (in_ok.strKind_is' C.prog C.w (Mine.str k) t) dk.mapOf e (outTok R ok r h)) (sub_plain hns)
      · exact h.elim
    · exact h.elim
  · exact h.elim
end
end Mine
end
section
set_option autoImplicit false
set_option linter.unusedVariables false
namespace Mine
open PySem PyProof.Rows

section
variable {C : Glo} {F : Fm} {X : XM} {ρ : List Addr} {m : MS} {s : Shared} {Q : PQ} {E : Value → Shared → Prop} {A : Around} {h : Heap} {hp : List MO}

noncomputable def PartRep (C : Glo) (ρ : List Addr) (h : Heap) : Option MV → Value → Prop
  | none, v => v = .none
  | some x, v => Rep C ρ h x v

theorem part_of {lo : Option MV} {v : Value} (h : PartRep C ρ s.heap lo v) {k : Option Int} (e : optInt lo = some k) : IsPart v k ∧ ∃ l : Option (Int × Tok), v = partValue l ∧ l.map (·.1) = k := by
  cases lo with
  | none =>
    simp only [optInt] at e; cases e
    simp only [PartRep] at h; subst h
    exact ⟨.none, none, rfl, rfl⟩
  | some x =>
    simp only [PartRep] at h
    cases h with
    | int i t => simp only [optInt] at e; cases e; exact ⟨.int i t, some (i, t), rfl, rfl⟩
    | _ => simp [optInt] at e

theorem strSlice_eq (x : List Nat) (lo hi : Option Int) : ((Builtin.Str.strSliceIndices lo hi 1 x.length).filterMap (x.toArray[·]?)) = pslice x lo hi ∧ (Builtin.Str.strSliceIndices lo hi 1 x.length).length = (pslice x lo hi).length := by
  have e : Builtin.Str.strSliceIndices lo hi 1 x.length = (List.range (hi.elim x.length (clipAt x.length) - lo.elim 0 (clipAt x.length))).map (lo.elim 0 (clipAt x.length) + ·) := by
    have h1 : Builtin.Str.strSliceIndices lo hi 1 x.length = sliceRange (sliceBounds lo hi none x.length).1 (sliceBounds lo hi none x.length).2.1 (sliceBounds lo hi none x.length).2.2 := rfl
    rw [h1, sliceBounds_plain, sliceRange_one]
  rw [e]
  constructor
  · rw [pick_run, pslice_eq]
  · rw [pslice_eq, List.length_map, List.length_range, List.length_take, List.length_drop]
    have : hi.elim x.length (clipAt x.length) ≤ x.length := by cases hi <;> simp [clip_le]
    omega

theorem sl_ok (R : Rel C F ρ m s) (ok : FmOk F) {x : MV} {v : Value} (hx : Rep C ρ s.heap x v) {lo hi : Option MV} {vl vu : Value} (hl : PartRep C ρ s.heap lo vl) (hu : PartRep C ρ s.heap hi vu) {value : Expr} {l u : Option Expr} {p : Pos}
    (hq : wpSl x lo hi Q m) : wpAny (mod C) A (subscriptTail value (.Slice l u none p) v (.ref s.heap.objs.size)) (Out C F ρ s Q) E { s with heap := s.heap.push { cls := .type "slice", data := .fields #[vl, vu, .none] } } := by
  obtain ⟨R', st⟩ := R.grow (s' := { s with heap := s.heap.push { cls := .type "slice", data := .fields #[vl, vu, .none] } }) ok (fun a o e => Heap.get?_push_of_some _ e) rfl rfl
  unfold wpSl at hq
  split at hq
  · rename_i lo' hi' e1 e2
    obtain ⟨p1, l1, el1, ml1⟩ := part_of hl e1
    obtain ⟨p2, l2, el2, ml2⟩ := part_of hu e2
    have hs : (s.heap.push { cls := .type "slice", data := .fields #[vl, vu, .none] }).IsSliceOf s.heap.objs.size vl vu .none := Heap.IsSliceOf.new _ _ _ _
    have hx' := hx.step st
    refine wpAny_mono (Q := Out C F ρ { s with heap := s.heap.push { cls := .type "slice", data := .fields #[vl, vu, .none] } } Q) ?_ (Out.back st) fun _ _ e => e
    split at hq
    · rename_i y
      cases hx' with | str _ t z =>
      have hsl : (s.heap.push { cls := .type "slice", data := .fields #[vl, vu, .none] }).IsSlice s.heap.objs.size l1 l2 none := by subst el1; subst el2; exact ⟨_, Heap.get?_push_size _ rfl, rfl, rfl⟩
      refine tail_any (T := "str") (typeIs_str _ (Mine.str y) t) slot_str_getitem.lookup (wpAny_getItem_str_slice (s := { s with heap := s.heap.push { cls := .type "slice", data := .fields #[vl, vu, .none] } }) hsl rfl ?_) sub_slice
      unfold sliceMade slicePicked
      rw [ml1, ml2, str_length]
      obtain ⟨f1, f2⟩ := strSlice_eq y lo' hi'
      have hz := pslice_len y lo' hi'
      split
      · rename_i hc
        simp only [Option.map_none, Option.getD_none, Bool.and_eq_true, beq_iff_eq] at hc
        have e : pslice y lo' hi' = y := by
          have h2 := f2.symm.trans hc.2
          rw [pslice_eq] at h2 ⊢
          rw [List.length_take, List.length_drop] at h2
          cases y with
          | nil => simp
          | cons a b =>
            have h3 : lo'.elim 0 (clipAt (a :: b).length) = 0 := by simp only [List.length_cons] at h2 ⊢; omega
            rw [h3] at h2 ⊢
            rw [List.drop_zero, Nat.sub_zero]
            exact List.take_of_length_le (by simp only [List.length_cons, Nat.sub_zero] at h2 ⊢; omega)
        rw [e] at hq
        exact outSame R' (.str y t z) hq
      · refine ⟨?_, ?_⟩
        · show ((Builtin.Str.strSliceIndices lo' hi' 1 y.length).filterMap (y.toArray[·]?)).toArray.size ≤ sizeLine
          rw [f1, List.size_toArray]; exact Nat.le_trans hz z
        · show Out C F ρ _ Q (.str ⟨((Builtin.Str.strSliceIndices lo' hi' 1 y.length).filterMap (y.toArray[·]?)).toArray⟩ _) _
          rw [f1]
          exact outTok R' ok (.str _ _ (Nat.le_trans hz z)) hq
    · exact hq.elim
    · rename_i xs
      cases hx' with | @scr _ la items n g l zl =>
      have gi := R'.hp.base _ _ g
      have rl : RepL C ρ _ (xs.map .int) items := ints_rep (h := s.heap.push { cls := .type "slice", data := .fields #[vl, vu, .none] }) l
      have hlen : items.length = xs.length := by rw [rl.length]; simp
      have hl' : (s.heap.push { cls := .type "slice", data := .fields #[vl, vu, .none] }).IsList la items.toArray := ⟨_, gi, rfl, _, rfl⟩
      refine tail_any (T := "list") ⟨_, gi, rfl⟩ slot_list_getitem.lookup (wpAny_getItem_list_slice (s := { s with heap := s.heap.push { cls := .type "slice", data := .fields #[vl, vu, .none] } }) hl' hs p1 p2 .none (by simp) ?_ (by rw [List.size_toArray, hlen]; exact zl)) sub_slice
      have e : slicePick items.toArray lo' hi' none = (pslice items lo' hi').toArray := by
        rw [slicePick_plain, pslice_eq]; simp
      rw [e]
      exact outList R' ok (rl.slice _ _) (Nat.le_trans (pslice_len _ _ _) (by simpa using zl)) hq
    · split at hq
      · rename_i xs hi
        cases hx' with | ref g =>
        obtain ⟨items, n, gi, l, zl⟩ := R'.hp.objs _ _ _ hi g
        have hl' : (s.heap.push { cls := .type "slice", data := .fields #[vl, vu, .none] }).IsList _ items.toArray := ⟨_, gi, rfl, _, rfl⟩
        refine tail_any (T := "list") ⟨_, gi, rfl⟩ slot_list_getitem.lookup (wpAny_getItem_list_slice (s := { s with heap := s.heap.push { cls := .type "slice", data := .fields #[vl, vu, .none] } }) hl' hs p1 p2 .none (by simp) ?_ (by rw [List.size_toArray, l.length]; exact zl)) sub_slice
        have e : slicePick items.toArray lo' hi' none = (pslice items lo' hi').toArray := by
          rw [slicePick_plain, pslice_eq]; simp
        rw [e]
        exact outList R' ok (l.slice _ _) (Nat.le_trans (pslice_len _ _ _) zl) hq
      · exact hq.elim
    · exact hq.elim
  · exact hq.elim
end
end Mine
end
section
set_option autoImplicit false
set_option linter.unusedVariables false
namespace Mine
open PySem PyProof.Rows

section
variable {C : Glo} {F : Fm} {X : XM} {ρ : List Addr} {m : MS} {s : Shared} {Q : PQ} {E : Value → Shared → Prop} {A : Around} {h : Heap} {hp : List MO}

noncomputable def tsIs : TS → Option String
  | .int => some "int" | .bool => some "bool" | .str => some "str" | .list => some "list" | .tuple => some "tuple" | .dict => some "dict" | .cls _ => none

theorem isi_ok (H : Hp C ρ hp s.heap) {x : MV} {v : Value} (hx : Rep C ρ s.heap x v) {t : TS} {b : Bool} (h : tyOf hp x t = some b) {P : Bool → Prop} (hq : P b) :
    ∀ T, tsIs t = some T → wpAny (mod C) A (call (.builtin "isinstance") [v, .type T]) (OutB s P) E s := by
  intro T eT
  cases hx with
  | none =>
    cases t <;> cases eT
    · obtain rfl : false = b := Option.some.inj h; exact IsiPair.NoneType_int ⟨_, s.toks + 1, rfl, rfl, hq⟩
    · obtain rfl : false = b := Option.some.inj h; exact IsiPair.NoneType_bool ⟨_, s.toks + 1, rfl, rfl, hq⟩
    · obtain rfl : false = b := Option.some.inj h; exact IsiPair.NoneType_str ⟨_, s.toks + 1, rfl, rfl, hq⟩
    · obtain rfl : false = b := Option.some.inj h; exact IsiPair.NoneType_list ⟨_, s.toks + 1, rfl, rfl, hq⟩
    · obtain rfl : false = b := Option.some.inj h; exact IsiPair.NoneType_tuple ⟨_, s.toks + 1, rfl, rfl, hq⟩
    · obtain rfl : false = b := Option.some.inj h; exact IsiPair.NoneType_dict ⟨_, s.toks + 1, rfl, rfl, hq⟩
  | bool _ =>
    cases t <;> cases eT
    · obtain rfl : true = b := Option.some.inj h; exact IsiPair.bool_int ⟨_, s.toks, rfl, rfl, hq⟩
    · obtain rfl : true = b := Option.some.inj h; exact IsiPair.bool_bool ⟨_, s.toks, rfl, rfl, hq⟩
    · obtain rfl : false = b := Option.some.inj h; exact IsiPair.bool_str ⟨_, s.toks + 1, rfl, rfl, hq⟩
    · obtain rfl : false = b := Option.some.inj h; exact IsiPair.bool_list ⟨_, s.toks + 1, rfl, rfl, hq⟩
    · obtain rfl : false = b := Option.some.inj h; exact IsiPair.bool_tuple ⟨_, s.toks + 1, rfl, rfl, hq⟩
    · obtain rfl : false = b := Option.some.inj h; exact IsiPair.bool_dict ⟨_, s.toks + 1, rfl, rfl, hq⟩
  | int _ _ =>
    cases t <;> cases eT
    · obtain rfl : true = b := Option.some.inj h; exact IsiPair.int_int ⟨_, s.toks, rfl, rfl, hq⟩
    · obtain rfl : false = b := Option.some.inj h; exact IsiPair.int_bool ⟨_, s.toks + 1, rfl, rfl, hq⟩
    · obtain rfl : false = b := Option.some.inj h; exact IsiPair.int_str ⟨_, s.toks + 1, rfl, rfl, hq⟩
    · obtain rfl : false = b := Option.some.inj h; exact IsiPair.int_list ⟨_, s.toks + 1, rfl, rfl, hq⟩
    · obtain rfl : false = b := Option.some.inj h; exact IsiPair.int_tuple ⟨_, s.toks + 1, rfl, rfl, hq⟩
    · obtain rfl : false = b := Option.some.inj h; exact IsiPair.int_dict ⟨_, s.toks + 1, rfl, rfl, hq⟩
  | str _ _ _ =>
    cases t <;> cases eT
    · obtain rfl : false = b := Option.some.inj h; exact IsiPair.str_int ⟨_, s.toks + 1, rfl, rfl, hq⟩
    · obtain rfl : false = b := Option.some.inj h; exact IsiPair.str_bool ⟨_, s.toks + 1, rfl, rfl, hq⟩
    · obtain rfl : true = b := Option.some.inj h; exact IsiPair.str_str ⟨_, s.toks, rfl, rfl, hq⟩
    · obtain rfl : false = b := Option.some.inj h; exact IsiPair.str_list ⟨_, s.toks + 1, rfl, rfl, hq⟩
    · obtain rfl : false = b := Option.some.inj h; exact IsiPair.str_tuple ⟨_, s.toks + 1, rfl, rfl, hq⟩
    · obtain rfl : false = b := Option.some.inj h; exact IsiPair.str_dict ⟨_, s.toks + 1, rfl, rfl, hq⟩
  | tup g l z =>
    cases t <;> cases eT
    · obtain rfl : false = b := Option.some.inj h; exact IsiPair.tuple_int g rfl ⟨_, s.toks + 1, rfl, rfl, hq⟩
    · obtain rfl : false = b := Option.some.inj h; exact IsiPair.tuple_bool g rfl ⟨_, s.toks + 1, rfl, rfl, hq⟩
    · obtain rfl : false = b := Option.some.inj h; exact IsiPair.tuple_str g rfl ⟨_, s.toks + 1, rfl, rfl, hq⟩
    · obtain rfl : false = b := Option.some.inj h; exact IsiPair.tuple_list g rfl ⟨_, s.toks + 1, rfl, rfl, hq⟩
    · obtain rfl : true = b := Option.some.inj h; exact IsiPair.tuple_tuple g rfl ⟨_, s.toks, rfl, rfl, hq⟩
    · obtain rfl : false = b := Option.some.inj h; exact IsiPair.tuple_dict g rfl ⟨_, s.toks + 1, rfl, rfl, hq⟩
  | @ref i a g =>
    cases hi : hp[i]? with
    | none =>
      have h : tyO hp[i]? t = some b := h
      rw [hi] at h; cases h
    | some o =>
      have h : tyO hp[i]? t = some b := h
      rw [hi] at h
      cases o with
      | list xs =>
        obtain ⟨items, n, gi, l, zl⟩ := H.objs _ _ _ hi g
        cases t <;> cases eT
        · obtain rfl : false = b := Option.some.inj h; exact IsiPair.list_int gi rfl ⟨_, s.toks + 1, rfl, rfl, hq⟩
        · obtain rfl : false = b := Option.some.inj h; exact IsiPair.list_bool gi rfl ⟨_, s.toks + 1, rfl, rfl, hq⟩
        · obtain rfl : false = b := Option.some.inj h; exact IsiPair.list_str gi rfl ⟨_, s.toks + 1, rfl, rfl, hq⟩
        · obtain rfl : true = b := Option.some.inj h; exact IsiPair.list_list gi rfl ⟨_, s.toks, rfl, rfl, hq⟩
        · obtain rfl : false = b := Option.some.inj h; exact IsiPair.list_tuple gi rfl ⟨_, s.toks + 1, rfl, rfl, hq⟩
        · obtain rfl : false = b := Option.some.inj h; exact IsiPair.list_dict gi rfl ⟨_, s.toks + 1, rfl, rfl, hq⟩
      | dict es =>
        obtain ⟨kvs, ⟨od, _, _, gd, ⟨hc, _⟩, _⟩, _⟩ := H.objs _ _ _ hi g
        cases t <;> cases eT
        · obtain rfl : false = b := Option.some.inj h; exact IsiPair.dict_int gd hc ⟨_, s.toks + 1, rfl, rfl, hq⟩
        · obtain rfl : false = b := Option.some.inj h; exact IsiPair.dict_bool gd hc ⟨_, s.toks + 1, rfl, rfl, hq⟩
        · obtain rfl : false = b := Option.some.inj h; exact IsiPair.dict_str gd hc ⟨_, s.toks + 1, rfl, rfl, hq⟩
        · obtain rfl : false = b := Option.some.inj h; exact IsiPair.dict_list gd hc ⟨_, s.toks + 1, rfl, rfl, hq⟩
        · obtain rfl : false = b := Option.some.inj h; exact IsiPair.dict_tuple gd hc ⟨_, s.toks + 1, rfl, rfl, hq⟩
        · obtain rfl : true = b := Option.some.inj h; exact IsiPair.dict_dict gd hc ⟨_, s.toks, rfl, rfl, hq⟩
  | scr => cases t <;> cases h
  | inst => cases t <;> cases h

/-- the callee of a built-in, as the name gives it -/
noncomputable def biIs : Bi → Option (Str × Value)
  | .len => some ("len", .builtin "len")
  | .int => some ("int", .type "int")
  | .str => some ("str", .type "str")
  | .list => some ("list", .type "list")
  | .tuple => some ("tuple", .type "tuple")
  | .dict => some ("dict", .type "dict")
  | _ => none

theorem outKeep (R : Rel C F ρ m s) (ok : FmOk F) {h' : Heap} {t : Nat} (hk : ∀ b o, s.heap.get? b = some o → h'.get? b = some o) {x : MV} {v : Value} (hr : Rep C ρ h' x v) (h : Q x m) : Out C F ρ s Q v { s with heap := h', toks := t } := by
  obtain ⟨R', st⟩ := R.grow (s' := { s with heap := h', toks := t }) ok hk rfl rfl
  exact ⟨ρ, m, x, st, R', hr, h⟩

theorem len_ok (G : GOk C) (R : Rel C F ρ m s) (ok : FmOk F) {x : MV} {v : Value} (hx : Rep C ρ s.heap x v) (h : wpLen x Q m) : wpAny (mod C) A (call (.builtin "len") [v]) (Out C F ρ s Q) E s := by
  cases hx with
  | tup g l z =>
    refine PySem.P.len_tuple g ?_ ?_
    · rw [List.size_toArray, l.length]; have := line_lt z; omega
    · rw [List.size_toArray, l.length]; exact outTok R ok (.int _ _) h
  | str _ t z =>
    refine PySem.P.len_str ?_ ?_
    · rw [str_length]; have := line_lt z; omega
    · rw [str_length]; exact outTok R ok (.int _ _) h
  | scr g l z =>
    have hlen := (ints_rep (C := C) (ρ := ρ) (h := s.heap) l).length
    rw [List.length_map] at hlen
    refine PySem.Calls.call_len_list ⟨_, R.hp.base _ _ g, rfl, _, rfl⟩ ?_ ?_
    · rw [List.size_toArray, hlen]; exact line_lt z
    · rw [List.size_toArray, hlen]; exact outTok R ok (.int _ _) h
  | @ref i _ g =>
    cases hi : m.heap[i]? with
    | none => simp only [wpLen, hi] at h
    | some o =>
      cases o with
      | list ys =>
        simp only [wpLen, hi] at h
        obtain ⟨items, n, gi, l, z⟩ := R.hp.objs _ _ _ hi g
        refine PySem.Calls.call_len_list ⟨_, gi, rfl, _, rfl⟩ ?_ ?_
        · rw [List.size_toArray, l.length]; exact line_lt z
        · rw [List.size_toArray, l.length]; exact outTok R ok (.int _ _) h
      | dict ys =>
        simp only [wpLen, hi] at h
        obtain ⟨kvs, dk, rk, z⟩ := R.hp.objs _ _ _ hi g
        refine call_len_dict (not_sys G R.hp (List.mem_of_getElem? g)) dk ?_ ?_
        · rw [rk.length]; exact line_lt z
        · rw [rk.length]; exact outTok R ok (.int _ _) h
  | _ => exact h.elim
theorem at_end (R : Rel C F ρ m s) {a : Addr} : (ρ ++ [a])[m.heap.length]? = some a := by rw [← R.hp.len, List.getElem?_append_right (Nat.le_refl _)]; simp
theorem listOf_ok (R : Rel C F ρ m s) (ok : FmOk F) {x : MV} {v : Value} (hx : Rep C ρ s.heap x v) (h : wpListOf x Q m) : wpAny (mod C) A (call (.type "list") [v]) (Out C F ρ s Q) E s := by
  cases hx with
  | @ref i _ g =>
    cases hi : m.heap[i]? with
    | none => simp only [wpListOf, hi] at h
    | some o =>
      cases o with
      | list ys =>
        simp only [wpListOf, hi] at h
        obtain ⟨items, n, gi, l, z⟩ := R.hp.objs _ _ _ hi g
        refine call_list_seq _ (.inl rfl) gi rfl rfl (fun h' c' hk hn => ?_) (by rw [List.size_toArray, l.length]; exact z)
        obtain ⟨R', st⟩ := R.alloc (s' := { s with heap := h' }) ok hk rfl rfl (o := .list ys) (a := s.heap.objs.size) (fresh_at (Nat.le_refl _))
          ⟨items, c', hn, l.up (fun a o e _ => hk a o e) (List.prefix_append _ _), z⟩
        exact ⟨_, _, _, st, R', .ref (at_end R), h⟩
      | dict ys => simp only [wpListOf, hi] at h
  | @tup _ _ ys _ gi l z =>
    refine call_list_seq _ (.inr rfl) gi rfl rfl (fun h' c' hk hn => ?_) (by rw [List.size_toArray, l.length]; exact z)
    obtain ⟨R', st⟩ := R.alloc (s' := { s with heap := h' }) ok hk rfl rfl (o := .list ys) (a := s.heap.objs.size) (fresh_at (Nat.le_refl _))
      ⟨_, c', hn, l.up (fun a o e _ => hk a o e) (List.prefix_append _ _), z⟩
    exact ⟨_, _, _, st, R', .ref (at_end R), h⟩
  | _ => exact h.elim
theorem tupleOf_ok (R : Rel C F ρ m s) (ok : FmOk F) {i : Nat} {ys : List MV} {v : Value} (hx : Rep C ρ s.heap (.ref i) v) (hi : m.heap[i]? = some (.list ys)) (h : Q (.tup ys) m) : wpAny (mod C) A (call (.type "tuple") [v]) (Out C F ρ s Q) E s := by
  cases hx with | ref g =>
  obtain ⟨items, n, gi, l, z⟩ := R.hp.objs _ _ _ hi g
  refine call_tuple_list ⟨_, gi, rfl, _, rfl⟩ (fun h' hk => ?_) (by rw [List.size_toArray, l.length]; exact z)
  have hk' : ∀ b o, s.heap.get? b = some o → (h'.push (tupO items 0)).get? b = some o := fun b o e => Heap.get?_push_of_some _ (hk b o e)
  exact outKeep R ok hk' (.tup (Heap.get?_push_size _ rfl) (l.up (fun a o e _ => hk' a o e) (List.prefix_refl _)) z) h
theorem dictOf_ok (G : GOk C) (R : Rel C F ρ m s) (ok : FmOk F) {i : Nat} {ys : List (List Nat × MV)} {v : Value} (hx : Rep C ρ s.heap (.ref i) v) (hi : m.heap[i]? = some (.dict ys)) (h : Q (.ref m.heap.length) (m.push (.dict ys))) : wpAny (mod C) A (call (.type "dict") [v]) (Out C F ρ s Q) E s := by
  cases hx with | ref g =>
  obtain ⟨kvs, dk, rk, z⟩ := R.hp.objs _ _ _ hi g
  refine kt_call_dict (not_sys G R.hp (List.mem_of_getElem? g)) dk (by rw [rk.length]; exact z) fun h' hd hs => ?_
  have hk : ∀ a o, s.heap.get? a = some o → h'.get? a = some o := fun a o e => (hs.2 a (Nat.ne_of_lt (Heap.lt_size e))).trans (Heap.get?_push_of_some _ e)
  obtain ⟨R', st⟩ := R.alloc (s' := { s with heap := h' }) ok hk rfl rfl (o := .dict ys) (a := s.heap.objs.size) (fresh_at (Nat.le_refl _))
    ⟨kvs, hd, rk.up (fun a o e _ => hk a o e) (List.prefix_append _ _), z⟩
  exact ⟨_, _, _, st, R', .ref (at_end R), h⟩

theorem blt_ok (G : GOk C) (R : Rel C F ρ m s) (ok : FmOk F) {b : Bi} {xs : List MV} {vs : List Value} (hx : RepL C ρ s.heap xs vs) {n : Str} {f : Value} (hb : biIs b = some (n, f)) (h : wpBlt b xs Q m) :
    wpAny (mod C) A (call f vs) (Out C F ρ s Q) E s := by
  cases hx with
  | nil => exact h.elim
  | @cons x v _ _ hx hn =>
    cases hn with
    | cons => exact h.elim
    | nil =>
      cases b with
      | len => cases hb; exact len_ok G R ok hx h
      | list => cases hb; exact listOf_ok R ok hx h
      | int =>
        cases hb
        cases hx with
        | bool c => exact call_int_bool (outTok R ok (.int _ _) (by cases c <;> exact h))
        | _ => exact h.elim
      | str =>
        cases hb
        cases hx with
        | str _ t z => exact PySem.P.str_of_str (outSame R (.str _ t z) h)
        | _ => exact h.elim
      | tuple =>
        cases hb
        cases x with
        | ref i =>
          cases hi : m.heap[i]? with
          | none => simp only [wpBlt, wpBlt1, hi] at h
          | some o => cases o with
            | list ys => simp only [wpBlt, wpBlt1, hi] at h; exact tupleOf_ok R ok hx hi h
            | dict ys => simp only [wpBlt, wpBlt1, hi] at h
        | _ => exact h.elim
      | dict =>
        cases hb
        cases x with
        | ref i =>
          cases hi : m.heap[i]? with
          | none => simp only [wpBlt, wpBlt1, hi] at h
          | some o => cases o with
            | list ys => simp only [wpBlt, wpBlt1, hi] at h
            | dict ys => simp only [wpBlt, wpBlt1, hi] at h; exact dictOf_ok G R ok hx hi h
        | _ => exact h.elim
      | _ => cases hb
end
end Mine
end
section
set_option autoImplicit false
set_option linter.unusedVariables false
namespace Mine
open PySem PyProof.Rows

structure Cx where
  kind : Str → Option NameKind
  nm : Nat → Option Str
  fn : Nat → Option Str
  gl : Nat → Option (Str × MV)
  wr : Bool
  fr : Nat → Bool

noncomputable def dbg (x : Str) : Bool := x == ("__debug__" : Str)
noncomputable def cdc (x : Str) : Bool := x == ("__classdict__" : Str)

/-- the built-in names that the laws use -/
noncomputable def bltNames : List (Str × Value) := [("len", .builtin "len"), ("int", .type "int"), ("str", .type "str"), ("list", .type "list"), ("tuple", .type "tuple"), ("dict", .type "dict"),
  ("bool", .type "bool"), ("isinstance", .builtin "isinstance"), ("range", .type "range"), ("enumerate", .type "enumerate"), ("sorted", .builtin "sorted"), ("set", .type "set")]

structure CxOk (C : Glo) (c : Cx) (F : Fm) (n : Nat) : Prop where
  fm : FmOk F
  kind : ∀ x, F.env.kindOf x = c.kind x
  nm : ∀ i x, c.nm i = some x → (F.env.kindOf x = some .local ∧ F.lay i = some (.nm F.env.locals x)) ∨
    (∃ a, (F.env.kindOf x = some .cell ∨ (F.env.kindOf x = some .free ∧ cdc x = false)) ∧ F.env.cells.lookup x = some a ∧ F.lay i = some (.cl a))
  glob : ∃ mg mb, C.base.Ns F.env.globals mg ∧ C.base.Ns F.env.builtins mb ∧ (∀ f x, c.fn f = some x → ∃ a, C.fa f = some a ∧ mg x = some (.ref a)) ∧
    (∀ g x v, c.gl g = some (x, v) → ∃ w, mg x = some w ∧ ∀ ρ h, C.base.StaysIn h → Rep C ρ h v w) ∧ (∀ x v, (x, v) ∈ bltNames → mg x = none ∧ mb x = some v)
  units : F.A.units ≤ 3 * F.A.depth + 4
  room : F.A.depth + n ≤ 999
  inter : interactive F.env = false
  wr : ∀ i a, F.lay i = some (.cl a) → c.wr = true → a ∈ F.W
  fr : ∀ i, c.fr i = true → F.lay i = none

theorem CxOk.u {C : Glo} {c : Cx} {F : Fm} {n : Nat} (x : CxOk C c F n) : F.A.units + 1001 < cLine := by
  have := x.units; have := x.room; show _ < 9900; omega

section
variable {C : Glo} {F : Fm} {X : XM} {ρ : List Addr} {m : MS} {s : Shared} {Q : PQ} {E : Value → Shared → Prop} {A : Around} {c : Cx} {n : Nat}

theorem ns_base (H : Hp C ρ m.heap s.heap) {a : Addr} {f : Str → Option Value} (h : C.base.Ns a f) : s.heap.Ns a f := ns_data h fun o e => ⟨o, H.base a o e, rfl⟩

theorem load_var (cx : CxOk C c F n) (R : Rel C F ρ m s) {i : Nat} {x : Str} (hx : c.nm i = some x) {v : MV} (hv : m.get i = some v) {p : Pos} (hd : dbg x = false) (hq : Q v m) :
    wpAny (mod C) A (eval (.Name x p) F.env) (Out C F ρ s Q) E s := by
  obtain ⟨l, h1, h2⟩ := R.vars i v hv
  refine wpAny_Name ?_ hd
  rcases cx.nm i x hx with ⟨k, e⟩ | ⟨a, k, e1, e⟩
  · rw [e] at h1; cases h1
    obtain ⟨f, w, hn, hw, r⟩ := h2
    exact wpAny_loadName_local cx.fm.kind k hn hw (outSame R r hq)
  · rw [e] at h1; cases h1
    obtain ⟨w, hc, r⟩ := h2
    rcases k with k | ⟨k, kd⟩
    · exact wpAny_loadName_cell cx.fm.kind k e1 hc (outSame R r hq)
    · exact wpAny_loadName_free cx.fm.kind k e1 hc (outSame R r hq) kd

theorem load_blt (cx : CxOk C c F n) (R : Rel C F ρ m s) {x : Str} {v : Value} (hm : (x, v) ∈ bltNames) (hk : c.kind x = some .globalImplicit) {p : Pos} (hd : dbg x = false) {P : Value → Shared → Prop} (h : P v s) :
    wpAny (mod C) A (eval (.Name x p) F.env) P E s := by
  obtain ⟨mg, mb, h1, h2, _, _, h3⟩ := cx.glob
  exact Calls.Name_function_global cx.fm.kind ((cx.kind x).trans hk) (Calls.loadGlobal_builtin (ns_base R.hp h1) (h3 x v hm).1 (ns_base R.hp h2) (h3 x v hm).2 h) hd
theorem load_fn (cx : CxOk C c F n) (R : Rel C F ρ m s) {x : Str} {f : Nat} (hm : c.fn f = some x) (hk : c.kind x = some .globalImplicit) {p : Pos} (hd : dbg x = false) {P : Value → Shared → Prop} (h : ∀ a, C.fa f = some a → P (.ref a) s) :
    wpAny (mod C) A (eval (.Name x p) F.env) P E s := by
  obtain ⟨mg, mb, h1, h2, h3, _, _⟩ := cx.glob
  obtain ⟨a, e1, e2⟩ := h3 f x hm
  exact Calls.Name_function_global cx.fm.kind ((cx.kind x).trans hk) (Calls.loadGlobal_global (ns_base R.hp h1) e2 (h a e1)) hd
theorem load_gl (cx : CxOk C c F n) (R : Rel C F ρ m s) {x : Str} {g : Nat} {v : MV} (hm : c.gl g = some (x, v)) (hk : c.kind x = some .globalImplicit) {p : Pos} (hd : dbg x = false) (hq : Q v m) :
    wpAny (mod C) A (eval (.Name x p) F.env) (Out C F ρ s Q) E s := by
  obtain ⟨mg, mb, h1, h2, _, h3, _⟩ := cx.glob
  obtain ⟨w, e1, e2⟩ := h3 g x v hm
  exact Calls.Name_function_global cx.fm.kind ((cx.kind x).trans hk) (Calls.loadGlobal_global (ns_base R.hp h1) e1 (outSame R (e2 ρ s.heap R.hp.base) hq)) hd

/-- a name is set -/
theorem store_var (cx : CxOk C c F n) (R : Rel C F ρ m s) {i : Nat} {x : Str} (hx : c.nm i = some x) (hk : c.kind x = some .local ∨ (c.wr = true ∧ c.kind x ≠ some .free)) {v : MV} {w : Value} (hr : Rep C ρ s.heap v w) {P : Unit → Shared → Prop}
    (h : ∀ s', Step F.W ρ s ρ s' → Rel C F ρ (m.set i v) s' → P () s') : wpAny (mod C) A (storeName F.env x w) P E s := by
  rcases cx.nm i x hx with ⟨k, e⟩ | ⟨a, k, e1, e⟩
  · obtain ⟨f, hf⟩ := R.ns
    refine wpAny_storeName_local k hf (fun h' hn hs => ?_) (by rw [cx.fm.kind]; rfl)
    obtain ⟨R', st⟩ := R.setName (s' := { s with heap := h', toks := s.toks + 1 }) cx.fm e hf hn hs rfl rfl hr
    exact h _ st R'
  · rcases k with k | ⟨k, _⟩
    · obtain ⟨v₀, hc⟩ := R.cells i a e
      refine wpAny_storeName_cell cx.fm.kind k e1 hc fun h' hn hs => ?_
      have hwr : c.wr = true := hk.elim (fun q => by rw [cx.kind x, q] at k; cases k) (·.1)
      obtain ⟨R', st⟩ := R.setCell (s' := { s with heap := h' }) cx.fm e (cx.wr i a e hwr) hc hn hs rfl rfl hr
      exact h _ st R'
    · rw [cx.kind x] at k; exact hk.elim (fun q => by rw [q] at k; cases k) fun q => absurd k q.2

/-- a method's call, behind the evaluation of its object and arguments -/
noncomputable def meIs : Me → Option Str
  | .append => some "append"
  | .find => some "find"
  | _ => none

/-- a method found on its object, the arguments not evaluated yet -/
theorem mth_ok (G : GOk C) (ok : FmOk F) {k : Me} {x : MV} {v : Value} {name : Str} (hn : meIs k = some name) {ρ₀ : List Addr} {s₀ : Shared} (st₀ : Step F.W ρ₀ s₀ ρ s) (R : Rel C F ρ m s) (hx : Rep C ρ s.heap x v) (hm : mthOk k x m.heap = true) {trees : List (Bool × Sem Value)} {pos : Pos}
    (hp : trees.any (·.1) = false) (hne : trees ≠ [])
    (h : wpAny (mod C) F.A (spliced trees) (fun vs s₁ => ∃ ρ₁ m₁ xs, Step F.W ρ s ρ₁ s₁ ∧ Rel C F ρ₁ m₁ s₁ ∧ RepL C ρ₁ s₁.heap xs vs ∧ wpMth k x xs Q m₁) E s) :
    MethodOn C.prog C.w F.A name pos v trees (Out C F ρ₀ s₀ Q) E s := by
  obtain ⟨⟨b, t⟩, trees, rfl⟩ := List.exists_cons_of_ne_nil hne
  simp only [List.any_cons, Bool.or_eq_false_iff] at hp
  obtain ⟨rfl, hp⟩ := hp
  unfold mthOk at hm
  split at hm
  · split at hm
    · rename_i r ys hi
      cases hn
      cases hx with | ref g =>
      obtain ⟨items, c, gi, l, z⟩ := R.hp.objs _ _ _ hi g
      refine ⟨"list", "list.append", PySem.F.plainAttrs_list, slot_list_append, rfl, ⟨_, gi, rfl⟩, fun a e => by cases e; exact ⟨_, gi, rfl⟩, ?_⟩
      refine Calls.callWith_builtin (by simp [hp]) (Calls.evalArgs_plain (wpAny_mono h (fun vs s₁ h₁ => ?_) fun _ _ e => e))
      obtain ⟨ρ₁, m₁, xs, st, R₁, rl, hw⟩ := h₁
      cases rl with
      | nil => exact (show False from hw).elim
      | @cons w v' _ _ ra rn =>
        cases rn with
        | cons _ _ => exact (show False from hw).elim
        | nil =>
          simp only [wpMth] at hw
          split at hw
          · rename_i ys' hi'
            have g' := pre_get st.pre g
            obtain ⟨items', c', gi', l', z'⟩ := R₁.hp.objs _ _ _ hi' g'
            refine PySem.wpAny_list_append_plain ⟨_, gi'⟩ (fun h' hl hs => ?_) (by rw [List.size_toArray, l'.length]; exact z')
            obtain ⟨n, hl⟩ := hl
            have hk : ∀ b ob, b ≠ _ → s₁.heap.get? b = some ob → h'.get? b = some ob := fun b ob q e => (hs.2 b q).trans e
            have hsol : Solids s₁.heap h' := solids_but hk (repO_not_solid (R₁.hp.objs _ _ _ hi' g'))
            obtain ⟨R₂, st₂⟩ := R₁.put (s' := { s₁ with heap := h' }) ok g' hi' (o := .list (ys' ++ [w])) hk rfl rfl
              ⟨items' ++ [v'], n, by rw [hl]; simp, (l'.append (.cons ra .nil)).up hsol (List.prefix_refl _), by rw [List.length_append]; exact hw.1⟩
            exact ⟨_, _, .none, st₀.trans (st.trans st₂), R₂, .none, hw.2⟩
          · exact hw.elim
    · cases hm
  · cases hn
    cases hx with | str sx t z =>
    refine ⟨"str", "str.find", PySem.F.plainAttrs_str, PySem.F.slot_str_find, PySem.F.type_str_find, typeIs_str _ _ _, (fun a e => nomatch e), ?_⟩
    refine Calls.callWith_builtin (by simp [hp]) (Calls.evalArgs_plain (wpAny_mono h (fun vs s₁ h₁ => ?_) fun _ _ e => e))
    obtain ⟨ρ₁, m₁, xs, st, R₁, rl, hw⟩ := h₁
    unfold wpMth at hw
    split at hw
    · rename_i e; cases e
    · cases rl with | cons ra rn => cases rn; cases ra with | str _ u zu =>
      refine PySem.SC.find ?_
      obtain ⟨R₂, st₂⟩ := R₁.tok ok (s₁.toks + 1)
      refine ⟨_, _, _, st₀.trans (st.trans st₂), R₂, .int _ _, hw _ ?_⟩
      unfold Txt.find
      split <;> omega
    · exact hw.elim
  · cases hm
end
end Mine
end
section
set_option autoImplicit false
set_option linter.unusedVariables false
namespace Mine
open PySem PyProof.Rows

noncomputable def chkC : MV → Const → Bool
  | .none, .none => true
  | .bool b, .bool c => b == c
  | .int i, .int j => i == j
  | .str s, .str x => x.cps.toList == s && decide (s.length ≤ 1000)
  | _, _ => false

noncomputable def glName (c : Cx) (x : Str) : Bool := c.kind x == some .globalImplicit && !dbg x

noncomputable def tyName (c : Cx) (t : TS) (e : Expr) : Bool := match xName e, tsIs t with
  | some x, some T => x == Str.ofString T && c.kind x == some .globalImplicit && !dbg x
  | _, _ => false

/-- a name that may be set -/
noncomputable def setOk (c : Cx) (x : Str) : Bool := c.kind x == some .local || (c.wr && !(c.kind x == some .free))
theorem setOk_is {c : Cx} {x : Str} (h : setOk c x = true) : c.kind x = some .local ∨ (c.wr = true ∧ c.kind x ≠ some .free) := by
  simpa [setOk] using h
/-- the names of a target -/
noncomputable def chkNames (c : Cx) : List Nat → List Expr → Bool
  | [], xs => xs.isEmpty
  | i :: t, xs => match xs with
    | [] => false
    | e :: r => (match xName e with
      | some x => c.nm i == some x && setOk c x
      | none => false) && chkNames c t r
noncomputable def chkT1 (c : Cx) (t : List Nat) (o : Option Str) : Bool := match o, t with
  | some x, [i] => c.nm i == some x && setOk c x
  | _, _ => false
noncomputable def chkT (c : Cx) (t : List Nat) (many : Bool) (e : Expr) : Bool :=
  match many with
  | false => chkT1 c t (xName e)
  | true => match xTup e with
    | some elts => chkNames c t elts
    | none => false

/-- the names that a target sets -/
noncomputable def tgNames (e : Expr) : List Str := match xTup e with
  | some elts => elts.filterMap xName
  | none => match xName e with
    | some x => [x]
    | none => []
/-- a comprehension's names, as the model makes them anew -/
noncomputable def relab (kind : Str → Option NameKind) (names : List (Str × NameKind)) : List (Str × NameKind) := names.map fun (n, k) => if (k == .free && kind n == some .cell) then (n, .cell) else (n, k)
noncomputable def subNm (c : Cx) (sc : Scope) (i : Nat) : Option Str := match c.nm i with
  | some x => if sc.names.lookup x == some .free then some x else none
  | none => none
/-- what is known within a comprehension -/
noncomputable def subCx (c : Cx) (sc : Scope) (t : List Nat) (tn : List Str) : Cx where
  kind x := (relab c.kind sc.names).lookup x
  nm i := match (t.zip tn).lookup i with
    | some x => some x
    | none => subNm c sc i
  fn := c.fn
  gl := c.gl
  wr := false
  fr i := c.fr i && !t.contains i
noncomputable def freeOk (c : Cx) (x : Str) : Bool := (List.range 64).any (fun i => c.nm i == some x) && c.kind x != some .local && !cdc x
noncomputable def compOk (c : Cx) (sc : Scope) (t : List Nat) (tn : List Str) : Bool :=
  sc.kind == .function && sc.names.all (fun p => p.2 != .cell && (p.2 != .local || sc.names.lookup p.1 == some .local) && (p.2 != .free || freeOk c p.1)) &&
    decide (t.length = tn.length) && decide t.Nodup && decide tn.Nodup && t.all c.fr && tn.all (fun x => sc.names.lookup x == some .local)
/-- the trees that a loop's source is made of -/
noncomputable def itArgs (c : Cx) (k : IK) (e : Expr) : Option (List Expr) := match k with
  | .val => some [e]
  | .range1 => match xCall e with
    | some (g, [y], [], _) => match xName g with
      | some x => if glName c x && x == ("range" : Str) then some [y] else none
      | none => none
    | _ => none
  | .range2 => match xCall e with
    | some (g, [y, z], [], _) => match xName g with
      | some x => if glName c x && x == ("range" : Str) then some [y, z] else none
      | none => none
    | _ => none
  | .enum => match xCall e with
    | some (g, [y], [], _) => match xName g with
      | some x => if glName c x && x == ("enumerate" : Str) then some [y] else none
      | none => none
    | _ => none
/-- sorted(set(z)) -/
noncomputable def xSS (c : Cx) (e : Expr) : Option Expr := match xCall e with
  | some (g, [y], [], _) => match xName g, xCall y with
    | some x, some (g', [z], [], _) => match xName g' with
      | some x' => if glName c x && x == ("sorted" : Str) && glName c x' && x' == ("set" : Str) then some z else none
      | none => none
    | _, _ => none
  | _ => none
noncomputable def isSS : Bi → Bool
  | .sortedSet => true
  | _ => false
noncomputable def isEnum : IK → Bool
  | .enum => true
  | _ => false

mutual
noncomputable def chkE : Cx → ME → Expr → Bool
  | c, .cst v, e => match xConst e with
    | some k => chkC v k
    | none => false
  | c, .var i, e => match xName e with
    | some x => c.nm i == some x && !dbg x
    | none => false
  | c, .glob g v, e => match xName e with
    | some x => glName c x && (match c.gl g, v with
      | some (y, .int i), .int j => y == x && i == j
      | _, _ => false)
    | none => false
  | c, .bin op a b, e => match xBin e with
    | some (l, o, r) => o == opIs op && chkE c a l && chkE c b r
    | none => false
  | c, .neg a, e => match xUn e with
    | some (o, x) => o == .USub && chkE c a x
    | none => false
  | c, .not a, e => match xUn e with
    | some (o, x) => o == .Not && chkE c a x
    | none => false
  | c, .and es, e => match xBool e with
    | some (o, xs) => o == .And && chkEs c es xs
    | none => false
  | c, .or es, e => match xBool e with
    | some (o, xs) => o == .Or && chkEs c es xs
    | none => false
  | c, .cmp op a b, e => match xCmp e with
    | some (l, [o], [r]) => o == cmpIs op && okX r && chkE c a l && chkE c b r
    | _ => false
  | c, .cmp2 _ _ _ _ _, _ => false
  | c, .isN p a, e => match xCmp e with
    | some (l, [o], [r]) => o == (if p then .Is else .IsNot) && xConst r == some .none && chkE c a l
    | _ => false
  | c, .call f args, e => match xCall e with
    | some (g, y :: ys, [], _) => (match xName g with
      | some x => glName c x && c.fn f == some x && chkEs c args (y :: ys)
      | none => false)
    | _ => false
  | c, .blt b args, e => if isSS b then (match xSS c e with
      | some z => chkEs c args [z]
      | none => false) else match xCall e with
    | some (g, y :: ys, [], _) => (match xName g with
      | some x => glName c x && (match biIs b with
        | some (z, _) => x == z
        | none => false) && chkEs c args (y :: ys)
      | none => false)
    | _ => false
  | c, .mth k o args, e => match xCall e with
    | some (g, y :: ys, [], pos) => (match xAttr g with
      | some (ov, name, apos) => meIs k == some name && notCall0 ov && (apos.endLine == pos.line) && decide (ys.length < 20) && chkE c o ov && chkEs c args (y :: ys)
      | none => false)
    | _ => false
  | c, .umth _ _ _, _ => false
  | c, .new _ _ _, _ => false
  | c, .attr _ _, _ => false
  | c, .idx o i, e => match xSub e with
    | some (v, sl) => okX sl && chkE c o v && chkE c i sl
    | none => false
  | c, .sl o lo hi, e => match xSub e with
    | some (v, sl) => (match xSlice sl with
      | some (l, u, none) => chkE c o v && chkO c lo l && chkO c hi u
      | _ => false)
    | none => false
  | c, .list es, e => match xList e with
    | some xs => decide (es.length ≤ 1000) && chkEs c es xs
    | none => false
  | c, .tup es, e => match xTup e with
    | some xs => decide (es.length ≤ 1000) && chkEs c es xs
    | none => false
  | c, .dict0, e => match xDict e with
    | some ([], []) => true
    | _ => false
  | c, .comp elt t many k src ifs, e => match xLC e with
    | some (elt', [g], sc) => g.is_async == 0 && okX g.iter && (!isEnum k || many) && compOk c sc t (tgNames g.target) && (match itArgs c k g.iter with
      | some xs => chkEs c src xs
      | none => false) && chkT (subCx c sc t (tgNames g.target)) t many g.target && chkEs (subCx c sc t (tgNames g.target)) ifs g.ifs && chkE (subCx c sc t (tgNames g.target)) elt elt'
    | _ => false
  | c, .isi a ts, e => match xCall e with
    | some (g, [v, t], [], _) => (match xName g with
      | some x => glName c x && x == ("isinstance" : Str) && okX v && chkE c a v && (match ts with
        | [t'] => tyName c t' t
        | _ => false)
      | none => false)
    | _ => false
noncomputable def chkEs : Cx → List ME → List Expr → Bool
  | c, [], xs => xs.isEmpty
  | c, e :: es, xs => match xs with
    | [] => false
    | x :: xs => okX x && chkE c e x && chkEs c es xs
noncomputable def chkO : Cx → Option ME → Option Expr → Bool
  | c, none, x => x.isNone
  | c, some e, x => match x with
    | some x => chkE c e x
    | none => false
end

/-- what a call means -/
noncomputable def Call (C : Glo) : KT := fun n f vs Q X h => ∀ (F : Fm) (m : MS) (s : Shared) (ρ : List Addr) (ws : List Value) (a : Addr), FmOk F → m.heap = h → Rel C F ρ m s → RepL C ρ s.heap vs ws →
  F.A.depth + n ≤ 999 → F.A.units ≤ 3 * F.A.depth + 4 → C.fa f = some a →
    wpAny (mod C) F.A (call (.ref a) ws) (Out C F ρ s (fun v m' => m'.vars = m.vars ∧ Q v m'.heap)) (Er C F (fun c m' => X c m'.heap) ρ s) s

section
variable {C : Glo} {F : Fm} {X : XM} {ρ ρ₀ : List Addr} {m : MS} {s s₀ : Shared} {Q : PQ} {E : Value → Shared → Prop} {A : Around} {c : Cx} {n : Nat}

theorem WPv.go {t : Sem Value} {P : Value → Shared → Prop} (h : WPv C F X t Q m) (R : Rel C F ρ m s) (st₀ : Step F.W ρ₀ s₀ ρ s)
    (k : ∀ ρ₁ s₁ m₁ x v, Step F.W ρ s ρ₁ s₁ → Step F.W ρ₀ s₀ ρ₁ s₁ → Rel C F ρ₁ m₁ s₁ → Rep C ρ₁ s₁.heap x v → Q x m₁ → P v s₁) : wpAny (mod C) F.A t P (Er C F X ρ₀ s₀) s :=
  wpAny_mono (h s ρ R) (fun v s₁ ⟨ρ₁, m₁, x, a, b, c, d⟩ => k ρ₁ s₁ m₁ x v a (st₀.trans a) b c d) (Er.back st₀)

noncomputable def OutL (C : Glo) (F : Fm) (k : Nat) (ρ : List Addr) (s : Shared) (Q : List MV → MS → Prop) : List Value → Shared → Prop :=
  fun vs s' => ∃ ρ' m' xs, Step F.W ρ s ρ' s' ∧ Rel C F ρ' m' s' ∧ RepL C ρ' s'.heap xs vs ∧ xs.length = k ∧ Q xs m'
noncomputable def WPl (C : Glo) (F : Fm) (X : XM) (k : Nat) (t : Sem (List Value)) (Q : List MV → MS → Prop) (m : MS) : Prop :=
  ∀ s ρ, Rel C F ρ m s → wpAny (mod C) F.A t (OutL C F k ρ s Q) (Er C F X ρ s) s
theorem WPl.go {t : Sem (List Value)} {P : List Value → Shared → Prop} {Q : List MV → MS → Prop} {l : Nat} (h : WPl C F X l t Q m) (R : Rel C F ρ m s) (st₀ : Step F.W ρ₀ s₀ ρ s)
    (k : ∀ ρ₁ s₁ m₁ xs vs, Step F.W ρ s ρ₁ s₁ → Step F.W ρ₀ s₀ ρ₁ s₁ → Rel C F ρ₁ m₁ s₁ → RepL C ρ₁ s₁.heap xs vs → xs.length = l → Q xs m₁ → P vs s₁) : wpAny (mod C) F.A t P (Er C F X ρ₀ s₀) s :=
  wpAny_mono (h s ρ R) (fun v s₁ ⟨ρ₁, m₁, x, a, b, c, e, d⟩ => k ρ₁ s₁ m₁ x v a (st₀.trans a) b c e d) (Er.back st₀)

noncomputable def OutT (C : Glo) (F : Fm) (ρ : List Addr) (s : Shared) (Q : Bool → MS → Prop) : Bool → Shared → Prop :=
  fun b s' => ∃ ρ' m', Step F.W ρ s ρ' s' ∧ Rel C F ρ' m' s' ∧ Q b m'
noncomputable def WPt (C : Glo) (F : Fm) (X : XM) (t : Sem Bool) (Q : Bool → MS → Prop) (m : MS) : Prop :=
  ∀ s ρ, Rel C F ρ m s → wpAny (mod C) F.A t (OutT C F ρ s Q) (Er C F X ρ s) s
theorem WPt.go {t : Sem Bool} {P : Bool → Shared → Prop} {Q : Bool → MS → Prop} (h : WPt C F X t Q m) (R : Rel C F ρ m s) (st₀ : Step F.W ρ₀ s₀ ρ s)
    (k : ∀ ρ₁ s₁ m₁ b, Step F.W ρ s ρ₁ s₁ → Step F.W ρ₀ s₀ ρ₁ s₁ → Rel C F ρ₁ m₁ s₁ → Q b m₁ → P b s₁) : wpAny (mod C) F.A t P (Er C F X ρ₀ s₀) s :=
  wpAny_mono (h s ρ R) (fun v s₁ ⟨ρ₁, m₁, a, b, d⟩ => k ρ₁ s₁ m₁ v a (st₀.trans a) b d) (Er.back st₀)

theorem outOfB (R : Rel C F ρ m s) (ok : FmOk F) {P : Bool → MS → Prop} {v : Value} {s' : Shared} (h : OutB s (fun b => P b m) v s') : ∃ b, v = .bool b ∧ ∃ m', Step F.W ρ s ρ s' ∧ Rel C F ρ m' s' ∧ P b m' := by
  obtain ⟨b, t, rfl, rfl, h⟩ := h
  obtain ⟨R', st⟩ := R.tok ok t
  exact ⟨b, rfl, m, st, R', h⟩

theorem const_ok (R : Rel C F ρ m s) (ok : FmOk F) {v : MV} {k : Const} (hc : chkC v k = true) (hq : Q v m) {env : Env} {kd : Nat} {p : Pos} : wpAny (mod C) A (eval (.Constant k kd p) env) (Out C F ρ s Q) E s := by
  unfold chkC at hc
  split at hc
  · exact wpAny_Constant_none (outSame R .none hq)
  · simp at hc; subst hc; exact wpAny_Constant_bool (outSame R (.bool _) hq)
  · simp at hc; subst hc; exact wpAny_Constant_int (outTok R ok (.int _ _) hq)
  · rename_i s' x
    simp only [Bool.and_eq_true, beq_iff_eq, decide_eq_true_eq] at hc
    obtain ⟨e, hl⟩ := hc
    have : x = str s' := by subst e; simp
    subst this
    exact wpAny_Constant_str (outTok R ok (.str _ _ (by unfold line; omega)) hq)
  · cases hc

theorem at_mem {p : Str × Value} (i : Nat) (h : bltNames[i]? = some p) : p ∈ bltNames := List.mem_of_getElem? h
theorem bi_mem {b : Bi} {x : Str} {f : Value} (h : biIs b = some (x, f)) : (x, f) ∈ bltNames := by
  cases b <;> cases h <;> first | exact at_mem 0 rfl | exact at_mem 1 rfl | exact at_mem 2 rfl | exact at_mem 3 rfl | exact at_mem 4 rfl | exact at_mem 5 rfl
theorem ts_mem {t : TS} {T : String} (h : tsIs t = some T) : (Str.ofString T, Value.type T) ∈ bltNames := by
  cases t <;> cases h <;> first | exact at_mem 1 rfl | exact at_mem 2 rfl | exact at_mem 3 rfl | exact at_mem 4 rfl | exact at_mem 5 rfl | exact at_mem 6 rfl

theorem glName_ok {x : Str} (h : glName c x = true) : c.kind x = some .globalImplicit ∧ dbg x = false := by
  simp only [glName, Bool.and_eq_true, beq_iff_eq, Bool.not_eq_true'] at h; exact h

theorem bi_fun {b : Bi} {x : Str} {f : Value} (h : biIs b = some (x, f)) : (∃ id, f = .builtin id) ∨ ∃ T, f = .type T := by
  cases b <;> cases h <;> first | exact .inl ⟨_, rfl⟩ | exact .inr ⟨_, rfl⟩

theorem trees_plain {es : List ME} {xs : List Expr} (h : chkEs c es xs = true) (pos : Pos) (env : Env) : (backTo pos (starEach xs env)).any (·.1) = false := by
  induction es generalizing xs with
  | nil => cases xs with
    | nil => rfl
    | cons => simp [chkEs] at h
  | cons e es ih =>
    cases xs with
    | nil => simp [chkEs] at h
    | cons x xs =>
      simp only [chkEs, Bool.and_eq_true] at h
      rw [okX_star h.1.1]
      show (false || (backTo pos (starEach xs env)).any (·.1)) = false
      rw [ih h.2]; rfl

theorem call_args {f : Value} {trees : List (Bool × Sem Value)} {pos : Pos} {s : Shared} {A : Around} {E : Value → Shared → Prop} {P : Value → Shared → Prop} (hf : (∃ id, f = .builtin id) ∨ ∃ T, f = .type T) (hp : trees.any (·.1) = false) (hne : trees ≠ [])
    (h : wpAny (mod C) A (spliced trees) (fun vs s₁ => wpAny (mod C) A (call f vs) P E s₁) E s) : wpAny (mod C) A (callWith pos f [] trees []) P E s := by
  obtain ⟨⟨b, t⟩, trees, rfl⟩ := List.exists_cons_of_ne_nil hne
  simp only [List.any_cons, Bool.or_eq_false_iff] at hp
  obtain ⟨rfl, hp⟩ := hp
  rcases hf with ⟨id, rfl⟩ | ⟨T, rfl⟩
  · exact Calls.callWith_builtin (by simp [hp]) (Calls.evalArgs_plain h)
  · exact PyProof.Rows.callWith_type (by simp [hp]) (Calls.evalArgs_plain h)

theorem cameBool {v : Value} {s : Shared} {A : Around} {E : Value → Shared → Prop} {P : Bool → Shared → Prop} (h : ∃ b, v = .bool b ∧ P b s) : wpAny (mod C) A (truthy v) P E s := by
  obtain ⟨b, rfl, h⟩ := h; exact wpAny_truthy_bool h
end
end Mine
end
section
set_option autoImplicit false
set_option linter.unusedVariables false
namespace Mine
open PySem PyProof.Rows

/-- an object that is no tuple, no instance, no frame -/
noncomputable def Shp (h : Heap) (a : Addr) : Prop := ∃ o, h.get? a = some o ∧ ¬ Solid o ∧ o.cls ≠ .type "frame"
/-- objects on the side -/
noncomputable def Aside (C : Glo) (F : Fm) (ρ : List Addr) (h : Heap) (S : List Addr) : Prop :=
  ∀ a ∈ S, a ∉ ρ ∧ a ∉ F.W ++ F.V ∧ C.base.get? a = none ∧ Shp h a
noncomputable def Side (S : List Addr) (s s' : Shared) : Prop := (∀ b o, b ∉ S → s.heap.get? b = some o → s'.heap.get? b = some o) ∧ s'.gens = s.gens ∧ s'.os = s.os

section
variable {C : Glo} {F : Fm} {X : XM} {c : Cx} {n : Nat} {ρ ρ' ρ₀ : List Addr} {m : MS} {s s' s₀ : Shared} {S : List Addr} {A : Around}

theorem Side.trans {s'' : Shared} (x : Side S s s') (y : Side S s' s'') : Side S s s'' :=
  ⟨fun b o hb e => y.1 b o hb (x.1 b o hb e), y.2.1.trans x.2.1, y.2.2.trans x.2.2⟩
theorem Step.side {W : List Addr} (x : Step W ρ₀ s₀ ρ s) (y : Side S s s') (hS : ∀ a ∈ S, s₀.heap.get? a = none) : Step W ρ₀ s₀ ρ s' where
  pre := x.pre
  new := x.new
  keep := fun a o e h1 h2 => by
    have ha : a ∉ S := fun h => by rw [hS a h] at e; cases e
    rcases x.keep a o e h1 h2 with e1 | ⟨hc, sl, e1⟩
    · exact .inl (y.1 a _ ha e1)
    · exact .inr ⟨hc, sl, y.1 a _ ha e1⟩
  solid := fun a o e h => y.1 a o (fun q => by rw [hS a q] at e; cases e) (x.solid a o e h)
  alive := fun a o e => let ⟨o', e'⟩ := x.alive a o e; ⟨o', y.1 a o' (fun q => by rw [hS a q] at e; cases e) e'⟩
  gens := y.2.1.trans x.gens
  os := y.2.2.trans x.os
theorem shp_solids (x : ∀ a ∈ S, Shp s.heap a) (y : Side S s s') : Solids s.heap s'.heap := fun a o e h => y.1 a o (fun q => by
  obtain ⟨o', e', h', _⟩ := x a q
  rw [e] at e'; cases e'; exact h' h) e
theorem Aside.solids (x : Aside C F ρ s.heap S) (y : Side S s s') : Solids s.heap s'.heap := shp_solids (fun a ha => (x a ha).2.2.2) y
theorem Rel.side0 (R : Rel C F ρ m s) (ok : FmOk F) (hs : Solids s.heap s'.heap) (x : ∀ a ∈ S, a ∉ ρ ∧ a ∉ F.W ++ F.V ∧ C.base.get? a = none) (hout : ∀ e ∈ F.outer, ∀ L, e.frame = some L → L ∉ S) (y : Side S s s') : Rel C F ρ m s' :=
  R.up ok hs (List.prefix_refl _) (R.hp.up hs (fun a ha o e => y.1 a o (fun q => (x a q).1 ha) e) fun b o e => y.1 b o (fun q => by rw [(x b q).2.2] at e; cases e) (R.hp.base b o e)) (fun a h => .inl h)
    (fun a ha o e => ⟨o, y.1 a o (fun q => (x a q).2.1 ha) e, rfl, rfl⟩) (fun e he L hL o eo => ⟨o, y.1 L o (hout e he L hL) eo, rfl, rfl⟩) y.2.1
theorem out_aside (R : Rel C F ρ m s) (x : ∀ a ∈ S, Shp s.heap a) : ∀ e ∈ F.outer, ∀ L, e.frame = some L → L ∉ S := fun e he L hL q => by
  obtain ⟨_, L', o', es, k, h1, _, _, _, h5, h6, h7⟩ := R.out e he
  rw [hL] at h1; cases h1
  obtain ⟨o2, g1, _, g2⟩ := x L q
  rw [h5] at g1; cases g1
  exact g2 h6
theorem Rel.side (R : Rel C F ρ m s) (ok : FmOk F) (x : Aside C F ρ s.heap S) (y : Side S s s') : Rel C F ρ m s' :=
  R.side0 ok (x.solids y) (fun a ha => ⟨(x a ha).1, (x a ha).2.1, (x a ha).2.2.1⟩) (out_aside R fun a ha => (x a ha).2.2.2) y
theorem Aside.step (x : Aside C F ρ s.heap S) (st : Step F.W ρ s ρ' s') : Aside C F ρ' s'.heap S ∧ ∀ a ∈ S, ∀ o, s.heap.get? a = some o → s'.heap.get? a = some o := by
  have keep : ∀ a ∈ S, ∀ o, s.heap.get? a = some o → s'.heap.get? a = some o := fun a ha o e => by
    obtain ⟨h1, h2, h3, o', e', h4, h6⟩ := x a ha
    rw [e] at e'; cases e'
    rcases st.keep a o e h1 (fun q => h2 (List.mem_append_left _ q)) with q | ⟨q, _⟩
    · exact q
    · exact absurd q h6
  refine ⟨fun a ha => ?_, keep⟩
  obtain ⟨h1, h2, h3, o', e', h4, h6⟩ := x a ha
  refine ⟨fun q => (st.new a q).elim h1 fun q => ?_, h2, h3, o', keep a ha _ e', h4, h6⟩
  rw [q] at e'; cases e'
/-- the shapes are new, the places stay -/
theorem Aside.shape {h h' : Heap} (x : Aside C F ρ h S) (y : ∀ a ∈ S, Shp h' a) : Aside C F ρ h' S := fun a ha => ⟨(x a ha).1, (x a ha).2.1, (x a ha).2.2.1, y a ha⟩

/-- something that is gone over -/
structure Walk (C : Glo) (A : Around) (target : Expr) (itv : Value) (items : List MV) (g : Option (Nat × List MV)) (S : List Addr) (It : Nat → List Addr → Shared → Prop) : Prop where
  shape : ∀ i ρ s, It i ρ s → ∀ a ∈ S, Shp s.heap a
  keep : ∀ i ρ ρ' s s', It i ρ s → ρ <+: ρ' → Solids s.heap s'.heap → (∀ a ∈ S, ∀ o, s.heap.get? a = some o → s'.heap.get? a = some o) → It i ρ' s'
  item : ∀ i ρ hp s x, Hp C ρ hp s.heap → guardOk g hp → It i ρ s → items[i]? = some x → ∀ (E : Value → Shared → Prop) (N : Shared → Prop) (P : Value → Shared → Prop),
    (∀ v s₂, Side S s s₂ → It (i + 1) ρ s₂ → Rep C ρ s₂.heap x v → P v s₂) →
      wpAny (mod C) A (pyNext itv) (fun r s₁ => match r with
        | none => N s₁
        | some v => wpAny (mod C) A (letOwnedTupleGo target itv v) (fun _ s₂ => P v s₂) E s₁) E s
  done : ∀ i ρ hp s, Hp C ρ hp s.heap → guardOk g hp → It i ρ s → items[i]? = none → ∀ (E : Value → Shared → Prop) (P : Shared → Prop),
    (∀ s₂, Side S s s₂ → P s₂) → wpAny (mod C) A (pyNext itv) (fun r s₁ => r = none ∧ P s₁) E s
  self : ∀ i ρ s, It i ρ s → ∀ (E : Value → Shared → Prop) (P : Value → Shared → Prop), P itv s → wpAny (mod C) A (pyIter itv) P E s

theorem aside_new {h : Heap} {o : Obj} {a : Addr} (R : Rel C F ρ m s) (ha : s.heap.get? a = none) (e : h.get? a = some o) (h1 : ¬ Solid o) (h3 : o.cls ≠ .type "frame") :
    a ∉ ρ ∧ a ∉ F.W ++ F.V ∧ C.base.get? a = none ∧ Shp h a := by
  refine ⟨fun q => ?_, fun q => ?_, base_fresh R.hp ha, o, e, h1, h3⟩
  · obtain ⟨o', e'⟩ := R.hp.there q; rw [ha] at e'; cases e'
  · obtain ⟨_, _, o', e', _⟩ := R.w a q; rw [ha] at e'; cases e'
theorem not_solid_fields {T : String} {o : Obj} (hc : o.cls = .type T) (hT : T ≠ "tuple") : ¬ Solid o := fun h => by
  rcases h with ⟨q, _⟩ | ⟨⟨c, q⟩, _⟩
  · rw [hc] at q; cases q; exact hT rfl
  · rw [hc] at q; cases q

theorem shp_one {h : Heap} {a : Addr} {o : Obj} {T : String} (e : h.get? a = some o) (hc : o.cls = .type T) (hT : T ≠ "tuple") (hF : T ≠ "frame") : ∀ b ∈ [a], Shp h b := by
  intro b hb
  have : b = a := by simpa using hb
  subst this
  exact ⟨o, e, not_solid_fields hc hT, by rw [hc]; intro q; cases q; exact hF rfl⟩
/-- a list's iterator -/
noncomputable def ItList (it l : Addr) (r : Nat) : Nat → List Addr → Shared → Prop := fun i ρ s => s.heap.IsListIter it l i ∧ ρ[r]? = some l
theorem side_same {a : Addr} {h' : Heap} {t : Nat} (hs : Heap.SameBut a s.heap h') : Side [a] s { s with heap := h', toks := t } := ⟨fun b o hb e => (hs.2 b (by simpa using hb)).trans e, rfl, rfl⟩
theorem side_ext {a : Addr} {h' : Heap} {t : Nat} (hs : Heap.ExtBut a s.heap h') : Side [a] s { s with heap := h', toks := t } := ⟨fun b o hb e => hs b o (by simpa using hb) e, rfl, rfl⟩

noncomputable def isTarget (e : Expr) : Bool := (xName e).isSome || (xTup e).isSome
/-- no tuple is the iterator's own -/
theorem letOwned_no {target : Expr} (ht : isTarget target = true) {it : Addr} {v : Value} {o : Obj} {A : Around} {E : Value → Shared → Prop} {P : Unit → Shared → Prop} (e : s.heap.get? it = some o) {T : String} (hc : o.cls = .type T)
    (hT : (["enumerate", "zip", "dict_itemiterator", "dict_reverseitemiterator", "odict_iterator", "itertools.zip_longest", "itertools.pairwise"].contains T) = false) (h : P () s) : wpAny (mod C) A (letOwnedTupleGo target (.ref it) v) P E s := by
  unfold isTarget at ht
  rw [Bool.or_eq_true, Option.isSome_iff_exists, Option.isSome_iff_exists] at ht
  rcases ht with ⟨x, hx⟩ | ⟨xs, hx⟩
  · obtain ⟨p, rfl⟩ := xName_eq hx
    exact wpAny_pure h
  · obtain ⟨k, p, rfl⟩ := xTup_eq hx
    unfold letOwnedTupleGo
    cases v with
    | ref a =>
      refine wpAny_bind (wpAny_load e ?_)
      rw [hc]
      cases o.data with
      | fields vs =>
        simp only [hT, Bool.false_and, Bool.false_eq_true, if_false]
        exact wpAny_pure h
      | _ => exact wpAny_pure h
    | _ => exact wpAny_pure h

theorem walk_list (hn : A.handled = none) {target : Expr} (ht : isTarget target = true) {it l : Addr} {r : Nat} {xs : List MV} : Walk C A target (.ref it) xs (some (r, xs)) [it] (ItList it l r) where
  shape := fun i ρ s h => by obtain ⟨⟨o, e, hc, hd⟩, _⟩ := h; exact shp_one e hc (by decide) (by decide)
  keep := fun i ρ ρ' s s' h hp hs k => by
    obtain ⟨⟨o, e, r1, r2⟩, e2⟩ := h
    exact ⟨⟨o, k it (by simp) o e, r1, r2⟩, pre_get hp e2⟩
  item := fun i ρ hp s x R hg h hx E N P k => by
    obtain ⟨hit, e2⟩ := h
    obtain ⟨items, c, gi, rl, z⟩ := R.objs _ _ _ hg e2
    obtain ⟨v, hv, rv⟩ := rl.get hx
    have sh : ∀ a ∈ [it], Shp s.heap a := by obtain ⟨o, e, hc, hd⟩ := id hit; exact shp_one e hc (by decide) (by decide)
    refine wpAny_pyNext_list_item hit ⟨_, gi, rfl, _, rfl⟩ (by simpa using hv) fun h' hit' hs => ?_
    have sd := side_same (t := s.toks) hs
    obtain ⟨o, eo, hc, hd⟩ := id hit'
    refine letOwned_no ht (s := { s with heap := h' }) eo hc (by decide) (k v _ sd ⟨hit', e2⟩ (rv.up (shp_solids sh sd) (List.prefix_refl _)))
  done := fun i ρ hp s R hg h hx E P k => by
    obtain ⟨hit, e2⟩ := h
    obtain ⟨items, c, gi, rl, z⟩ := R.objs _ _ _ hg e2
    refine wpAny_pyNext_list_end hn hit ⟨_, gi, rfl, _, rfl⟩ (i := i) ?_ fun h' he => ⟨rfl, k _ (side_ext (t := s.toks) he)⟩
    rw [List.getElem?_eq_none_iff] at hx
    simp [rl.length, hx]
  self := fun i ρ s h E P hp => wpAny_pyIter_listiter h.1 hp

/-- a tuple's iterator -/
noncomputable def ItTup (C : Glo) (it t : Addr) (xs : List MV) : Nat → List Addr → Shared → Prop :=
  fun i ρ s => s.heap.IsTupleIter it t i ∧ ∃ items n, s.heap.get? t = some (tupO items n) ∧ RepL C ρ s.heap xs items
theorem walk_tup (hn : A.handled = none) {target : Expr} (ht : isTarget target = true) {it t : Addr} {xs : List MV} : Walk C A target (.ref it) xs none [it] (ItTup C it t xs) where
  shape := fun i ρ s h => by obtain ⟨⟨o, e, hc, hd⟩, _⟩ := h; exact shp_one e hc (by decide) (by decide)
  keep := fun i ρ ρ' s s' h hp hs k => by
    obtain ⟨⟨o, e, r1, r2⟩, items, n, e2, rl⟩ := h
    exact ⟨⟨o, k it (by simp) o e, r1, r2⟩, items, n, hs _ _ e2 solid_tup, rl.up hs hp⟩
  item := fun i ρ hp s x R hg h hx E N P k => by
    obtain ⟨hit, items, n, e2, rl⟩ := h
    obtain ⟨v, hv, rv⟩ := rl.get hx
    have sh : ∀ a ∈ [it], Shp s.heap a := by obtain ⟨o, e, hc, hd⟩ := id hit; exact shp_one e hc (by decide) (by decide)
    refine wpAny_pyNext_tuple_item hit ⟨_, e2, rfl, _, rfl⟩ (by simpa using hv) fun h' hit' hs => ?_
    have sd := side_same (t := s.toks) hs
    have hsol := shp_solids sh sd
    obtain ⟨o, eo, hc, hd⟩ := id hit'
    refine letOwned_no ht (s := { s with heap := h' }) eo hc (by decide) (k v _ sd ⟨hit', items, n, hsol _ _ e2 solid_tup, rl.up hsol (List.prefix_refl _)⟩ (rv.up hsol (List.prefix_refl _)))
  done := fun i ρ hp s R hg h hx E P k => by
    obtain ⟨hit, items, n, e2, rl⟩ := h
    refine wpAny_pyNext_tuple_end hn hit ⟨_, e2, rfl, _, rfl⟩ (i := i) ?_ fun h' he => ⟨rfl, k _ (side_ext (t := s.toks) he)⟩
    rw [List.getElem?_eq_none_iff] at hx
    simp [rl.length, hx]
  self := fun i ρ s h E P hp => wpAny_pyIter_tupleiter h.1 hp

/-- a range's iterator -/
noncomputable def ItRange (it : Addr) (a : Int) (k : Nat) : Nat → List Addr → Shared → Prop := fun i ρ s => IsRangeIter s.heap it (a + i) ((k : Int) - i) 1
theorem walk_range (hn : A.handled = none) {target : Expr} (ht : isTarget target = true) {it : Addr} {a : Int} {k : Nat} : Walk C A target (.ref it) ((List.range k).map (fun (i : Nat) => .int (a + i))) none [it] (ItRange it a k) where
  shape := fun i ρ s h => shp_one h rfl (by decide) (by decide)
  keep := fun i ρ ρ' s s' h hp hs k => k it (by simp) _ h
  item := fun i ρ hp s x R hg hit hx E N P kk => by
    simp only [List.getElem?_map, Option.map_eq_some_iff] at hx
    obtain ⟨j, hj, rfl⟩ := hx
    obtain ⟨hlt, hj⟩ := List.getElem?_eq_some_iff.mp hj
    simp at hj hlt; subst hj
    refine wpAny_pyNext_range_item hit (by omega) fun h' hit' hs => ?_
    have sd := side_same (t := s.toks + 1) hs
    have hit'' : IsRangeIter h' it (a + ((i + 1 : Nat) : Int)) ((k : Int) - ((i + 1 : Nat) : Int)) 1 := by
      have e1 : a + ((i + 1 : Nat) : Int) = a + i + 1 := by omega
      have e2 : (k : Int) - ((i + 1 : Nat) : Int) = k - i - 1 := by omega
      rw [e1, e2]; exact hit'
    exact letOwned_no ht (s := { s with heap := h', toks := s.toks + 1 }) hit' rfl (by decide) (kk _ _ sd hit'' (.int _ _))
  done := fun i ρ hp s R hg hit hx E P kk => by
    have hit : IsRangeIter s.heap it (a + i) ((k : Int) - i) 1 := hit
    rw [List.getElem?_eq_none_iff] at hx
    simp at hx
    exact wpAny_pyNext_range_end hn hit (by omega) fun h' he => ⟨rfl, kk _ (side_ext (t := s.toks) he)⟩
  self := fun i ρ s h E P hp => wpAny_pyIter_rangeiter h hp

/-- enumerate over a list -/
noncomputable def ItEnum (e it l : Addr) (r : Nat) : Nat → List Addr → Shared → Prop :=
  fun i ρ s => (∃ old, IsEnum s.heap e it i old) ∧ s.heap.IsListIter it l i ∧ ρ[r]? = some l
theorem shp_two {h' : Heap} {e it l : Addr} {i : Nat} {j : Int} {old : Value} (h1 : IsEnum h' e it j old) (h2 : h'.IsListIter it l i) : ∀ a ∈ [e, it], Shp h' a := by
  intro a ha
  have : a = e ∨ a = it := by simpa using ha
  rcases this with rfl | rfl
  · exact shp_one h1 rfl (by decide) (by decide) a (by simp)
  · obtain ⟨o, e1, e2, e3⟩ := h2
    exact shp_one e1 e2 (by decide) (by decide) a (by simp)
theorem walk_enum (hn : A.handled = none) {elts : List Expr} {x1} {pos : Pos} {e it l : Addr} {r : Nat} {xs : List MV} (hne : e ≠ it) : Walk C A (.Tuple elts x1 pos) (.ref e) (xs.zipIdx.map (fun p => .tup [.int p.2, p.1])) (some (r, xs)) [e, it] (ItEnum e it l r) where
  shape := fun i ρ s h => by obtain ⟨⟨old, h1⟩, h2, _⟩ := h; exact shp_two h1 h2
  keep := fun i ρ ρ' s s' h hp hs k => by
    obtain ⟨⟨old, h1⟩, ⟨o, e', r1, r2⟩, e2⟩ := h
    exact ⟨⟨old, k e (by simp) _ h1⟩, ⟨o, k it (by simp) o e', r1, r2⟩, pre_get hp e2⟩
  item := fun i ρ hp s x R hg h hx E N P kk => by
    obtain ⟨⟨old, h1⟩, hit, e2⟩ := h
    have sh := shp_two h1 hit
    obtain ⟨items, c, gi, rl, z⟩ := R.objs _ _ _ hg e2
    simp only [List.getElem?_map, Option.map_eq_some_iff] at hx
    obtain ⟨⟨y, j⟩, hj, rfl⟩ := hx
    rw [List.getElem?_zipIdx] at hj
    simp only [Option.map_eq_some_iff, Nat.zero_add] at hj
    obtain ⟨y', hy, hj⟩ := hj
    cases hj
    obtain ⟨v, hv, rv⟩ := rl.get hy
    refine wpAny_pyNext_enum_item h1 hit ⟨_, gi, rfl, _, rfl⟩ (by simpa using hv) hne fun h' he hit' ht hsz hk => ?_
    refine wpAny_letOwnedTupleGo_enum (s := { s with heap := h', toks := s.toks + 1 }) he fun h2 he2 hs2 => ?_
    have hlt : s.heap.objs.size ≠ e := fun q => absurd (Heap.lt_size h1) (by rw [← q]; exact Nat.lt_irrefl _)
    have ht2 : h2.get? s.heap.objs.size = some (tupO [.int i s.toks, v] 0) := (hs2.2 _ hlt).trans ht
    have hit2 : h2.IsListIter it l (i + 1) := by
      obtain ⟨o, e1, r⟩ := hit'
      exact ⟨o, (hs2.2 it (fun q => hne q.symm)).trans e1, r⟩
    have sd : Side [e, it] s { s with heap := h2, toks := s.toks + 1 } := ⟨fun b o hb eb => by
      simp at hb
      exact (hs2.2 b hb.1).trans (hk b o hb.1 hb.2 eb), rfl, rfl⟩
    refine kk _ _ sd ⟨⟨v, ?_⟩, hit2, e2⟩ (.tup ht2 (.cons (.int _ _) (.cons (rv.up (shp_solids sh sd) (List.prefix_refl _)) .nil)) (by unfold line; simp))
    have : (((i + 1 : Nat)) : Int) = (i : Int) + 1 := by omega
    rw [this]; exact he2
  done := fun i ρ hp s R hg h hx E P kk => by
    obtain ⟨⟨old, h1⟩, hit, e2⟩ := h
    obtain ⟨items, c, gi, rl, z⟩ := R.objs _ _ _ hg e2
    rw [List.getElem?_eq_none_iff] at hx
    simp at hx
    refine wpAny_pyNext_enum_end hn h1 hit ⟨_, gi, rfl, _, rfl⟩ (by simp [rl.length, hx]) fun h' he => ⟨rfl, kk _ ⟨fun b o hb eb => he b o (by simp at hb; exact hb.2) eb, rfl, rfl⟩⟩
  self := fun i ρ s h E P hp => by obtain ⟨⟨old, h1⟩, _⟩ := h; exact wpAny_pyIter_enum h1 hp

/-- a text's iterator -/
noncomputable def ItStr (it : Addr) (x : List Nat) (t : Tok) : Nat → List Addr → Shared → Prop := fun i ρ s => s.heap.IsStrIter it "str_ascii_iterator" (str x) t i
theorem walk_str (hn : A.handled = none) {target : Expr} (ht : isTarget target = true) {it : Addr} {x : List Nat} {t : Tok} : Walk C A target (.ref it) (x.map (fun c => .str [c])) none [it] (ItStr it x t) where
  shape := fun i ρ s h => by obtain ⟨o, e, hc, hd⟩ := h; exact shp_one e hc (by decide) (by decide)
  keep := fun i ρ ρ' s s' h hp hs k => by
    obtain ⟨o, e, r⟩ := h
    exact ⟨o, k it (by simp) _ e, r⟩
  item := fun i ρ hp s y R hg hit hx E N P kk => by
    simp only [List.getElem?_map, Option.map_eq_some_iff] at hx
    obtain ⟨j, hj, rfl⟩ := hx
    refine wpAny_pyNext_ascii_item hit (c := j) (by simpa using hj) fun h' hit' hs => ?_
    have sd := side_same (t := s.toks + 1) hs
    obtain ⟨o, eo, hc, hd⟩ := id hit'
    exact letOwned_no ht (s := { s with heap := h', toks := s.toks + 1 }) eo hc (by decide) (kk _ _ sd hit' (.str [j] _ (by unfold line; simp)))
  done := fun i ρ hp s R hg hit hx E P kk => by
    rw [List.getElem?_eq_none_iff] at hx
    simp at hx
    exact wpAny_pyNext_ascii_end hn hit (by simp [hx]) fun h' he => ⟨rfl, kk _ (side_ext (t := s.toks) he)⟩
  self := fun i ρ s h E P hp => wpAny_pyIter_striter_ascii h hp
end
end Mine
end
section
set_option autoImplicit false
set_option linter.unusedVariables false
namespace Mine
open PySem PyProof.Rows

/-- an expression is what its tree does -/
noncomputable def SV (C : Glo) (X : XM) (n : Nat) (c : Cx) (F : Fm) (me : ME) : Prop :=
  ∀ (e : Expr), chkE c me e = true → ∀ (Q : PQ) (m : MS), wpE (Call C) n me Q X m → WPv C F X (eval e F.env) Q m

section
variable {C : Glo} {F : Fm} {X : XM} {c : Cx} {n : Nat} {ρ ρ' ρ₀ : List Addr} {m : MS} {s s' s₀ : Shared} {A : Around} {E : Value → Shared → Prop}

theorem chkT_target {t : List Nat} {many : Bool} {e : Expr} (h : chkT c t many e = true) : isTarget e = true := by
  unfold chkT at h
  unfold isTarget
  split at h
  · unfold chkT1 at h
    split at h
    · rename_i x _ hx; rw [hx]; rfl
    · cases h
  · split at h
    · rename_i hx; rw [hx]; simp
    · cases h
theorem chkT_many {t : List Nat} {e : Expr} (h : chkT c t true e = true) : ∃ elts k p, e = .Tuple elts k p ∧ chkNames c t elts = true := by
  have h : (match xTup e with
    | some elts => chkNames c t elts
    | none => false) = true := h
  split at h
  · rename_i elts hx
    obtain ⟨k, p, e⟩ := xTup_eq hx
    exact ⟨elts, k, p, e, h⟩
  · cases h
theorem chkT_one {t : List Nat} {e : Expr} (h : chkT c t false e = true) : ∃ i x p, t = [i] ∧ e = .Name x p ∧ c.nm i = some x ∧ setOk c x = true := by
  replace h : chkT1 c t (xName e) = true := h
  unfold chkT1 at h
  split at h
  · rename_i x i hx
    obtain ⟨p, e⟩ := xName_eq hx
    simp only [Bool.and_eq_true, beq_iff_eq] at h
    exact ⟨i, x, p, rfl, e, h.1, h.2⟩
  · cases h

/-- what stands ahead of a loop -/
noncomputable def OutI (C : Glo) (F : Fm) (target : Expr) (ρ : List Addr) (s : Shared) (P : List MV → Option (Nat × List MV) → MS → Prop) : Value → Shared → Prop :=
  fun itv s₂ => ∃ ρ₂ m₂ items g S It, Step F.W ρ s ρ₂ s₂ ∧ Rel C F ρ₂ m₂ s₂ ∧ Walk C F.A target itv items g S It ∧ It 0 ρ₂ s₂ ∧ Aside C F ρ₂ s₂.heap S ∧ (∀ a ∈ S, s.heap.get? a = none) ∧ items.length ≤ line ∧ P items g m₂

theorem none_back {W : List Addr} (st : Step W ρ s ρ' s') {a : Addr} (h : s'.heap.get? a = none) : s.heap.get? a = none := by
  cases e : s.heap.get? a with
  | none => rfl
  | some o => obtain ⟨o', e'⟩ := st.alive a o e; rw [h] at e'; cases e'

theorem outI {target : Expr} {P : List MV → Option (Nat × List MV) → MS → Prop} {o : Obj} {items : List MV} {g : Option (Nat × List MV)} {It : Nat → List Addr → Shared → Prop} {T : String} (cx : CxOk C c F n) (R : Rel C F ρ m s) (st₀ : Step F.W ρ₀ s₀ ρ s)
    (hc : o.cls = .type T) (hT : T ≠ "tuple") (hF : T ≠ "frame") (hf : o.isFreed = false) (wk : Walk C F.A target (.ref s.heap.objs.size) items g [s.heap.objs.size] It) (h0 : ∀ s₂ : Shared, s₂.heap = s.heap.push o → It 0 ρ s₂) (hl : items.length ≤ line) (hp : P items g m) {tk : Nat} :
    OutI C F target ρ₀ s₀ P (.ref s.heap.objs.size) { s with heap := s.heap.push o, toks := tk } := by
  have hk : ∀ q ob, s.heap.get? q = some ob → (s.heap.push o).get? q = some ob := fun q ob e => Heap.get?_push_of_some _ e
  obtain ⟨R', st⟩ := R.grow (s' := { s with heap := s.heap.push o, toks := tk }) cx.fm hk rfl rfl
  have hnew : s.heap.get? s.heap.objs.size = none := fresh_at (Nat.le_refl _)
  refine ⟨ρ, m, items, g, _, It, st₀.trans st, R', wk, h0 _ rfl, ?_, fun q hq => ?_, hl, hp⟩
  · intro q hq
    have : q = s.heap.objs.size := by simpa using hq
    subst this
    exact aside_new R hnew (Heap.get?_push_size _ hf) (not_solid_fields hc hT) (by rw [hc]; intro q; cases q; exact hF rfl)
  · have : q = s.heap.objs.size := by simpa using hq
    subst this
    exact none_back st₀ hnew

theorem range_it (cx : CxOk C c F n) (R : Rel C F ρ m s) (st₀ : Step F.W ρ₀ s₀ ρ s) {target : Expr} (ht : isTarget target = true) {a b : Int} {r : Addr} {t u v : Tok} (hr : IsRange s.heap r a b 1 t u v)
    (h1 : -16777216 ≤ a) (h2 : a ≤ 16777216) (h3 : -16777216 ≤ b) (h4 : b ≤ 16777216) (h5 : (b - a).toNat ≤ line) {P : List MV → Option (Nat × List MV) → MS → Prop} (h : P ((List.range (b - a).toNat).map (fun (i : Nat) => .int (a + i))) none m) :
    wpAny (mod C) A (pyIter (.ref r)) (OutI C F target ρ₀ s₀ P) E s := by
  refine wpAny_pyIter_range hr (small_one (by omega) (by omega) (by omega) (by omega)) ?_
  refine outI cx R st₀ (T := "range_iterator") rfl (by decide) (by decide) rfl (walk_range (a := a) (k := (b - a).toNat) cx.fm.hn ht) (fun s₂ e => ?_) (by simpa using h5) h
  have e1 : a + ((0 : Nat) : Int) = a := by omega
  have e2 : (((b - a).toNat : Nat) : Int) - ((0 : Nat) : Int) = Builtin.Range.rangeSize a b 1 := by rw [rangeSize_one]; split <;> omega
  show IsRangeIter _ _ _ _ _
  rw [e1, e2, e]
  exact Heap.get?_push_size _ rfl

theorem one_of {src : List ME} {y : Expr} (h : chkEs c src [y] = true) : ∃ a, src = [a] ∧ okX y = true ∧ chkE c a y = true := by
  cases src with
  | nil => simp [chkEs] at h
  | cons a r =>
    unfold chkEs at h
    simp only [Bool.and_eq_true] at h
    cases r with
    | nil => exact ⟨a, rfl, h.1⟩
    | cons => simp [chkEs] at h
theorem two_of {src : List ME} {y z : Expr} (h : chkEs c src [y, z] = true) : ∃ a b, src = [a, b] ∧ (okX y = true ∧ chkE c a y = true) ∧ okX z = true ∧ chkE c b z = true := by
  cases src with
  | nil => simp [chkEs] at h
  | cons a r =>
    unfold chkEs at h
    simp only [Bool.and_eq_true] at h
    obtain ⟨b, rfl, hb⟩ := one_of h.2
    exact ⟨a, b, rfl, h.1, hb⟩

theorem soundIt (G : GOk C) (cx : CxOk C c F n) {k : IK} {src : List ME} {e target : Expr} (hsrc : ∀ a ∈ src, SV C X n c F a) {xs : List Expr} (hxs : itArgs c k e = some xs) (hc : chkEs c src xs = true) (htt : isTarget target = true)
    (hm : isEnum k = true → ∃ elts k p, target = .Tuple elts k p ∧ True)
    {P : List MV → Option (Nat × List MV) → MS → Prop} (h : wpEs (Call C) n src (fun vs m => match iterOf k vs m.heap with
      | some (items, g) => P items g m
      | none => False) X m) (R : Rel C F ρ m s) :
    wpAny (mod C) F.A (eval e F.env) (fun xv s₁ => wpAny (mod C) F.A (pyIter xv) (OutI C F target ρ s P) (Er C F X ρ s) s₁) (Er C F X ρ s) s := by
  unfold itArgs at hxs
  cases k with
  | val =>
    cases hxs
    obtain ⟨a, rfl, hx, hc⟩ := one_of hc
    unfold wpEs at h
    refine (hsrc a (by simp) e hc _ m h).go R (.refl _ _ _) fun ρ₁ s₁ m₁ x v st t1 R₁ rx h₁ => ?_
    unfold wpEs at h₁
    unfold iterOf at h₁
    cases rx with
    | @ref _ la g =>
      simp only at h₁
      split at h₁
      · rename_i items' g' e1
        split at e1
        · rename_i xs hi
          cases e1
          obtain ⟨items, n', gi, rl, z⟩ := R₁.hp.objs _ _ _ hi g
          refine wpAny_pyIter_list ⟨_, gi, rfl, _, rfl⟩ ?_
          exact outI cx R₁ t1 (T := "list_iterator") rfl (by decide) (by decide) rfl (walk_list cx.fm.hn htt) (fun s₂ e => ⟨⟨_, by rw [e]; exact Heap.get?_push_size _ rfl, rfl, rfl⟩, g⟩) z h₁
        · cases e1
      · exact h₁.elim
    | @tup ta _ _ _ gi rl z =>
      simp only at h₁
      refine wpAny_pyIter_tuple ⟨_, gi, rfl, _, rfl⟩ ?_
      have hk : ∀ q ob, s₁.heap.get? q = some ob → (s₁.heap.push { cls := .type "tuple_iterator", data := .fields #[.ref ta, .int 0 0] }).get? q = some ob := fun q o e => Heap.get?_push_of_some _ e
      exact outI cx R₁ t1 (T := "tuple_iterator") rfl (by decide) (by decide) rfl (walk_tup cx.fm.hn htt) (fun s₂ e => ⟨⟨_, by rw [e]; exact Heap.get?_push_size _ rfl, rfl, rfl⟩, _, _, by rw [e]; exact hk _ _ gi, by rw [e]; exact rl.up (fun a o e _ => hk a o e) (List.prefix_refl _)⟩) z h₁
    | str y u z =>
      simp only at h₁
      split at h₁
      · rename_i items' g' e1
        split at e1
        · rename_i ha
          cases e1
          refine wpAny_pyIter_ascii (by rw [← ha]; simp) ?_
          exact outI cx R₁ t1 (T := "str_ascii_iterator") rfl (by decide) (by decide) rfl (walk_str cx.fm.hn htt) (fun s₂ e => ⟨_, by rw [e]; exact Heap.get?_push_size _ rfl, rfl, rfl⟩) (by simpa using z) h₁
        · cases e1
      · exact h₁.elim
    | _ => exact h₁.elim
  | range1 =>
    simp only at hxs
    split at hxs
    · rename_i g y pos hxx
      have ee := xCall_eq hxx
      subst ee
      split at hxs
      · rename_i x hx
        obtain ⟨px, rfl⟩ := xName_eq hx
        split at hxs
        · rename_i hg
          cases hxs
          simp only [Bool.and_eq_true, beq_iff_eq] at hg
          obtain ⟨hg, rfl⟩ := hg
          obtain ⟨a, rfl, hy, ha⟩ := one_of hc
          refine PyProof.Rows.Call_Name rfl (load_blt cx R (v := .type "range") (at_mem 8 rfl) (glName_ok hg).1 (glName_ok hg).2 ?_)
          refine call_args (.inr ⟨_, rfl⟩) (by rw [okX_star hy]; rfl) (by rw [okX_star hy]; simp [backTo]) ?_
          rw [okX_star hy]
          unfold wpEs at h
          refine Calls.spliced_cons ((hsrc a (by simp) y ha _ m h).go R (.refl _ _ _) fun ρ₁ s₁ m₁ x v st t1 R₁ rx h₁ => Calls.spliced_nil ?_)
          unfold wpEs at h₁
          unfold iterOf at h₁
          cases rx with
          | int i t =>
            simp only at h₁
            split at h₁
            · rename_i items' g' e1
              split at e1
              · rename_i d1 d2
                cases e1
                simp only [decide_eq_true_eq] at d1 d2
                refine call_range_1 ?_
                have hk : ∀ q o, s₁.heap.get? q = some o → (s₁.heap.push { cls := .type "range", data := .fields #[.int 0 s₁.toks, .int i t, .int 1 (s₁.toks + 1)] }).get? q = some o := fun q o e => Heap.get?_push_of_some _ e
                obtain ⟨R', st'⟩ := R₁.grow (s' := { s₁ with heap := s₁.heap.push { cls := .type "range", data := .fields #[.int 0 s₁.toks, .int i t, .int 1 (s₁.toks + 1)] }, toks := s₁.toks + 1 + 1 }) cx.fm hk rfl rfl
                refine range_it cx R' (t1.trans st') htt (IsRange.new _ _ _ _ _ _ _) (by omega) (by omega) d1 d2 (by unfold line; omega) ?_
                simpa using h₁
              · cases e1
            · exact h₁.elim
          | _ => exact h₁.elim
        · cases hxs
      · cases hxs
    · cases hxs
  | range2 =>
    simp only at hxs
    split at hxs
    · rename_i g y z pos hxx
      have ee := xCall_eq hxx
      subst ee
      split at hxs
      · rename_i x hx
        obtain ⟨px, rfl⟩ := xName_eq hx
        split at hxs
        · rename_i hg
          cases hxs
          simp only [Bool.and_eq_true, beq_iff_eq] at hg
          obtain ⟨hg, rfl⟩ := hg
          obtain ⟨a, b, rfl, ⟨hy, ha⟩, hz, hb⟩ := two_of hc
          refine PyProof.Rows.Call_Name rfl (load_blt cx R (v := .type "range") (at_mem 8 rfl) (glName_ok hg).1 (glName_ok hg).2 ?_)
          refine call_args (.inr ⟨_, rfl⟩) (by rw [okX_star hy, okX_star hz]; rfl) (by rw [okX_star hy]; simp [backTo]) ?_
          rw [okX_star hy, okX_star hz]
          unfold wpEs at h
          refine Calls.spliced_cons ((hsrc a (by simp) y ha _ m h).go R (.refl _ _ _) fun ρ₁ s₁ m₁ x v st t1 R₁ rx h₁ => ?_)
          unfold wpEs at h₁
          refine Calls.spliced_cons ((hsrc b (by simp) z hb _ m₁ h₁).go R₁ t1 fun ρ₂ s₂ m₂ x' v' st2 t2 R₂ rx' h₂ => Calls.spliced_nil ?_)
          unfold wpEs at h₂
          unfold iterOf at h₂
          cases rx with
          | int i t =>
            cases rx' with
            | int j t' =>
              simp only at h₂
              split at h₂
              · rename_i items' g' e1
                split at e1
                · rename_i d1 d2 d3 d4
                  cases e1
                  simp only [decide_eq_true_eq] at d1 d2 d3 d4
                  refine call_range_2 ?_
                  have hk : ∀ q o, s₂.heap.get? q = some o → (s₂.heap.push { cls := .type "range", data := .fields #[.int i t, .int j t', .int 1 s₂.toks] }).get? q = some o := fun q o e => Heap.get?_push_of_some _ e
                  obtain ⟨R', st'⟩ := R₂.grow (s' := { s₂ with heap := s₂.heap.push { cls := .type "range", data := .fields #[.int i t, .int j t', .int 1 s₂.toks] }, toks := s₂.toks + 1 }) cx.fm hk rfl rfl
                  exact range_it cx R' (t2.trans st') htt (IsRange.new _ _ _ _ _ _ _) (by omega) (by omega) (by omega) (by omega) (by unfold line; omega) h₂
                · cases e1
              · exact h₂.elim
            | _ => exact h₂.elim
          | _ => exact h₂.elim
        · cases hxs
      · cases hxs
    · cases hxs
  | enum =>
    simp only at hxs
    split at hxs
    · rename_i g y pos hxx
      have ee := xCall_eq hxx
      subst ee
      split at hxs
      · rename_i x hx
        obtain ⟨px, rfl⟩ := xName_eq hx
        split at hxs
        · rename_i hg
          cases hxs
          simp only [Bool.and_eq_true, beq_iff_eq] at hg
          obtain ⟨hg, rfl⟩ := hg
          obtain ⟨a, rfl, hy, ha⟩ := one_of hc
          obtain ⟨elts, k', p', rfl, _⟩ := hm rfl
          refine PyProof.Rows.Call_Name rfl (load_blt cx R (v := .type "enumerate") (at_mem 9 rfl) (glName_ok hg).1 (glName_ok hg).2 ?_)
          refine call_args (.inr ⟨_, rfl⟩) (by rw [okX_star hy]; rfl) (by rw [okX_star hy]; simp [backTo]) ?_
          rw [okX_star hy]
          unfold wpEs at h
          refine Calls.spliced_cons ((hsrc a (by simp) y ha _ m h).go R (.refl _ _ _) fun ρ₁ s₁ m₁ x v st t1 R₁ rx h₁ => Calls.spliced_nil ?_)
          unfold wpEs at h₁
          unfold iterOf at h₁
          have hnew : s₁.heap.get? s₁.heap.objs.size = none := fresh_at (Nat.le_refl _)
          have hnew' : s₁.heap.get? (s₁.heap.objs.size + 1) = none := fresh_at (Nat.le_succ _)
          cases rx with
          | ref g =>
            simp only at h₁
            split at h₁
            · rename_i items' g' e1
              split at e1
              · rename_i xs hi
                cases e1
                obtain ⟨items, n', gi, rl, z⟩ := R₁.hp.objs _ _ _ hi g
                refine call_enumerate_1 gi fun h' he hit hsz hk => ?_
                obtain ⟨R', st'⟩ := R₁.grow (s' := { s₁ with heap := h' }) cx.fm hk rfl rfl
                refine wpAny_pyIter_enum he ?_
                have hne : s₁.heap.objs.size + 1 ≠ s₁.heap.objs.size := Nat.succ_ne_self _
                refine ⟨ρ₁, m₁, _, _, _, _, t1.trans st', R', walk_enum (e := s₁.heap.objs.size + 1) (it := s₁.heap.objs.size) cx.fm.hn hne, ⟨⟨_, he⟩, hit, g⟩, ?_, fun q hq => ?_, by simpa using z, h₁⟩
                · intro q hq
                  have sh := shp_two he hit q hq
                  have : q = s₁.heap.objs.size + 1 ∨ q = s₁.heap.objs.size := by simpa using hq
                  obtain ⟨o, e1, e2, e3⟩ := sh
                  rcases this with rfl | rfl
                  · exact aside_new R₁ hnew' e1 e2 e3
                  · exact aside_new R₁ hnew e1 e2 e3
                · have : q = s₁.heap.objs.size + 1 ∨ q = s₁.heap.objs.size := by simpa using hq
                  rcases this with rfl | rfl
                  · exact none_back t1 hnew'
                  · exact none_back t1 hnew
              · cases e1
            · exact h₁.elim
          | _ => exact h₁.elim
        · cases hxs
      · cases hxs
    · cases hxs
end
end Mine
end
section
set_option autoImplicit false
set_option linter.unusedVariables false
set_option maxRecDepth 100000
namespace Mine
open PySem PyProof.Rows

/-! Sets of texts. -/
noncomputable abbrev setO (es : Array (Int × Value)) (ep : Nat) (t : SetTable) : Obj := { cls := .type "set", dict := none, data := .set es ep t, slots := #[] }
noncomputable abbrev byText (w : World) : Bool := w.params.followText "set-order"

theorem put_marks (t : SetTable) (j : Nat) : (t.put j).1.led = t.led ∧ (t.put j).1.plain = t.plain := by cases t; exact ⟨rfl, rfl⟩
theorem standIn_marks (t : SetTable) (n : Nat) : (t.standIn n).led = t.led ∧ (t.standIn n).plain = false := by cases t; exact ⟨rfl, rfl⟩
theorem orStandIn_marks (t : SetTable) (n : Nat) : (t.orStandIn n).led = t.led ∧ ((t.orStandIn n).plain = true → t.plain = true) := by
  unfold SetTable.orStandIn
  split
  · exact ⟨rfl, id⟩
  · exact ⟨(standIn_marks t n).1, fun h => by rw [(standIn_marks t n).2] at h; cases h⟩
theorem layNew_led (t : SetTable) (es : Array (Int × Value)) (h : Int) (x : Value) : (layNew t es h x).2.1.led = t.led := by
  unfold layNew
  split
  · rename_i slot wd _
    show ((t.put slot).1.orStandIn _).led = _
    rw [(orStandIn_marks _ _).1, (put_marks t slot).1]
  · exact (standIn_marks t _).1
theorem relaid_marks {t t' : SetTable} {hs : Array Int} {w : Nat} {o : Array Nat} (h : t.relaid hs w = some (t', o)) : t'.led = t.led ∧ t'.plain = t.plain := by
  unfold SetTable.relaid SetTable.laid at h
  simp only [Option.bind_eq_bind, Option.bind_eq_some_iff, Option.pure_def, Option.some.injEq, Prod.mk.injEq] at h
  obtain ⟨_, _, rfl, _⟩ := h
  exact ⟨rfl, rfl⟩
theorem relayAll_marks (t : SetTable) (es : Array (Int × Value)) (n : Nat) : (relayAll t es n).2.1.led = t.led ∧ ((relayAll t es n).2.1.plain = true → t.plain = true) := by
  unfold relayAll
  split
  · rename_i t' order h
    obtain ⟨h1, h2⟩ := relaid_marks h
    dsimp only
    split
    · exact ⟨h1, fun h => by rw [← h2]; exact h⟩
    · exact ⟨(standIn_marks t _).1, fun h => by rw [show _ = false from (standIn_marks t _).2] at h; cases h⟩
  · exact ⟨(standIn_marks t _).1, fun h => by rw [show _ = false from (standIn_marks t _).2] at h; cases h⟩

/-- a set of texts, each once -/
noncomputable def SetS (prog : Program) (w : World) (h : Heap) (a : Addr) (ks : List Str) : Prop :=
  ∃ es ep t, h.get? a = some (setO es ep t) ∧ t.fits es.size = true ∧ t.led = !byText w ∧ (es.size = 0 ∨ t.plain = false) ∧ ElemsOf (PySem.strKind prog w) es.toList ∧ (es.toList.map (fun e => strOf e.2)).Perm ks ∧ ks.Nodup
noncomputable def addS (ks : List Str) (k : Str) : List Str := if k ∈ ks then ks else ks ++ [k]
theorem addS_len (ks : List Str) (k : Str) : (addS ks k).length ≤ ks.length + 1 := by unfold addS; split <;> simp

section
variable {prog : Program} {w : World} {A : Around} {E : Value → Shared → Prop} {s : Shared} {a : Addr}

theorem elem_str {l : List (Int × Value)} (h : ElemsOf (PySem.strKind prog w) l) : ∀ e ∈ l, ∃ k t, e.2 = .str k t := fun e he => by
  obtain ⟨⟨k, hk, _⟩, _⟩ := h e he
  obtain ⟨t, ht⟩ := Value.isStrOf_shape hk
  exact ⟨k, t, ht⟩
theorem is_strOf {l : List (Int × Value)} (h : ElemsOf (PySem.strKind prog w) l) (k : Str) : (∃ e ∈ l, (PySem.strKind prog w).is k e.2 = true) ↔ k ∈ l.map (fun e => strOf e.2) := by
  constructor
  · rintro ⟨e, he, hk⟩
    obtain ⟨t, ht⟩ := Value.isStrOf_shape hk
    exact List.mem_map.mpr ⟨e, he, by rw [ht]; rfl⟩
  · intro hk
    obtain ⟨e, he, hk⟩ := List.mem_map.mp hk
    obtain ⟨x, t, ht⟩ := elem_str h e he
    refine ⟨e, he, ?_⟩
    rw [ht] at hk ⊢
    subst hk
    exact strKind_is _ _ _ _

theorem store_S {es : Array (Int × Value)} {ep : Nat} {t : SetTable} {es' : Array (Int × Value)} {t' : SetTable} (ho : s.heap.get? a = some (setO es ep t)) :
    (s.heap.update a (Obj.putSet es' t')).get? a = some (setO es' (ep + 1) t') := by
  have := Heap.get?_update_self (Obj.putSet es' t') ho (by rw [putSet_of es' t' rfl]; rfl)
  rw [putSet_of es' t' rfl] at this; exact this

theorem addTail_S {g : Bool → Sem Unit} (hg : ∀ (b : Bool) (s₁ : Shared) (Q' : Unit → Shared → Prop), Q' () s₁ → wpAny (model prog w) A (g b) Q' E s₁)
    {es : Array (Int × Value)} {ep : Nat} {t : SetTable} (ho : s.heap.get? a = some (setO es ep t)) {es1 : Array (Int × Value)} {t2 : SetTable} {ks : List Str} (hel1 : ElemsOf (PySem.strKind prog w) es1.toList) (hb1 : es1.size < scanBound) (hf2 : t2.fits es1.size = true)
    (hled : t2.led = !byText w) (hpl : t2.plain = false) (hp1 : (es1.toList.map (fun e => strOf e.2)).Perm ks) (hn : ks.Nodup) {wasDummy : Bool} {R : Option Bool → Shared → Prop}
    (h : ∀ h', Heap.SameBut a s.heap h' → SetS prog w h' a ks → R (some true) { s with heap := h' }) :
    wpAny (model prog w) A (do
        storeSet a es1 t2
        if (!wasDummy && t2.tooFull) = true then do
            g (relayAll t2 es1 (SetTable.grown es1.size)).2.2
            storeSet a (relayAll t2 es1 (SetTable.grown es1.size)).1 (relayAll t2 es1 (SetTable.grown es1.size)).2.1
            pure (some true)
          else pure (some true)) R E s := by
  refine wpAny_bind (wpAny_storeSet_of ho rfl ?_ (fits_of_scanBound hb1))
  have ho1 := store_S (s := s) (es' := es1) (t' := t2) ho
  have hsb1 := Heap.SameBut.update s.heap a (Obj.putSet es1 t2)
  split
  · have hp := relayAll_perm t2 es1 (SetTable.grown es1.size)
    have hfr := relayAll_fits t2 es1 (SetTable.grown es1.size)
    have hmk := relayAll_marks t2 es1 (SetTable.grown es1.size)
    generalize relayAll t2 es1 (SetTable.grown es1.size) = Rl at hp hfr hmk ⊢
    obtain ⟨es2, t3, gave2⟩ := Rl
    dsimp only at hp hfr hmk ⊢
    have hsz : es2.size = es1.size := by rw [← Array.length_toList, hp.length_eq, Array.length_toList]
    refine wpAny_bind (hg _ _ _ (wpAny_bind (wpAny_storeSet_of ho1 rfl ?_ (fits_of_scanBound (by rw [hsz]; exact hb1)))))
    have ho2 := store_S (s := { s with heap := s.heap.update a (Obj.putSet es1 t2) }) (es' := es2) (t' := t3) ho1
    refine wpAny_pure (h _ (hsb1.trans (Heap.SameBut.update _ a _)) ⟨es2, _, t3, ho2, hfr, hmk.1.trans hled, .inr ?_, hel1.perm hp, (hp.map _).trans hp1, hn⟩)
    cases q : t3.plain with
    | false => rfl
    | true => rw [hpl] at hmk; exact absurd (hmk.2 q) (by decide)
  · exact wpAny_pure (h _ hsb1 ⟨es1, _, t2, ho1, hf2, hled, .inr hpl, hel1, hp1, hn⟩)

theorem add_S {ks : List Str} {k : Str} {tk : Tok} {Q : Bool → Shared → Prop} (hS : SetS prog w s.heap a ks) (hroom : ks.length + 1 < scanBound)
    (h : ∀ b h', Heap.SameBut a s.heap h' → SetS prog w h' a (addS ks k) → Q b { s with heap := h' }) : wpAny (model prog w) A (setAddHashed a (.str k tk) ((PySem.strKind prog w).hash k)) Q E s := by
  obtain ⟨es, ep, t, ho, hf, hled, hpl, hel, hp, hn⟩ := hS
  have hlen : es.size = ks.length := by rw [← hp.length_eq, List.length_map, Array.length_toList]
  have hb : es.size < scanBound := by rw [hlen]; omega
  have hkey : (PySem.strKind prog w).is k (.str k tk) = true := strKind_is _ _ _ _
  unfold setAddHashed setAddHashedIn
  refine wpAny_holding (wpAny_bind (wpAny_setState_of ho rfl hf ?_))
  dsimp only
  rw [byScan_of (knd := PySem.strKind prog w) (x := .str k tk) rfl hb hel]
  simp only [↓reduceIte]
  unfold setAddByScan
  refine wpAny_bind (wpAny_bind (wpAny_rule (wpAny_bind (wpAny_setScan_of hkey ho rfl hf hel ?_))))
  cases hr : List.findIdx? (fun e => (PySem.strKind prog w).is k e.2) es.toList with
  | some j =>
    dsimp only
    obtain ⟨hj, hpj, _⟩ := List.findIdx?_eq_some_iff_getElem.mp hr
    have hk : k ∈ ks := hp.mem_iff.mp ((is_strOf hel k).mp ⟨_, List.getElem_mem hj, hpj⟩)
    refine wpAny_pure (wpAny_pure ?_)
    have := h false s.heap (Heap.SameBut.refl a s.heap) (by rw [addS, if_pos hk]; exact ⟨es, ep, t, ho, hf, hled, hpl, hel, hp, hn⟩)
    cases s; exact this
  | none =>
    dsimp only
    have hk : k ∉ ks := fun q => by
      obtain ⟨e, he, hpe⟩ := (is_strOf hel k).mpr (hp.mem_iff.mpr q)
      have := List.findIdx?_eq_none_iff.mp hr e he
      rw [hpe] at this; cases this
    have hgw : ∀ (b : Bool) {s₁ : Shared} {Q' : Unit → Shared → Prop}, Q' () s₁ → wpAny (model prog w) A (match b with | true => rule "set.scan.the-table-gave-way" | false => pure ()) Q' E s₁ :=
      fun b s₁ Q' hq => by cases b <;> first | exact wpAny_pure hq | exact wpAny_rule hq
    have hperm := layNew_perm t es ((PySem.strKind prog w).hash k) (.str k tk)
    have hfits := layNew_fits t es ((PySem.strKind prog w).hash k) (.str k tk)
    have hll := layNew_led t es ((PySem.strKind prog w).hash k) (.str k tk)
    generalize layNew t es ((PySem.strKind prog w).hash k) (.str k tk) = L at hperm hfits hll ⊢
    obtain ⟨es1, t1, wasDummy, gave⟩ := L
    dsimp only at hperm hfits hll ⊢
    rw [Array.toList_push] at hperm
    have hel1 : ElemsOf (PySem.strKind prog w) es1.toList := (hel.push hkey rfl).perm hperm
    have hb1' : es1.size < scanBound := by rw [← Array.length_toList, hperm.length_eq, List.length_append, Array.length_toList, hlen]; simpa using hroom
    have hp1 : (es1.toList.map (fun e => strOf e.2)).Perm (ks ++ [k]) := (hperm.map _).trans (by rw [List.map_append]; exact hp.append_right _)
    have hn1 : (ks ++ [k]).Nodup := by
      rw [List.nodup_append]
      exact ⟨hn, by simp, fun x hx y hy => by
        have : y = k := by simpa using hy
        subst this; intro q; subst q; exact hk hx⟩
    have hend : ∀ h', Heap.SameBut a s.heap h' → SetS prog w h' a (ks ++ [k]) → Q true { s with heap := h' } := fun h' hsb hS' => h true h' hsb (by rw [addS, if_neg hk]; exact hS')
    refine wpAny_bind (hgw _ ?_)
    split
    · refine wpAny_bind ?_
      rw [hashByValue_scannable 8 rfl]
      refine wpAny_pure ?_
      refine addTail_S (t2 := { t1 with plain := false }) ?_ ho hel1 hb1' (SetTable.fits_plain_off hfits) (hll.trans hled) rfl hp1 hn1 ?_
      · intro b s₁ Q' hq; cases b <;> first | exact wpAny_pure hq | exact wpAny_rule hq
      · intro h' hsb hS'; dsimp only; exact wpAny_pure (hend h' hsb hS')
    · rename_i hpf
      refine wpAny_bind (wpAny_pure ?_)
      simp only [↓reduceIte]
      refine addTail_S ?_ ho hel1 hb1' hfits (hll.trans hled) (by simpa using hpf) hp1 hn1 ?_
      · intro b s₁ Q' hq; cases b <;> first | exact wpAny_pure hq | exact wpAny_rule hq
      · intro h' hsb hS'; dsimp only; exact wpAny_pure (hend h' hsb hS')
end
end Mine
end
section
set_option autoImplicit false
set_option linter.unusedVariables false
set_option maxRecDepth 100000
namespace Mine
open PySem PyProof.Rows

noncomputable def addAll (ss : List Str) : List Str := ss.foldl addS []
theorem addS_mem {ks : List Str} {k x : Str} : x ∈ addS ks k ↔ x ∈ ks ∨ x = k := by
  unfold addS
  split
  · rename_i h
    exact ⟨.inl, fun q => q.elim id fun e => e ▸ h⟩
  · simp
theorem foldl_mem {x : Str} : ∀ {ss ks : List Str}, x ∈ ss.foldl addS ks ↔ x ∈ ks ∨ x ∈ ss
  | [], ks => by simp
  | s :: r, ks => by
    rw [List.foldl_cons, foldl_mem, addS_mem, List.mem_cons, or_assoc]
theorem addAll_mem {x : Str} {ss : List Str} : x ∈ addAll ss ↔ x ∈ ss := by unfold addAll; rw [foldl_mem]; simp
theorem foldl_len : ∀ (ss ks : List Str), (ss.foldl addS ks).length ≤ ks.length + ss.length
  | [], ks => by simp
  | s :: r, ks => by
    rw [List.foldl_cons]
    have := foldl_len r (addS ks s)
    have := addS_len ks s
    simp only [List.length_cons]; omega

section
variable {prog : Program} {w : World} {A : Around} {R : Result → Shared → Prop} {E : Value → Shared → Prop} {s : Shared}

theorem sets_ext {h h' : Heap} {S : Addr} {ks : List Str} (x : SetS prog w h S ks) (k : ∀ o, h.get? S = some o → h'.get? S = some o) : SetS prog w h' S ks := by
  obtain ⟨es, ep, t, ho, r⟩ := x
  exact ⟨es, ep, t, k _ ho, r⟩

theorem update_loop {I : Addr} {fp wr : List Addr} {G : Array GenState → Array GenState → Prop} {n : Nat} {P : Nat → Value → Prop} {St : Nat → Shared → Prop} (W : WalksS prog w A.in1 I fp wr G n P St) (S : Addr) (hSf : S ∉ fp)
    (ss : List Str) (hlen : ss.length = n) (hval : ∀ i v, P i v → ∃ x t, ss[i]? = some x ∧ v = .str x t) (hb : n + 1 < scanBound) :
    ∀ (k i : Nat) (s : Shared), n - i = k → i ≤ n → St i s → SetS prog w s.heap S (addAll (ss.take i)) →
      (∀ s', Moved (S :: wr) G s s' → SetS prog w s'.heap S (addAll ss) → R (.ok (.ret .none)) s') →
      codeAny (model prog w) A (.builtin "set.update.loop" ⟨[.ref S, .ref I], []⟩) R s := by
  have hSw : S ∉ wr := fun h => hSf (W.sub _ h)
  have hsub : ∀ b ∈ wr, b ∈ S :: wr := fun b hb => List.mem_cons_of_mem _ hb
  intro k
  induction k with
  | zero =>
    intro i s hk hi hst hS hR
    have hin : i = n := by omega
    subst hin
    refine codeAny_builtin PyProof.Rows.F.entry_set_update_loop ?_
    rw [Around.under_plainId PyProof.Rows.F.plain_set_update_loop _]
    show wpAny _ A.in1 (pyNext (.ref I) >>= _) _ _ s
    refine wpAny_bind (W.done s _ _ hst fun s' hm => ?_)
    show wpAny _ A.in1 (ret Value.none) _ _ s'
    rw [List.take_of_length_le (by omega)] at hS
    exact wpAny_pure (hR s' (hm.mono hsub) (sets_ext hS fun o e => hm.heap S _ hSw e))
  | succ k ih =>
    intro i s hk hi hst hS hR
    have hlt : i < n := by omega
    refine codeAny_builtin PyProof.Rows.F.entry_set_update_loop ?_
    rw [Around.under_plainId PyProof.Rows.F.plain_set_update_loop _]
    show wpAny _ A.in1 (pyNext (.ref I) >>= _) _ _ s
    refine wpAny_bind (W.item i s _ _ hlt hst fun v s' hP hst' hm => ?_)
    obtain ⟨x, t, hx, rfl⟩ := hval i v hP
    have hS' := sets_ext (h' := s'.heap) hS fun o e => hm.heap S _ hSw e
    show wpAny _ A.in1 (holding [Value.str x t] (setAdd S (.str x t)) >>= _) _ _ s'
    refine wpAny_bind (wpAny_holding ?_)
    unfold setAdd
    refine wpAny_holding (wpAny_bind ((PySem.strKind prog w).pyHash (k := x) (strKind_is _ _ _ _) ?_))
    have hroom : (addAll (ss.take i)).length + 1 < scanBound := by
      have := foldl_len (ss.take i) []
      unfold addAll
      rw [List.length_take] at this
      simp at this; omega
    refine add_S (s := { s' with toks := s'.toks + 1 }) hS' hroom fun b h' hsb hS2 => ?_
    have e : addS (addAll (ss.take i)) x = addAll (ss.take (i + 1)) := by
      obtain ⟨hl, hx⟩ := List.getElem?_eq_some_iff.mp hx
      unfold addAll
      rw [List.take_succ_eq_append_getElem hl, List.foldl_append, hx]; rfl
    rw [e] at hS2
    refine wpAny_pure ⟨plainId_quiet PyProof.Rows.F.plain_set_update_loop _, ih (i + 1) _ (by omega) hlt (W.frame _ s' _ _ hst' (Nat.le_succ _) fun b hb o e => ?_) hS2 fun s'' hm'' hS'' => ?_⟩
    · rw [hsb.2 b (fun h : b = S => hSf (by rw [← h]; exact hb))]; exact e
    · refine hR s'' (Moved.trans W.gtrans ((hm.mono hsub).then_heap (Nat.le_succ _) fun b o hb e => ?_) hm'') hS''
      rw [hsb.2 b (fun h : b = S => hb (by rw [h]; exact List.mem_cons_self))]; exact e

/-- the new set, with its mark -/
theorem new_S (a : Value) {Q₁ : Value → Shared → Prop}
    (h : Q₁ (.ref s.heap.objs.size) { s with heap := s.heap.push { cls := .type "set", dict := none, data := .set #[] 0 (.fresh 0 0 (!byText w)) } }) :
    codeAny (model prog w) A (.call (.builtin "set.__new__") ⟨[.type "set", a], []⟩) (wants Q₁ E) s := by
  refine codeAny_of_tree ?_
  show wpAny _ A.in1 (do checkBuiltinCall "set.__new__" ⟨[.type "set", a], []⟩; again (.builtin "set.__new__" ⟨[.type "set", a], []⟩)) _ _ s
  refine wpAny_bind (wpAny_of_eq (PySem.F.newCall_set_1 a) (wpAny_pure ⟨plainId_quiet PySem.F.plain_set_new _, codeAny_builtin PySem.F.entry_set_new ?_⟩))
  rw [Around.under_plainId PySem.F.plain_set_new _]
  unfold Builtin.«set.__new__» Builtin.Frozenset.newClass
  have hsub := sub_set_self
  obtain ⟨hp, g, d, tk, os⟩ := s
  dsimp only
  wp_walk
  refine wpAny_askSetting (wpAny_pure ?_)
  dsimp only
  simp only [newObj]
  refine wpAny_bind (wpAny_alloc (wpAny_pure ?_))
  exact wpAny_pure h
end
end Mine
end
section
set_option autoImplicit false
set_option linter.unusedVariables false
namespace Mine
open PySem PyProof.Rows

section
variable {prog : Program} {w : World} {A : Around} {E : Value → Shared → Prop} {s : Shared}

theorem strs_at : ∀ {vs : List Value} {ss : List Str}, StrsAre vs ss → ∀ (i : Nat) (v : Value), vs[i]? = some v → ∃ x t, ss[i]? = some x ∧ v = .str x t
  | _, _, .nil, i, v, h => by simp at h
  | _, _, .cons x t r, 0, v, h => by simp at h; subst h; exact ⟨x, t, rfl, rfl⟩
  | _, _, .cons x t r, i + 1, v, h => by simp at h; simpa using strs_at r i v h
theorem strs_len : ∀ {vs : List Value} {ss : List Str}, StrsAre vs ss → ss.length = vs.length
  | _, _, .nil => rfl
  | _, _, .cons x t r => by simp [strs_len r]

/-- a set made of a list of texts -/
theorem set_init_S {l S : Addr} {items : Array Value} {ss : List Str} {Q : Fin → Shared → Prop} (hh : A.handled = none) (hl : s.heap.IsList l items) (hi : StrsAre items.toList ss) (hb : items.size + 1 < scanBound) (hSe : s.heap.get? S = some (setO #[] 0 (.fresh 0 0 (!byText w))))
    (h : ∀ h' tk, SetS prog w h' S (addAll ss) → (∀ b o, b ≠ S → s.heap.get? b = some o → h'.get? b = some o) → Q (.done (.ret .none)) { s with heap := h', toks := tk }) :
    wpAny (model prog w) A.in1 (Builtin.«set.__init__» ⟨[.ref S, .ref l], []⟩) Q E s := by
  obtain ⟨ol, hol, hcl, nl, hdl⟩ := id hl
  obtain ⟨ocls, odict, odata, oslots⟩ := ol
  simp only at hcl hdl
  subst hcl; subst hdl
  have hsls := PySem.F.sub_list_set
  have hslf := PySem.F.sub_list_frozenset
  have hne : (Value.type "list" == Value.type "dict") = false := by decide
  have hT : s.TypeIs (.ref S) "set" := ⟨_, hSe, rfl⟩
  unfold Builtin.«set.__init__» noKeywords Builtin.Frozenset.updateFrom
  generalize hPI : pyIter = PI
  wp_walk
  subst hPI
  refine wpAny_pyIter_list hl ?_
  refine wpAny_bind (wpAny_runValue ?_)
  have hlS : l < s.heap.objs.size := Heap.lt_size hol
  have hSS : S < s.heap.objs.size := Heap.lt_size hSe
  have hlneS : l ≠ S := fun q => by
    rw [q, hSe] at hol
    have := congrArg Obj.cls (Option.some.inj hol)
    simp at this
  have hh3 : A.in1.in1.handled = none := by simp [hh]
  have hSf : S ∉ [s.heap.objs.size, l] := by
    simp only [List.mem_cons, List.not_mem_nil, or_false, not_or]
    exact ⟨Nat.ne_of_lt hSS, fun q => hlneS q.symm⟩
  have hk : ∀ b o, s.heap.get? b = some o → (s.heap.push { cls := .type "list_iterator", data := .fields #[.ref l, .int 0 0] }).get? b = some o := fun b o e => Heap.get?_push_of_some _ e
  refine update_loop ((Walks.list hh3 _ l (Nat.ne_of_lt hlS) items).toS) S hSf ss (by rw [strs_len hi, Array.length_toList]) (fun i v hv => strs_at hi i v (by rw [Array.getElem?_toList]; exact hv)) hb (items.size - 0) 0 { s with heap := s.heap.push { cls := .type "list_iterator", data := .fields #[.ref l, .int 0 0] } } (by omega) (Nat.zero_le _)
    ⟨⟨_, Heap.get?_push_size _ rfl, rfl, rfl⟩, hl.push _⟩ ?hS0 ?hR
  case hS0 => exact ⟨#[], 0, _, hk _ _ hSe, rfl, rfl, .inl rfl, fun e he => (by simp at he), List.Perm.refl _, List.nodup_nil⟩
  case hR =>
    intro s' hm hS'
    obtain ⟨h', g', d', tk', os'⟩ := s'
    have eg : g' = s.gens := hm.gens
    have ed : d' = s.drawn := hm.drawn
    have eo : os' = s.os := hm.os
    subst eg; subst ed; subst eo
    show wpAny _ _ _ _ _ _
    refine wpAny_pure ?_
    show wpAny _ _ (ret Value.none) _ _ _
    refine wpAny_pure (h h' tk' hS' fun b o hb e => hm.heap b o ?_ (hk b o e))
    simp only [List.mem_cons, List.not_mem_nil, or_false, not_or]
    exact ⟨hb, Nat.ne_of_lt (Heap.lt_size e)⟩

set_option maxRecDepth 100000 in
set_option maxHeartbeats 3200000 in
theorem call_set_S {l : Addr} {items : Array Value} {ss : List Str} {Q : Value → Shared → Prop} (hh : A.handled = none) (hl : s.heap.IsList l items) (hi : StrsAre items.toList ss) (hb : items.size + 1 < scanBound)
    (h : ∀ h' tk, SetS prog w h' s.heap.objs.size (addAll ss) → (∀ b o, s.heap.get? b = some o → h'.get? b = some o) → Q (.ref s.heap.objs.size) { s with heap := h', toks := tk }) :
    wpAny (model prog w) A (call (.type "set") [.ref l]) Q E s := by
  obtain ⟨c, tl, hmro⟩ := PySem.F.called_set.mro
  have hmade := PySem.F.called_set.made
  have hsub := PySem.F.called_set.sub
  refine wpAny_call (codeAny_of_tree ?_)
  show wpAny _ _ (callAny (.type "set") _) _ _ _
  refine wpAny_pure ⟨Code.quiet_builtin _ (by decide +kernel), codeAny_builtin PySem.F.entry_type_call ?_⟩
  rw [Around.under_plain (weight_type_call_type "set" [.ref l] []) rfl]
  have h1 := PySem.F.called_set.notType
  have h2 := PySem.F.called_set.canCreate
  have hct := PySem.F.typeCall_set_1 (.ref l)
  repeat (any_goals (first | assumption | wp_step))
  refine codeAny_mono (new_S (w := w) (.ref l) (E := E) (Q₁ := fun obj s₁ => obj = .ref s.heap.objs.size ∧ s₁ = { s with heap := s.heap.push { cls := .type "set", dict := none, data := .set #[] 0 (.fresh 0 0 (!byText w)) } }) ⟨rfl, rfl⟩) fun r s₁ hr => ?_
  cases r with
  | error e => exact hr
  | ok fl =>
    cases fl with
    | ret obj =>
      obtain ⟨rfl, rfl⟩ := hr
      have hS : (s.heap.push { cls := .type "set", dict := none, data := .set #[] 0 (.fresh 0 0 (!byText w)) }).get? s.heap.objs.size = some (setO #[] 0 (.fresh 0 0 (!byText w))) := Heap.get?_push_size _ rfl
      have hT : Shared.TypeIs { s with heap := s.heap.push { cls := .type "set", dict := none, data := .set #[] 0 (.fresh 0 0 (!byText w)) } } (.ref s.heap.objs.size) "set" := ⟨_, hS, rfl⟩
      have hli := PySem.F.called_set.init.lookup
      have hbi := PySem.F.called_set.init.bind (.ref s.heap.objs.size)
      repeat (any_goals (first | assumption | wp_step))
      refine codeAny_mono (codeAny_call_builtin (R := wants (fun r s₂ => r = .none ∧ ∃ h' tk, s₂ = { s with heap := h', toks := tk } ∧ SetS prog w h' s.heap.objs.size (addAll ss) ∧ (∀ b o, s.heap.get? b = some o → h'.get? b = some o)) E)
        PySem.F.called_set.init.plain PySem.F.entry_set_init (check_set_init_1 hT ?_)) fun r₂ s₂ hr₂ => ?_
      · refine set_init_S (by simp [hh]) (hl.push _) hi hb hS fun h' tk hS' hk' => ⟨rfl, h', tk, rfl, hS', fun b o e => hk' b o (Nat.ne_of_lt (Heap.lt_size e)) (Heap.get?_push_of_some _ e)⟩
      · cases r₂ with
        | error e => exact hr₂
        | ok fl₂ =>
          cases fl₂ with
          | ret r =>
            obtain ⟨rfl, h', tk, rfl, hS', hk'⟩ := hr₂
            repeat (any_goals (first | assumption | wp_step))
            exact h _ _ hS' hk'
          | _ => exact hr₂.elim
    | _ => exact hr.elim
end
end Mine
end
section
set_option autoImplicit false
set_option maxRecDepth 100000
namespace Mine
open PySem
theorem slot_setiter_next : Slot "set_iterator" "__next__" "set_iterator.__next__" :=
  .of (owner := "set_iterator") (n := "__next__") (by rw [typeLookup_type, builtinLookup_eq_fast]; kernel_rfl) (by decide +kernel) (by decide +kernel) (by decide +kernel)
    (by first | exact .inl (by decide +kernel) | exact .inr (by decide +kernel)) (by rw [isSubtype_type]; kernel_rfl)
theorem slot_setiter_iter : Slot "set_iterator" "__iter__" "set_iterator.__iter__" :=
  .of (owner := "set_iterator") (n := "__iter__") (by rw [typeLookup_type, builtinLookup_eq_fast]; kernel_rfl) (by decide +kernel) (by decide +kernel) (by decide +kernel)
    (by first | exact .inl (by decide +kernel) | exact .inr (by decide +kernel)) (by rw [isSubtype_type]; kernel_rfl)
theorem entry_setiter_next : entryFor table "set_iterator.__next__" = some Builtin.«set_iterator.__next__» := entryFor_of_tree (by kernel_rfl)
theorem entry_setiter_iter : entryFor table "set_iterator.__iter__" = some Builtin.«dict_keyiterator.__iter__» :=
  entryFor_alias (id' := "dict_keyiterator.__iter__") (by kernel_rfl) rfl (by decide +kernel) (by kernel_rfl)
theorem entry_set_iter : entryFor table "set.__iter__" = some Builtin.«frozenset.__iter__» :=
  entryFor_alias (id' := "frozenset.__iter__") (by kernel_rfl) rfl (by decide +kernel) (by kernel_rfl)
theorem owner_setiter : Manifest.owners.lookup (String.ofList ['r', 'o', 't', 'a', 'r', 'e', 't', 'i', '_', 't', 'e', 's'].reverse) = some Manifest.sig_set_iterator := by kernel_rfl
theorem args_setiter_next (a : Value) : argsOk "set_iterator.__next__" ⟨[a], []⟩ := by
  unfold argsOk; rw [signature?_of (id := "set_iterator.__next__") (n := ['_', '_', 't', 'x', 'e', 'n', '_', '_']) (o := ['r', 'o', 't', 'a', 'r', 'e', 't', 'i', '_', 't', 'e', 's']) (by kernel_rfl) owner_setiter]; kernel_rfl
theorem args_setiter_iter (a : Value) : argsOk "set_iterator.__iter__" ⟨[a], []⟩ := by
  unfold argsOk; rw [signature?_of (id := "set_iterator.__iter__") (n := ['_', '_', 'r', 'e', 't', 'i', '_', '_']) (o := ['r', 'o', 't', 'a', 'r', 'e', 't', 'i', '_', 't', 'e', 's']) (by kernel_rfl) owner_setiter]; kernel_rfl
end Mine
end
section
set_option autoImplicit false
set_option linter.unusedVariables false
set_option maxRecDepth 100000
namespace Mine
open PySem PyProof.Rows

noncomputable abbrev sitO (first : Value) (i : Nat) (S : Addr) (n ep : Nat) : Obj := { cls := .type "set_iterator", data := .fields #[first, .int i 0, .ref S, .int n 0, .int ep 0] }

section
variable {prog : Program} {w : World} {A : Around} {E : Value → Shared → Prop} {s : Shared} {I S : Addr} {es : Array (Int × Value)} {ep : Nat} {t : SetTable} {i : Nat} {Q : Option Value → Shared → Prop}

theorem next_int {slot slot' : Nat} {x : Value} (hI : s.heap.get? I = some (sitO (.int slot 0) i S es.size ep)) (hS : s.heap.get? S = some (setO es ep t)) (hf : t.fits es.size = true)
    (hnext : ∀ (A : Around) (Q : Option (Value × Nat) → Shared → Prop) (E : Value → Shared → Prop), Q (some (x, slot')) s → wpAny (model prog w) A (setNext S slot i ep) Q E s)
    (hQ : ∀ h', h'.get? I = some (sitO (.int slot' 0) (i + 1) S es.size ep) → Heap.SameBut I s.heap h' → Q (some x) { s with heap := h' }) : wpAny (model prog w) A (pyNext (.ref I)) Q E s := by
  have hT : s.TypeIs (.ref I) "set_iterator" := ⟨_, hI, rfl⟩
  unfold pyNext
  refine wpAny_bind (wpAny_attempt (wpAny_callSpecial?_slot (name := Str.ofString "__next__") hT slot_setiter_next (wpAny_call_entry slot_setiter_next hT entry_setiter_next ?_ (args_setiter_next _))))
  unfold Builtin.«set_iterator.__next__»
  refine wpAny_bind (wpAny_pure ?_)
  refine wpAny_bind (wpAny_fieldsOf hI rfl ?_)
  dsimp only
  refine wpAny_bind (wpAny_setEntries_of hS rfl hf ?_)
  rw [if_neg (by simp)]
  refine wpAny_bind ?_
  simp only [Int.toNat_natCast]
  refine hnext _ _ _ ?_
  dsimp only
  refine wpAny_bind (wpAny_setField hI rfl (by simp) ?_)
  have hI1 : (s.heap.update I (Obj.mapFields (·.setIfInBounds 0 (rawInt slot')))).get? I = some (sitO (.int slot' 0) i S es.size ep) := Heap.get?_update_self _ hI rfl
  refine wpAny_bind (wpAny_setField (s := { s with heap := s.heap.update I (Obj.mapFields (·.setIfInBounds 0 (rawInt slot'))) }) hI1 rfl (by simp) (wpAny_pure ⟨x, rfl, wpAny_pure (hQ _ ?_ ((Heap.SameBut.update ..).trans (Heap.SameBut.update ..)))⟩))
  exact Heap.get?_update_self _ hI1 rfl

/-- behind the last -/
theorem stop_S {k : Nat} (hh : A.handled = none) {first : Value} (hI : s.heap.get? I = some (sitO first i S es.size ep)) (hk : k < 5) (hQ : ∀ h', Heap.ExtBut I s.heap h' → Q none { s with heap := h' }) :
    wpAny (model prog w) A.in1 (do
      setField (.ref I) k Value.none
      let e ← newExc (Value.type "StopIteration") []
      raiseNew e : Sem PySem.Fin) (fun fin s' => ∃ v, fin = Fin.done (Flow.ret v) ∧ wpAny (model prog w) A (pure (some v)) Q E s') (fun e s' =>
      wpAny (model prog w) A (do
          let b ← isInstance e (Value.type "StopIteration")
          if b = true then pure none else throw e) Q E s') s := by
  refine wpAny_bind (wpAny_setField hI rfl (by simpa using hk) ?_)
  refine wpAny_bind ?_
  simp only [newExc, newTuple]
  refine wpAny_bind (wpAny_newObj_type ?_ (by size_fits))
  refine wpAny_bind (m := firstArgMember _ _) (wpAny_of_eq (a := Value.none) (by first | rfl | (simp only [firstArgMember]; rfl)) ?_)
  refine wpAny_newObj_type ?_ (by size_fits)
  simp only [raiseNew]
  refine wpAny_bind (wpAny_handled ?_)
  rw [show A.in1.handled = none from hh]
  refine wpAny_bind (wpAny_pure (wpAny_throw ?_))
  refine wpAny_bind (wpAny_isInstance (T := "StopIteration") (b := true) ⟨_, Heap.get?_push_size _ rfl, rfl⟩ isSubtype_stop ?_)
  exact wpAny_pure (hQ _ (((Heap.SameBut.update ..).extBut.push _).push _))

theorem done_int {slot : Nat} (hh : A.handled = none) (hI : s.heap.get? I = some (sitO (.int slot 0) i S es.size ep)) (hS : s.heap.get? S = some (setO es ep t)) (hf : t.fits es.size = true)
    (hnext : ∀ (A : Around) (Q : Option (Value × Nat) → Shared → Prop) (E : Value → Shared → Prop), Q none s → wpAny (model prog w) A (setNext S slot i ep) Q E s)
    (hQ : ∀ h', Heap.ExtBut I s.heap h' → Q none { s with heap := h' }) : wpAny (model prog w) A (pyNext (.ref I)) Q E s := by
  have hT : s.TypeIs (.ref I) "set_iterator" := ⟨_, hI, rfl⟩
  unfold pyNext
  refine wpAny_bind (wpAny_attempt (wpAny_callSpecial?_slot (name := Str.ofString "__next__") hT slot_setiter_next (wpAny_call_entry slot_setiter_next hT entry_setiter_next ?_ (args_setiter_next _))))
  unfold Builtin.«set_iterator.__next__»
  refine wpAny_bind (wpAny_pure ?_)
  refine wpAny_bind (wpAny_fieldsOf hI rfl ?_)
  dsimp only
  refine wpAny_bind (wpAny_setEntries_of hS rfl hf ?_)
  rw [if_neg (by simp)]
  refine wpAny_bind ?_
  simp only [Int.toNat_natCast]
  refine hnext _ _ _ ?_
  dsimp only
  exact stop_S hh hI (by decide) hQ

theorem next_drawn {T : Addr} {places : List Value} {k : Nat} {h : Int} {x : Value} {n' : Nat} (hI : s.heap.get? I = some (sitO (.ref T) i S es.size ep)) (hS : s.heap.get? S = some (setO es ep t)) (hf : t.fits es.size = true)
    (hTT : s.heap.get? T = some { cls := .type "tuple", dict := none, data := .seq places.toArray n', slots := #[] }) (hp : places[i]? = some (.int k 0)) (hx : es[k]? = some (h, x))
    (hQ : ∀ h', h'.get? I = some (sitO (.ref T) (i + 1) S es.size ep) → Heap.SameBut I s.heap h' → Q (some x) { s with heap := h' }) : wpAny (model prog w) A (pyNext (.ref I)) Q E s := by
  have hT : s.TypeIs (.ref I) "set_iterator" := ⟨_, hI, rfl⟩
  unfold pyNext
  refine wpAny_bind (wpAny_attempt (wpAny_callSpecial?_slot (name := Str.ofString "__next__") hT slot_setiter_next (wpAny_call_entry slot_setiter_next hT entry_setiter_next ?_ (args_setiter_next _))))
  unfold Builtin.«set_iterator.__next__»
  refine wpAny_bind (wpAny_pure ?_)
  refine wpAny_bind (wpAny_fieldsOf hI rfl ?_)
  dsimp only
  refine wpAny_bind (wpAny_setEntries_of hS rfl hf ?_)
  rw [if_neg (by simp)]
  refine wpAny_bind (wpAny_seqItems hTT rfl ?_)
  dsimp only
  have hp' : places.toArray[(i : Int).toNat]? = some (.int k 0) := by simpa using hp
  rw [hp']
  dsimp only
  unfold setNextDrawn
  refine wpAny_bind (wpAny_bind (wpAny_setState_of hS rfl hf ?_))
  dsimp only
  rw [if_neg (by simp)]
  simp only [Int.toNat_natCast, hx]
  refine wpAny_pure ?_
  refine wpAny_bind (wpAny_setField hI rfl (by simp) (wpAny_pure ⟨x, rfl, wpAny_pure (hQ _ ?_ (Heap.SameBut.update ..))⟩))
  exact Heap.get?_update_self _ hI rfl

theorem done_drawn {T : Addr} {places : List Value} {n' : Nat} (hh : A.handled = none) (hI : s.heap.get? I = some (sitO (.ref T) i S es.size ep)) (hS : s.heap.get? S = some (setO es ep t)) (hf : t.fits es.size = true)
    (hTT : s.heap.get? T = some { cls := .type "tuple", dict := none, data := .seq places.toArray n', slots := #[] }) (hp : places[i]? = none)
    (hQ : ∀ h', Heap.ExtBut I s.heap h' → Q none { s with heap := h' }) : wpAny (model prog w) A (pyNext (.ref I)) Q E s := by
  have hT : s.TypeIs (.ref I) "set_iterator" := ⟨_, hI, rfl⟩
  unfold pyNext
  refine wpAny_bind (wpAny_attempt (wpAny_callSpecial?_slot (name := Str.ofString "__next__") hT slot_setiter_next (wpAny_call_entry slot_setiter_next hT entry_setiter_next ?_ (args_setiter_next _))))
  unfold Builtin.«set_iterator.__next__»
  refine wpAny_bind (wpAny_pure ?_)
  refine wpAny_bind (wpAny_fieldsOf hI rfl ?_)
  dsimp only
  refine wpAny_bind (wpAny_setEntries_of hS rfl hf ?_)
  rw [if_neg (by simp)]
  refine wpAny_bind (wpAny_seqItems hTT rfl ?_)
  dsimp only
  have hp' : places.toArray[(i : Int).toNat]? = none := by simpa using hp
  rw [hp']
  dsimp only
  refine wpAny_bind (wpAny_setField hI rfl (by simp) ?_)
  have hI1 : (s.heap.update I (Obj.mapFields (·.setIfInBounds 0 (rawInt 0)))).get? I = some (sitO (.int 0 0) i S es.size ep) := Heap.get?_update_self _ hI rfl
  exact stop_S (s := { s with heap := s.heap.update I (Obj.mapFields (·.setIfInBounds 0 (rawInt 0))) }) hh hI1 (by decide) fun h' he => hQ h' fun b o hb e => he b o hb (((Heap.SameBut.update ..).2 b hb).trans e)
end
end Mine
end
section
set_option autoImplicit false
set_option linter.unusedVariables false
set_option maxRecDepth 100000
namespace Mine
open PySem PyProof.Rows

section
variable {prog : Program} {w : World} {A : Around} {E : Value → Shared → Prop} {s : Shared}

theorem wp_draw {M : Model} {src : Source} {n : Nat} {Q : Nat → Shared → Prop} (hn : n ≠ 0) (h : ∀ k d, k < n → Q k { s with drawn := d }) : wpAny M A (choose src n) Q E s := fun _ _ _ => by
  show Sem.wp _ _ (.choose src n _) _ _ _ _
  rw [Sem.wp_choose]
  exact ⟨hn, h _ _ (Nat.mod_lt _ (Nat.pos_of_ne_zero hn))⟩

theorem erase_perm {α : Type} : ∀ {xs : List α} {i : Nat} {x : α}, xs[i]? = some x → (x :: xs.eraseIdx i).Perm xs
  | [], _, _, h => by simp at h
  | a :: r, 0, x, h => by simp at h; subst h; simp
  | a :: r, i + 1, x, h => by
    simp at h
    have := erase_perm h
    simp only [List.eraseIdx_cons_succ]
    exact (List.Perm.swap a x _).trans (this.cons a)

theorem draw_order {α : Type} {M : Model} : ∀ (n : Nat) (xs : List α) (s : Shared) {Q : List α → Shared → Prop}, xs.length = n → (∀ ys d, ys.Perm xs → Q ys { s with drawn := d }) → wpAny M A (drawOrder n xs) Q E s
  | 0, [], s, Q, _, h => wpAny_pure (h [] s.drawn (.refl _))
  | 0, _ :: _, _, _, hl, _ => by cases hl
  | n + 1, [], _, _, hl, _ => by cases hl
  | n + 1, x :: xs, s, Q, hl, h => by
    unfold drawOrder
    refine wpAny_bind (wp_draw (by simp) fun k d hk => ?_)
    have hy := List.getElem?_eq_getElem hk
    simp only [hy]
    refine wpAny_bind (draw_order n _ _ ?_ fun ys d' hp => wpAny_pure ?_)
    · rw [List.length_eraseIdx_of_lt hk]; simp at hl ⊢; exact hl
    · exact h _ d' ((hp.cons _).trans (erase_perm hy))

theorem pick_go {α : Type} (next : Nat → Nat) : ∀ (fuel k : Nat) (left : List α) (out : Array α), left.length = fuel → (pickOrder.go next fuel k left out).toList.Perm (out.toList ++ left)
  | 0, k, [], out, _ => by unfold pickOrder.go; simp
  | 0, k, _ :: _, out, h => by cases h
  | n + 1, k, left, out, h => by
    unfold pickOrder.go
    have hlt : next k % left.length < left.length := Nat.mod_lt _ (by omega)
    have hy := List.getElem?_eq_getElem hlt
    simp only [hy]
    refine (pick_go next n (k + 1) _ _ (by rw [List.length_eraseIdx_of_lt hlt]; omega)).trans ?_
    rw [Array.toList_push, List.append_assoc]
    exact (erase_perm hy).append_left _
theorem pick_perm {α : Type} (next : Nat → Nat) (xs : Array α) : (pickOrder next xs).toList.Perm xs.toList := by
  have := pick_go next xs.size 0 xs.toList #[] (by simp)
  simpa [pickOrder] using this

theorem self_S {I S : Addr} {first : Value} {i n ep : Nat} {Q : Value → Shared → Prop} (hI : s.heap.get? I = some (sitO first i S n ep)) (h : Q (.ref I) s) : wpAny (model prog w) A (pyIter (.ref I)) Q E s := by
  have hT : s.TypeIs (.ref I) "set_iterator" := ⟨_, hI, rfl⟩
  refine wpAny_pyIter_slot hT slot_setiter_iter (wpAny_call_entry slot_setiter_iter hT entry_setiter_iter ?_ (args_setiter_iter _))
  show wpAny _ _ (ret (.ref I)) _ _ s
  exact wpAny_pure ⟨_, rfl, "set_iterator", _, hT, slot_setiter_next.lookup, h⟩

theorem moved_same {I : Addr} {h' : Heap} (hs : Heap.SameBut I s.heap h') : Moved [I] (fun a b => b = a) s { s with heap := h' } := ⟨fun b o hb e => (hs.2 b (by simpa using hb)).trans e, rfl, rfl, rfl, Nat.le_refl _⟩
theorem moved_ext {I : Addr} {h' : Heap} (hs : Heap.ExtBut I s.heap h') : Moved [I] (fun a b => b = a) s { s with heap := h' } := ⟨fun b o hb e => hs b o (by simpa using hb) e, rfl, rfl, rfl, Nat.le_refl _⟩

/-- a walk that keeps to the slots -/
theorem walk_int {I S : Addr} {es : Array (Int × Value)} {ep : Nat} {t : SetTable} {vs : List Value} {sl : Nat → Nat} (hh : A.handled = none) (hIS : I ≠ S) (hf : t.fits es.size = true) (hlen : vs.length = es.size)
    (hn : ∀ (s : Shared), s.heap.get? S = some (setO es ep t) → ∀ i v, vs[i]? = some v → ∀ (A : Around) (Q : Option (Value × Nat) → Shared → Prop) (E : Value → Shared → Prop), Q (some (v, sl (i + 1))) s → wpAny (model prog w) A (setNext S (sl i) i ep) Q E s)
    (hd : ∀ (s : Shared), s.heap.get? S = some (setO es ep t) → ∀ (A : Around) (Q : Option (Value × Nat) → Shared → Prop) (E : Value → Shared → Prop), Q none s → wpAny (model prog w) A (setNext S (sl vs.length) vs.length ep) Q E s) :
    WalksS prog w A I [I, S] [I] (fun a b => b = a) vs.length (fun i v => vs[i]? = some v) (fun i s => s.heap.get? I = some (sitO (.int (sl i) 0) i S es.size ep) ∧ s.heap.get? S = some (setO es ep t)) where
  sub := fun b hb => by simp at hb; subst hb; simp
  grefl := fun _ => rfl
  gtrans := fun _ _ _ h1 h2 => h2.trans h1
  frame := fun i s h' tk st _ hk => ⟨hk I (by simp) _ st.1, hk S (by simp) _ st.2⟩
  item := fun i s Q E hi st hQ => by
    have hv := List.getElem?_eq_getElem hi
    exact next_int st.1 st.2 hf (hn s st.2 i _ hv) fun h' hI' hs => hQ _ _ hv ⟨hI', (hs.2 S (Ne.symm hIS)).trans st.2⟩ (moved_same hs)
  done := fun s Q E st hQ => done_int hh st.1 st.2 hf (hd s st.2) fun h' he => hQ _ (moved_ext he)
  self := fun i s Q E st hQ => self_S st.1 hQ

/-- a walk by places that were drawn -/
theorem walk_drawn {I S T : Addr} {es : Array (Int × Value)} {ep n' : Nat} {t : SetTable} {vs : List Value} {ks : List Nat} (hh : A.handled = none) (hIS : I ≠ S) (hIT : I ≠ T) (hf : t.fits es.size = true) (hlen : ks.length = vs.length)
    (hn : ∀ (i : Nat) (v : Value), vs[i]? = some v → ∃ (k : Nat) (h : Int), ks[i]? = some k ∧ es[k]? = some (h, v)) :
    WalksS prog w A I [I, S, T] [I] (fun a b => b = a) vs.length (fun i v => vs[i]? = some v) (fun i s => s.heap.get? I = some (sitO (.ref T) i S es.size ep) ∧ s.heap.get? S = some (setO es ep t) ∧
      s.heap.get? T = some { cls := .type "tuple", dict := none, data := .seq (ks.map (fun (k : Nat) => rawInt k)).toArray n', slots := #[] }) where
  sub := fun b hb => by simp at hb; subst hb; simp
  grefl := fun _ => rfl
  gtrans := fun _ _ _ h1 h2 => h2.trans h1
  frame := fun i s h' tk st _ hk => ⟨hk I (by simp) _ st.1, hk S (by simp) _ st.2.1, hk T (by simp) _ st.2.2⟩
  item := fun i s Q E hi st hQ => by
    have hv := List.getElem?_eq_getElem hi
    obtain ⟨k, h, hk, hx⟩ := hn i _ hv
    exact next_drawn (k := k) st.1 st.2.1 hf st.2.2 (by rw [List.getElem?_map, hk]; rfl) hx fun h' hI' hs => hQ _ _ hv ⟨hI', (hs.2 S (Ne.symm hIS)).trans st.2.1, (hs.2 T (Ne.symm hIT)).trans st.2.2⟩ (moved_same hs)
  done := fun s Q E st hQ => done_drawn hh st.1 st.2.1 hf st.2.2 (by rw [List.getElem?_map, List.getElem?_eq_none (by omega)]; rfl) fun h' he => hQ _ (moved_ext he)
  self := fun i s Q E st hQ => self_S st.1 hQ
end
end Mine
end
section
set_option autoImplicit false
set_option linter.unusedVariables false
set_option maxRecDepth 100000
namespace Mine
open PySem PyProof.Rows

section
variable {prog : Program} {w : World} {A : Around} {E : Value → Shared → Prop} {s : Shared}

theorem next_text {S : Addr} {es : Array (Int × Value)} {ep : Nat} {t : SetTable} (hb : byText w = true) (hS : s.heap.get? S = some (setO es ep t)) (hf : t.fits es.size = true) {slot i : Nat} {Q : Option (Value × Nat) → Shared → Prop}
    (h : Q (((pickOrder (w.params.setOrder S ep) es)[i]?).map fun e => (e.2, slot)) s) : wpAny (model prog w) A (setNext S slot i ep) Q E s := by
  unfold setNext
  refine wpAny_bind (wpAny_setState_of hS rfl hf ?_)
  dsimp only
  unfold setsByText
  refine wpAny_bind (wpAny_bind (wpAny_askSetting (wpAny_pure ?_)))
  show wpAny _ _ (if byText w = true then _ else _) _ _ _
  rw [hb, if_pos rfl]
  rw [if_neg (by simp)]
  unfold setWalk
  refine wpAny_bind (wpAny_bind (wpAny_setState_of hS rfl hf ?_))
  dsimp only
  unfold setsByText
  refine wpAny_bind (wpAny_bind (wpAny_askSetting (wpAny_pure ?_)))
  show wpAny _ _ (if byText w = true then _ else _) _ _ _
  rw [hb, if_pos rfl]
  refine wpAny_bind (wpAny_askSetting (wpAny_pure (wpAny_pure ?_)))
  exact h

theorem next_led {S : Addr} {es : Array (Int × Value)} {ep : Nat} {t : SetTable} (hb : byText w = false) (hS : s.heap.get? S = some (setO es ep t)) (hf : t.fits es.size = true) (hl : t.led = true) (h1 : es.size ≤ 1) {slot i : Nat} {Q : Option (Value × Nat) → Shared → Prop}
    (h : Q (match es[SetTable.below t.place slot]?, t.place[SetTable.below t.place slot]? with
      | some (_, x), some j => some (x, j + 1)
      | _, _ => none) s) : wpAny (model prog w) A (setNext S slot i ep) Q E s := by
  unfold setNext
  refine wpAny_bind (wpAny_setState_of hS rfl hf ?_)
  dsimp only
  unfold setsByText
  refine wpAny_bind (wpAny_bind (wpAny_askSetting (wpAny_pure ?_)))
  show wpAny _ _ (if byText w = true then _ else _) _ _ _
  rw [hb, if_neg (by decide)]
  show wpAny _ _ (if (!t.plain && decide (es.size > 1)) = true then _ else _) _ _ _
  rw [if_neg (by simp; intro _; omega)]
  refine wpAny_bind ?_
  show wpAny _ _ (if (!t.led && !es.isEmpty) = true then _ else _) _ _ _
  rw [if_neg (by rw [hl]; simp)]
  exact wpAny_pure (wpAny_pure h)

theorem below_one (j slot : Nat) : SetTable.below #[j] slot = if j < slot then 1 else 0 := by
  unfold SetTable.below
  unfold SetTable.below.go
  simp
  split
  · unfold SetTable.below.go; rfl
  · unfold SetTable.below.go; rfl

theorem strs_of {l : List (Int × Value)} (h : ElemsOf (PySem.strKind prog w) l) : ∀ v ∈ l.map (·.2), ∃ x t, v = .str x t := fun v hv => by
  obtain ⟨e, he, rfl⟩ := List.mem_map.mp hv
  obtain ⟨k, t, e⟩ := elem_str h e he
  exact ⟨k, t, e⟩

/-- a set's iterator -/
theorem iter_S {S : Addr} {ks : List Str} {Q : Value → Shared → Prop} (hS : SetS prog w s.heap S ks) (hz : ks.length < scanBound)
    (h : ∀ (I : Addr) (vs : List Value) (ss : List Str) (h' : Heap) d, StrsAre vs ss → ss.Perm ks → (∀ b o, s.heap.get? b = some o → h'.get? b = some o) → s.heap.get? I = none →
      (∀ A : Around, A.handled = none → ∃ fp St, WalksS prog w A I fp [I] (fun a b => b = a) vs.length (fun i v => vs[i]? = some v) St ∧ St 0 { s with heap := h', drawn := d } ∧ (∀ b ∈ fp, b = S ∨ s.heap.get? b = none) ∧ I ∈ fp) →
      Q (.ref I) { s with heap := h', drawn := d }) : wpAny (model prog w) A (pyIter (.ref S)) Q E s := by
  obtain ⟨es, ep, t, ho, hf, hled, hpl, hel, hp, hn⟩ := hS
  have hT : s.TypeIs (.ref S) "set" := ⟨_, ho, rfl⟩
  have hlen : es.size = ks.length := by rw [← hp.length_eq, List.length_map, Array.length_toList]
  have hS0 : S < s.heap.objs.size := Heap.lt_size ho
  have key : ∀ vs : List Value, vs.Perm (es.toList.map (·.2)) → StrsAre vs (vs.map strOf) ∧ (vs.map strOf).Perm ks := fun vs hv =>
    ⟨strsAre_map vs fun v hm => strs_of hel v (hv.mem_iff.mp hm), (hv.map strOf).trans (by rw [List.map_map]; exact hp)⟩
  refine wpAny_pyIter_slot hT PySem.F.slot_set_iter (wpAny_call_entry PySem.F.slot_set_iter hT entry_set_iter ?_ (PySem.F.args_set_iter_1 _))
  unfold Builtin.«frozenset.__iter__» Builtin.Frozenset.slot0 slotArgs
  simp only [List.isEmpty_nil, Bool.not_true, Bool.false_eq_true, ↓reduceIte, bind_assoc, List.length_nil, bne_self_eq_false]
  unfold Builtin.Frozenset.addrOf Builtin.Frozenset.sizeOf
  refine wpAny_bind (wpAny_pure ?_)
  try dsimp only
  refine wpAny_bind (wpAny_pure ?_)
  refine wpAny_bind (wpAny_bind (wpAny_setEntries_of ho rfl hf (wpAny_pure ?_)))
  unfold setDrawn
  refine wpAny_bind (wpAny_bind (wpAny_setState_of ho rfl hf ?_))
  dsimp only
  unfold setsByText
  refine wpAny_bind (wpAny_bind (wpAny_askSetting (wpAny_pure ?_)))
  refine wpAny_pure ?_
  show wpAny _ _ (if (!byText w && (!t.plain && decide (es.size > 1))) = true then _ else _) _ _ _
  have stay : ∀ (o : Obj) (h₁ : Heap), (∀ b ob, s.heap.get? b = some ob → h₁.get? b = some ob) → ∀ b ob, s.heap.get? b = some ob → (h₁.push o).get? b = some ob := fun o h₁ k b ob e => Heap.get?_push_of_some _ (k b ob e)
  have nosz : ∀ a, s.heap.objs.size ≤ a → s.heap.get? a = none := fun a ha => by
    cases e : s.heap.get? a with
    | none => rfl
    | some o => exact absurd (Heap.lt_size e) (Nat.not_lt.mpr ha)
  by_cases hd : (!byText w && (!t.plain && decide (es.size > 1))) = true
  · rw [if_pos hd]
    refine wpAny_bind (draw_order es.size (List.range es.size) s (by simp) fun ps d hps => ?_)
    have hpl : ps.length = es.size := by rw [hps.length_eq]; simp
    refine wpAny_bind (wpAny_newTuple ?_ (by rw [List.length_map, hpl, hlen]; exact fits_of_scanBound hz))
    have k1 : ∀ b ob, s.heap.get? b = some ob → (s.heap.push { cls := .type "tuple", data := .seq (ps.map (fun (i : Nat) => rawInt i)).toArray }).get? b = some ob := fun b ob e => Heap.get?_push_of_some _ e
    refine wpAny_bind (wpAny_setEpoch_of (s := { s with heap := s.heap.push { cls := .type "tuple", data := .seq (ps.map (fun (i : Nat) => rawInt i)).toArray }, drawn := d }) (k1 _ _ ho) rfl hf ?_)
    refine wpAny_bind (wpAny_newObj_type ?_)
    have hsz : (s.heap.push { cls := .type "tuple", data := .seq (ps.map (fun (i : Nat) => rawInt i)).toArray }).objs.size = s.heap.objs.size + 1 := Heap.size_push ..
    have hps' : ∀ k ∈ ps, k < es.size := fun k hk => by simpa using hps.mem_iff.mp hk
    have hvp : (ps.map (fun k => (es.toList.map (·.2)).getD k .none)).Perm (es.toList.map (·.2)) := by
      have e1 : (List.range es.size).map (fun k => (es.toList.map (·.2)).getD k .none) = es.toList.map (·.2) := by
        apply List.ext_getElem?
        intro i
        rw [List.getElem?_map]
        by_cases hi : i < es.size
        · rw [List.getElem?_range hi]; simp [List.getD, hi]
        · rw [List.getElem?_eq_none (by simpa using hi), List.getElem?_eq_none (by simpa using hi)]; rfl
      have := hps.map (fun k => (es.toList.map (·.2)).getD k .none)
      rwa [e1] at this
    obtain ⟨kv1, kv2⟩ := key _ hvp
    have hI : ∀ (o : Obj), o.isFreed = false → ((s.heap.push { cls := .type "tuple", data := .seq (ps.map (fun (i : Nat) => rawInt i)).toArray }).push o).get? (s.heap.objs.size + 1) = some o := fun o hf => by rw [← hsz]; exact Heap.get?_push_size _ hf
    refine wpAny_pure ⟨_, rfl, "set_iterator", _, ⟨_, Heap.get?_push_size _ rfl, rfl⟩, slot_setiter_next.lookup, ?_⟩
    show Q (.ref (s.heap.push _).objs.size) _
    rw [hsz]
    refine h (s.heap.objs.size + 1) _ _ _ d kv1 kv2 (stay _ _ k1) (by
      cases e : s.heap.get? (s.heap.objs.size + 1) with
      | none => rfl
      | some o => exact absurd (Heap.lt_size e) (Nat.not_lt.mpr (Nat.le_succ _))) fun A hh => ⟨_, _, walk_drawn (I := s.heap.objs.size + 1) (S := S) (T := s.heap.objs.size) (es := es) (ep := ep) (t := t) (n' := 0) (ks := ps) hh (Nat.ne_of_gt (Nat.lt_succ_of_lt hS0)) (Nat.succ_ne_self _) hf (by simp) fun i v hv => ?_,
        ⟨hI _ rfl, Heap.get?_push_of_some _ (k1 _ _ ho), Heap.get?_push_of_some _ (Heap.get?_push_size _ rfl)⟩, ?_, by simp⟩
    · rw [List.getElem?_map] at hv
      cases hk : ps[i]? with
      | none => rw [hk] at hv; cases hv
      | some k =>
        rw [hk] at hv
        have hlt := hps' k (List.mem_of_getElem? hk)
        have hv : (es.toList.map (·.2)).getD k .none = v := Option.some.inj hv
        refine ⟨k, es[k].1, rfl, ?_⟩
        rw [Array.getElem?_eq_getElem hlt]
        simp [List.getD, hlt] at hv
        rw [← hv]
    · intro b hb
      simp at hb
      rcases hb with rfl | rfl | rfl
      · exact .inr (nosz _ (Nat.le_succ _))
      · exact .inl rfl
      · exact .inr (nosz _ (Nat.le_refl _))
  · rw [if_neg hd]
    refine wpAny_bind (wpAny_pure ?_)
    refine wpAny_bind (wpAny_setEpoch_of ho rfl hf ?_)
    refine wpAny_bind (wpAny_newObj_type ?_)
    refine wpAny_pure ⟨_, rfl, "set_iterator", _, ⟨_, Heap.get?_push_size _ rfl, rfl⟩, slot_setiter_next.lookup, ?_⟩
    have hI0 : s.heap.get? s.heap.objs.size = none := by
      cases e : s.heap.get? s.heap.objs.size with
      | none => rfl
      | some o => exact absurd (Heap.lt_size e) (Nat.lt_irrefl _)
    have hfp : ∀ b ∈ [s.heap.objs.size, S], b = S ∨ s.heap.get? b = none := fun b hb => by
      simp at hb
      rcases hb with rfl | rfl
      · exact .inr hI0
      · exact .inl rfl
    cases hb : byText w with
    | true =>
      have hvp : ((pickOrder (w.params.setOrder S ep) es).toList.map (·.2)).Perm (es.toList.map (·.2)) := (pick_perm _ es).map _
      obtain ⟨kv1, kv2⟩ := key _ hvp
      refine h s.heap.objs.size _ _ _ s.drawn kv1 kv2 (stay _ _ fun b ob e => e) hI0 fun A hh => ⟨_, _, walk_int (I := s.heap.objs.size) (S := S) (es := es) (ep := ep) (t := t) (sl := fun _ => 0) hh (Nat.ne_of_gt hS0) hf (by rw [List.length_map, (pick_perm _ es).length_eq]; simp) (fun s' hs' i v hv A Q E hq => next_text hb hs' hf ?_) (fun s' hs' A Q E hq => next_text hb hs' hf ?_),
        ⟨Heap.get?_push_size _ rfl, Heap.get?_push_of_some _ ho⟩, hfp, by simp⟩
      · rw [List.getElem?_map, Array.getElem?_toList] at hv
        cases he : (pickOrder (w.params.setOrder S ep) es)[i]? with
        | none => rw [he] at hv; cases hv
        | some e => rw [he] at hv; cases hv; exact hq
      · rw [List.length_map, Array.length_toList, Array.getElem?_eq_none (Nat.le_refl _)]; exact hq
    | false =>
      have hl1 : t.led = true := by rw [hled, hb]; rfl
      have hsz1 : es.size ≤ 1 := by
        rw [hb] at hd
        rcases hpl with q | q
        · omega
        · rw [q] at hd; simp at hd; exact hd
      have hpsz : t.place.size = es.size := by
        simp only [SetTable.fits, Bool.and_eq_true, beq_iff_eq] at hf; exact hf.1
      obtain ⟨kv1, kv2⟩ := key (es.toList.map (·.2)) (.refl _)
      refine h s.heap.objs.size _ _ _ s.drawn kv1 kv2 (stay _ _ fun b ob e => e) hI0 fun A hh => ⟨_, _, walk_int (I := s.heap.objs.size) (S := S) (es := es) (ep := ep) (t := t) (sl := fun i => if i = 0 then 0 else t.place.getD 0 0 + 1) hh (Nat.ne_of_gt hS0) hf (by simp) (fun s' hs' i v hv A Q E hq => next_led hb hs' hf hl1 hsz1 ?_) (fun s' hs' A Q E hq => next_led hb hs' hf hl1 hsz1 ?_),
        ⟨Heap.get?_push_size _ rfl, Heap.get?_push_of_some _ ho⟩, hfp, by simp⟩
      · rw [List.getElem?_map, Array.getElem?_toList] at hv
        have hi : i = 0 := by
          rcases Nat.lt_or_ge i es.size with q | q
          · omega
          · rw [Array.getElem?_eq_none q] at hv; cases hv
        subst hi
        have h1 : es.size = 1 := by
          rcases Nat.lt_or_ge 0 es.size with q | q
          · omega
          · rw [Array.getElem?_eq_none q] at hv; cases hv
        obtain ⟨j, hj⟩ : ∃ j, t.place = #[j] := Array.size_eq_one_iff.mp (by rw [hpsz, h1])
        rw [hj, below_one]
        simp only [if_true, Nat.not_lt_zero, if_false]
        cases he : es[0]? with
        | none => rw [he] at hv; cases hv
        | some e =>
          rw [he] at hv; cases hv
          have hj' : t.place.getD 0 0 = j := by rw [hj]; rfl
          simp only [Nat.add_eq_zero_iff, Nat.one_ne_zero, and_false, if_false, hj'] at hq
          exact hq
      · have e0 : ∀ k, es.size ≤ k → es[k]? = none := fun k hk => Array.getElem?_eq_none hk
        rcases Nat.eq_zero_or_pos es.size with q | q
        · rw [e0 _ (by omega)]; exact hq
        · have h1 : es.size = 1 := by omega
          obtain ⟨j, hj⟩ : ∃ j, t.place = #[j] := Array.size_eq_one_iff.mp (by rw [hpsz, h1])
          have hj' : t.place.getD 0 0 = j := by rw [hj]; rfl
          rw [hj, below_one, hj.symm, hj']
          have hvl : (es.toList.map (fun x => x.2)).length = 1 := by simpa using h1
          rw [hvl]
          simp only [Nat.one_ne_zero, if_false, Nat.lt_succ_self, if_true]
          rw [e0 _ (by omega)]; exact hq
end
end Mine
end
section
set_option autoImplicit false
set_option linter.unusedVariables false
set_option maxRecDepth 100000
namespace Mine
open PySem PyProof.Rows

section
variable {prog : Program} {w : World} {A : Around} {E : Value → Shared → Prop} {s : Shared}

theorem hint_S {S : Addr} {es : Array (Int × Value)} {ep : Nat} {t : SetTable} {Q : Bool → Shared → Prop} (ho : s.heap.get? S = some (setO es ep t)) (h : Q false s) : wpAny (model prog w) A (Builtin.List.listLengthHint (.ref S)) Q E s := by
  have hT : s.TypeIs (.ref S) "set" := ⟨_, ho, rfl⟩
  unfold Builtin.List.listLengthHint
  refine wpAny_bind (wpAny_specialOf hT PySem.F.slot_set_len.lookup ?_)
  (generalize hid : ("set.__len__" : String) = id0; (fail_if_success (clear hid id0)); wp_delta; rw [show splitId id0 = some ("set", "__len__") from by subst hid; decide +kernel]; subst hid)
  refine wpAny_bind (wpAny_isInstance (b := true) hT (by rw [isSubtype_type]; kernel_rfl) ?_)
  refine wpAny_bind (wpAny_typeOf hT ?_)
  exact wpAny_pure h

/-- all that stays -/
structure Same (s s' : Shared) : Prop where
  heap : ∀ b o, s.heap.get? b = some o → s'.heap.get? b = some o
  gens : s'.gens = s.gens
  os : s'.os = s.os

theorem collect_S {S : Addr} {ks : List Str} {Q : List Value → Shared → Prop} (hh : A.handled = none) (hS : SetS prog w s.heap S ks) (hz : ks.length < scanBound)
    (h : ∀ vs ss s', StrsAre vs ss → ss.Perm ks → Same s s' → Q vs s') : wpAny (model prog w) A (collect (.ref S)) Q E s := by
  obtain ⟨es, ep, t, ho, hrest⟩ := id hS
  unfold collect
  refine wpAny_bind (wpAny_runValue (codeAny_builtin PySem.F.entry_proto_collect ?_))
  rw [Around.under_plainId PySem.F.plain_proto_collect _]
  show wpAny _ A.in1 (newList [] >>= fun l => again (.builtin "list.__iadd__" ⟨[l, .ref S], []⟩)) _ _ s
  refine wpAny_bind (wpAny_newObj_type ?_)
  refine wpAny_pure ⟨plainId_quiet PySem.F.plain_list_iadd _, codeAny_builtin PySem.F.entry_list_iadd ?_⟩
  rw [Around.under_plainId PySem.F.plain_list_iadd _]
  show wpAny _ A.in1 (Builtin.List.listExtendWith (.ref s.heap.objs.size) (.ref S) (.ref s.heap.objs.size)) _ _ _
  unfold Builtin.List.listExtendWith
  have k1 : ∀ b o, s.heap.get? b = some o → (s.heap.push { cls := .type "list", data := .seq ([] : List Value).toArray }).get? b = some o := fun b o e => Heap.get?_push_of_some _ e
  have hS1 : SetS prog w (s.heap.push { cls := .type "list", data := .seq ([] : List Value).toArray }) S ks := sets_ext hS fun o e => k1 S o e
  have hL1 : (s.heap.push { cls := .type "list", data := .seq ([] : List Value).toArray }).get? s.heap.objs.size = some { cls := .type "list", data := .seq ([] : List Value).toArray } := Heap.get?_push_size _ rfl
  have hSne : S ≠ s.heap.objs.size := Nat.ne_of_lt (Heap.lt_size ho)
  refine wpAny_bind (wpAny_typeOf (T := "set") ⟨_, k1 _ _ ho, rfl⟩ ?_)
  rw [if_neg (by simp [Builtin.List.listSameRef, Ne.symm hSne])]
  refine wpAny_bind (iter_S (s := { s with heap := s.heap.push { cls := .type "list", data := .seq ([] : List Value).toArray } }) hS1 hz fun I vs ss h' d hst hperm hk hI0 hw => ?_)
  refine wpAny_bind (wpAny_holding (hint_S (es := es) (ep := ep) (t := t) (hk _ _ (k1 _ _ ho)) ?_))
  rw [if_pos (by decide)]
  refine wpAny_bind (wpAny_rule ?_)
  have hL2 := hk _ _ hL1
  refine wpAny_bind ?_
  show wpAny _ A.in1 (updateSeq s.heap.objs.size (·.push .none) >>= fun _ => updateSeq s.heap.objs.size (·.pop)) _ _ _
  refine wpAny_bind (wpAny_updateSeq hL2 rfl ?_)
  have hL3 := Heap.get?_update_self (Obj.mapSeq (·.push Value.none)) hL2 rfl
  refine wpAny_updateSeq hL3 rfl ?_
  have hL4 := Heap.get?_update_self (Obj.mapSeq (·.pop)) hL3 rfl
  have oth : ∀ b o, b ≠ s.heap.objs.size → h'.get? b = some o → ((h'.update s.heap.objs.size (Obj.mapSeq (·.push Value.none))).update s.heap.objs.size (Obj.mapSeq (·.pop))).get? b = some o :=
    fun b o hb e => (Heap.get?_update_other _ _ (Ne.symm hb)).trans ((Heap.get?_update_other _ _ (Ne.symm hb)).trans e)
  obtain ⟨fp, St, W, st0, hfp, hIf⟩ := hw A.in1 hh
  have hLf : s.heap.objs.size ∉ fp := fun q => by
    rcases hfp _ q with e | e
    · exact hSne e.symm
    · rw [show (s.heap.push { cls := .type "list", data := .seq ([] : List Value).toArray }).get? s.heap.objs.size = _ from hL1] at e; cases e
  have hvl : vs.length ≤ sizeLine := by
    rw [← strs_len hst, hperm.length_eq]; exact fits_of_scanBound hz
  refine wpAny_pure ⟨plainId_quiet PySem.F.plain_extend_loop _, codeAny_extend_loopS W hvl _ hLf _ vs.length 0 _ _ _ rfl (Nat.zero_le _)
    (W.frame 0 { s with heap := h', drawn := d } ((h'.update s.heap.objs.size (Obj.mapSeq (·.push Value.none))).update s.heap.objs.size (Obj.mapSeq (·.pop))) s.toks st0 (Nat.le_refl _) fun b hb o e => oth b o (fun q => hLf (q ▸ hb)) e) hL4 (ItemsOf.nil _) fun s' acc' c' hm hS' hacc => ?_⟩
  show wpAny _ A (load s.heap.objs.size >>= _) _ _ s'
  refine wpAny_bind (wpAny_load hS' ?_)
  have hacc' : acc'.toList = vs := by
    apply List.ext_getElem?
    intro i
    rcases Nat.lt_or_ge i vs.length with q | q
    · have hi : i < acc'.size := by rw [hacc.1]; exact q
      have := hacc.2 i acc'[i] (Array.getElem?_eq_getElem hi)
      rw [this, Array.getElem?_toList, Array.getElem?_eq_getElem hi]
    · rw [List.getElem?_eq_none q, List.getElem?_eq_none (by rw [Array.length_toList, hacc.1]; exact q)]
  show wpAny _ A (pure acc'.toList) _ _ s'
  rw [hacc']
  refine wpAny_pure (h vs ss s' hst hperm ⟨fun b o e => ?_, hm.gens, hm.os⟩)
  have hb1 : b ≠ s.heap.objs.size := Nat.ne_of_lt (Heap.lt_size e)
  refine hm.heap b o ?_ (oth b o hb1 (hk b o (k1 b o e)))
  simp only [List.mem_cons, List.not_mem_nil, or_false, not_or]
  refine ⟨hb1, fun q => ?_⟩
  rw [q] at e
  rw [k1 _ _ e] at hI0; cases hI0

theorem sorted_keep {h : Heap} {vs : List Value} {out : Array Value} {b : Addr} {o : Obj} (e : h.get? b = some o) : (sortedHeap (h.push (seqObj "list" vs.toArray 0)) h.objs.size vs out).get? b = some o := by
  have hlt := Heap.lt_size e
  rw [sortedHeap_old (Nat.ne_of_lt hlt) (by rw [Heap.size_push]; exact Nat.lt_succ_of_lt hlt)]
  exact Heap.get?_push_of_some _ e

/-- a set of texts in order -/
theorem sorted_S {S : Addr} {ks : List Str} {Q : Value → Shared → Prop} (hh : A.handled = none) (hS : SetS prog w s.heap S ks) (hz : ks.length < 64)
    (h : ∀ a s' (out : Array Value) ss e, Same s s' → s.heap.get? a = none → s'.heap.get? a = some (seqObj "list" out e) → StrsAre out.toList ss → ss.Perm ks → sortedS ss = true → Q (.ref a) s') :
    wpAny (model prog w) A (call (.builtin "sorted") [.ref S]) Q E s := by
  refine Calls.call_function_entry kind_sorted plain_sorted entry_sorted (args_sorted1 _) ?_
  unfold Builtin.«sorted»
  refine wpAny_bind (m := checkCount "sorted" 1 1 _) (wpAny_pure ?_)
  refine wpAny_bind (collect_S hh hS (by unfold scanBound; omega) fun vs ss s' hst hperm hsm => ?_)
  have hvl : vs.length < 64 := by rw [← strs_len hst, hperm.length_eq]; exact hz
  refine wpAny_bind (wpAny_newList ?_ (by have := sizeLine_eq; omega))
  have hoL : (s'.heap.push (seqObj "list" vs.toArray 0)).get? s'.heap.objs.size = some (seqObj "list" vs.toArray 0) := Heap.get?_push_size _ rfl
  refine wpAny_bind (wpAny_holding (wpAny_call_entry (s := { s' with heap := s'.heap.push (seqObj "list" vs.toArray 0) }) slot_list_sort ⟨_, hoL, rfl⟩ entry_list_sort (list_sort_treeK strKind_oneLt hoL hst.keysOf (fun v₁ v₂ rest e => keyKind_strs (by rw [← e]; exact hst)) hvl fun st' a1 a2 => ⟨_, rfl, ?_⟩) (args_list_sort _)))
  obtain ⟨ss', h1, h2, h3⟩ := sorted_out_str hst a1 a2
  obtain ⟨e, he⟩ := sortedHeap_at (out := (arrOf st').map (·.2)) hoL
  refine wpAny_pure ⟨_, rfl, h _ _ _ ss' e ⟨fun b o eb => ?_, hsm.gens, hsm.os⟩ ?_ he h1 (h2.trans hperm) h3⟩
  · exact sorted_keep (hsm.heap b o eb)
  · cases q : s.heap.get? s'.heap.objs.size with
    | none => rfl
    | some o => exact absurd (Heap.lt_size (hsm.heap _ o q)) (Nat.lt_irrefl _)
end
end Mine
end
section
set_option autoImplicit false
set_option linter.unusedVariables false
namespace Mine
open PySem PyProof.Rows

theorem slt_iff : ∀ (a b : List Nat), slt a b = true ↔ a < b
  | [], [] => by simp [slt]
  | [], _ :: _ => by simp [slt]
  | _ :: _, [] => by simp [slt]
  | a :: x, b :: y => by
    rw [List.cons_lt_cons_iff]
    unfold slt
    by_cases h : a < b
    · simp [h]
    · by_cases e : a = b
      · subst e; simp [slt_iff x y]
      · have : (a == b) = false := by simpa using e
        simp [h, e, this]
theorem sins_mem {s x : List Nat} : ∀ {l : List (List Nat)}, x ∈ sins s l ↔ x = s ∨ x ∈ l
  | [] => by simp [sins]
  | t :: r => by
    unfold sins
    cases h1 : slt s t with
    | true => simp
    | false =>
      cases h2 : s == t with
      | true =>
        have : s = t := by simpa using h2
        subst this
        simp
      | false =>
        simp only [List.mem_cons, sins_mem (l := r)]
        constructor
        · rintro (h | h | h)
          · exact .inr (.inl h)
          · exact .inl h
          · exact .inr (.inr h)
        · rintro (h | h | h)
          · exact .inr (.inl h)
          · exact .inl h
          · exact .inr (.inr h)
theorem sset_mem {x : List Nat} : ∀ {l : List (List Nat)}, x ∈ sset l ↔ x ∈ l
  | [] => by simp [sset]
  | s :: r => by unfold sset; rw [sins_mem, sset_mem, List.mem_cons]
theorem sins_pw {s : List Nat} : ∀ {l : List (List Nat)}, l.Pairwise (· < ·) → (sins s l).Pairwise (· < ·)
  | [], _ => by simp [sins]
  | t :: r, h => by
    obtain ⟨h1, h2⟩ := List.pairwise_cons.mp h
    unfold sins
    cases e1 : slt s t with
    | true =>
      have hst := (slt_iff s t).mp e1
      exact List.pairwise_cons.mpr ⟨fun x hx => by
        rcases List.mem_cons.mp hx with rfl | hx
        · exact hst
        · exact List.lt_trans hst (h1 x hx), h⟩
    | false =>
      cases e2 : s == t with
      | true => exact h
      | false =>
        have hne : s ≠ t := by simpa using e2
        have hle : ¬ s < t := fun q => by rw [(slt_iff s t).mpr q] at e1; cases e1
        have hts : t < s := by
          rcases Classical.em (t < s) with q | q
          · exact q
          · exact absurd (List.le_antisymm (List.not_lt.mp q) (List.not_lt.mp hle)) hne
        refine List.pairwise_cons.mpr ⟨fun x hx => ?_, sins_pw h2⟩
        rcases sins_mem.mp hx with rfl | hx
        · exact hts
        · exact h1 x hx
theorem sset_pw : ∀ (l : List (List Nat)), (sset l).Pairwise (· < ·)
  | [] => by simp [sset]
  | s :: r => by unfold sset; exact sins_pw (sset_pw r)
theorem pw_eq : ∀ {l m : List (List Nat)}, l.Pairwise (· < ·) → m.Pairwise (· < ·) → (∀ x, x ∈ l ↔ x ∈ m) → l = m
  | [], [], _, _, _ => rfl
  | [], b :: m, _, _, h => by have := (h b).mpr (List.mem_cons_self ..); cases this
  | a :: l, [], _, _, h => by have := (h a).mp (List.mem_cons_self ..); cases this
  | a :: l, b :: m, hl, hm, h => by
    obtain ⟨l1, l2⟩ := List.pairwise_cons.mp hl
    obtain ⟨m1, m2⟩ := List.pairwise_cons.mp hm
    have hab : a = b := by
      rcases List.mem_cons.mp ((h a).mp (List.mem_cons_self ..)) with q | q
      · exact q
      · rcases List.mem_cons.mp ((h b).mpr (List.mem_cons_self ..)) with q' | q'
        · exact q'.symm
        · exact absurd (List.lt_trans (m1 a q) (l1 b q')) (List.lt_irrefl _)
    subst hab
    congr 1
    refine pw_eq l2 m2 fun x => ⟨fun hx => ?_, fun hx => ?_⟩
    · rcases List.mem_cons.mp ((h x).mp (List.mem_cons_of_mem _ hx)) with q | q
      · subst q; exact absurd (l1 _ hx) (List.lt_irrefl _)
      · exact q
    · rcases List.mem_cons.mp ((h x).mpr (List.mem_cons_of_mem _ hx)) with q | q
      · subst q; exact absurd (m1 _ hx) (List.lt_irrefl _)
      · exact q

theorem rising_pw : ∀ (p : Str) (l : List Str), risingS p l = true → (p :: l).Nodup → ((p :: l).map (fun x => x.cps.toList)).Pairwise (· < ·)
  | p, [], _, _ => by simp
  | p, x :: r, h, hn => by
    unfold risingS at h
    simp only [Bool.and_eq_true, Bool.not_eq_true', ltCps_eq, decide_eq_false_iff_not] at h
    obtain ⟨hn1, hn2⟩ := List.nodup_cons.mp hn
    have ih := rising_pw x r h.2 hn2
    have hne : p.cps.toList ≠ x.cps.toList := fun q => hn1 (by
      have : p = x := by
        obtain ⟨⟨a⟩⟩ := p; obtain ⟨⟨b⟩⟩ := x; simp at q; subst q; rfl
      rw [this]; exact List.mem_cons_self ..)
    have hpx : p.cps.toList < x.cps.toList := by
      rcases Classical.em (p.cps.toList < x.cps.toList) with q | q
      · exact q
      · exact absurd (List.le_antisymm (List.not_lt.mp h.1) (List.not_lt.mp q)) hne
    rw [List.map_cons]
    refine List.pairwise_cons.mpr ⟨fun y hy => ?_, ih⟩
    rw [List.map_cons] at hy ih
    obtain ⟨i1, _⟩ := List.pairwise_cons.mp ih
    rcases List.mem_cons.mp hy with rfl | hy
    · exact hpx
    · exact List.lt_trans hpx (i1 y hy)
theorem sorted_pw {l : List Str} (h : sortedS l = true) (hn : l.Nodup) : (l.map (fun x => x.cps.toList)).Pairwise (· < ·) := by
  cases l with
  | nil => simp
  | cons p r => exact rising_pw p r h hn

theorem addAll_nodup (ss : List Str) : (addAll ss).Nodup := by
  have : ∀ (ss ks : List Str), ks.Nodup → (ss.foldl addS ks).Nodup := by
    intro ss
    induction ss with
    | nil => intro ks h; exact h
    | cons s r ih =>
      intro ks h
      refine ih _ ?_
      unfold addS
      split
      · exact h
      · rename_i hk
        rw [List.nodup_append]
        exact ⟨h, by simp, fun x hx y hy => by
          have : y = s := by simpa using hy
          subst this; intro q; subst q; exact hk hx⟩
  exact this ss [] List.nodup_nil

/-- the texts in order are what the small language says -/
theorem sset_is {ss : List (List Nat)} {ss' : List Str} (hp : ss'.Perm (addAll (ss.map (fun x => (⟨x.toArray⟩ : Str))))) (hs : sortedS ss' = true) : ss'.map (fun x => x.cps.toList) = sset ss := by
  have hn : ss'.Nodup := hp.nodup_iff.mpr (addAll_nodup _)
  refine pw_eq (sorted_pw hs hn) (sset_pw ss) fun x => ?_
  rw [sset_mem]
  constructor
  · intro h
    obtain ⟨y, hy, rfl⟩ := List.mem_map.mp h
    have := addAll_mem.mp (hp.mem_iff.mp hy)
    obtain ⟨z, hz, rfl⟩ := List.mem_map.mp this
    simpa using hz
  · intro h
    refine List.mem_map.mpr ⟨⟨x.toArray⟩, hp.mem_iff.mpr (addAll_mem.mpr (List.mem_map.mpr ⟨x, h, rfl⟩)), by simp⟩
theorem sset_len {ss : List (List Nat)} : (addAll (ss.map (fun x => (⟨x.toArray⟩ : Str)))).length = (sset ss).length := by
  have : ∀ (l m : List (List Nat)), l.Nodup → m.Nodup → (∀ x, x ∈ l ↔ x ∈ m) → l.length = m.length := fun l m h1 h2 h => ((List.perm_ext_iff_of_nodup h1 h2).mpr h).length_eq
  have hn : ((addAll (ss.map (fun x => (⟨x.toArray⟩ : Str)))).map (fun x => x.cps.toList)).Nodup := by
    refine List.pairwise_map.mpr ((addAll_nodup _).imp fun {p x} hne q => hne ?_)
    obtain ⟨⟨a⟩⟩ := p; obtain ⟨⟨b⟩⟩ := x; simp at q; subst q; rfl
  have := this _ (sset ss) hn ((sset_pw ss).imp fun h q => by subst q; exact List.lt_irrefl _ h) fun x => by
    rw [sset_mem]
    constructor
    · intro h
      obtain ⟨y, hy, rfl⟩ := List.mem_map.mp h
      obtain ⟨z, hz, rfl⟩ := List.mem_map.mp (addAll_mem.mp hy)
      simpa using hz
    · intro h
      exact List.mem_map.mpr ⟨⟨x.toArray⟩, addAll_mem.mpr (List.mem_map.mpr ⟨x, h, rfl⟩), by simp⟩
  simpa using this
end Mine
end
section
set_option autoImplicit false
set_option linter.unusedVariables false
namespace Mine
open PySem PyProof.Rows

section
variable {C : Glo} {F : Fm} {X : XM} {c : Cx} {n : Nat}

theorem svEs (G : GOk C) (cx : CxOk C c F n) : ∀ {es : List ME}, (∀ a ∈ es, SV C X n c F a) → ∀ (xs : List Expr), chkEs c es xs = true → ∀ (Q : List MV → MS → Prop) (m : MS), wpEs (Call C) n es Q X m → ∀ pos, WPl C F X es.length (spliced (backTo pos (starEach xs F.env))) Q m
  | [], ih, xs, hc, Q, m, h, pos => by
    unfold wpEs at h
    unfold chkEs at hc
    cases xs with
    | nil => intro s ρ R; exact wpAny_items_nil ⟨_, _, _, .refl _ _ _, R, .nil, rfl, h⟩
    | cons => cases hc
  | e :: es, ih, xs, hc, Q, m, h, pos => by
    unfold wpEs at h
    unfold chkEs at hc
    split at hc
    · cases hc
    · rename_i x xs
      simp only [Bool.and_eq_true] at hc
      obtain ⟨⟨hx, he⟩, hes⟩ := hc
      intro s ρ R
      refine wpAny_items_cons ((ih e (by simp) x he _ m h).go R (.refl _ _ _) fun ρ₁ s₁ m₁ x v st t1 R₁ rx h₁ => ?_) (okX_star hx _ _)
      refine (svEs G cx (fun a ha => ih a (List.mem_cons_of_mem _ ha)) xs hes _ m₁ h₁ pos).go R₁ t1 fun ρ₂ s₂ m₂ ys vs st2 t2 R₂ rl el h₂ => ?_
      exact ⟨_, _, _, t2, R₂, .cons (rx.step st2) rl, by simp [el], h₂⟩

theorem svO (G : GOk C) (cx : CxOk C c F n) : ∀ {o : Option ME}, (∀ a, o = some a → SV C X n c F a) → ∀ (x : Option Expr), chkO c o x = true → ∀ (Q : Option MV → MS → Prop) (m : MS), wpO (Call C) n o Q X m → ∀ (s : Shared) (ρ : List Addr), Rel C F ρ m s →
    ∀ (s₀ : Shared) (ρ₀ : List Addr) (P : Value → Shared → Prop), Step F.W ρ₀ s₀ ρ s → (∀ ρ₁ s₁ m₁ x v, Step F.W ρ s ρ₁ s₁ → Step F.W ρ₀ s₀ ρ₁ s₁ → Rel C F ρ₁ m₁ s₁ → PartRep C ρ₁ s₁.heap x v → Q x m₁ → P v s₁) →
      wpAny (mod C) F.A (evalPart x F.env) P (Er C F X ρ₀ s₀) s
  | none, ih, x, hc, Q, m, h, s, ρ, R, s₀, ρ₀, P, st, k => by
    unfold wpO at h
    unfold chkO at hc
    cases x with
    | none => rw [evalPart_none]; exact wpAny_pure (k ρ s m none .none (.refl _ _ _) st R rfl h)
    | some => cases hc
  | some e, ih, x, hc, Q, m, h, s, ρ, R, s₀, ρ₀, P, st, k => by
    unfold wpO at h
    unfold chkO at hc
    split at hc
    · rw [evalPart_some]
      exact (ih e rfl _ hc _ m h).go R st fun ρ₁ s₁ m₁ x v st1 t1 R₁ rx h₁ => k ρ₁ s₁ m₁ (some x) v st1 t1 R₁ rx h₁
    · cases hc

theorem svAnd (G : GOk C) (cx : CxOk C c F n) : ∀ {es : List ME}, (∀ a ∈ es, SV C X n c F a) → ∀ (xs : List Expr), chkEs c es xs = true → ∀ (Q : PQ) (m : MS), wpAnd (Call C) n es Q X m → ∀ pos, WPv C F X (boolOp pos .And (evalEach xs F.env)) Q m
  | [], ih, xs, hc, Q, m, h, pos => by unfold wpAnd at h; exact h.elim
  | [e], ih, xs, hc, Q, m, h, pos => by
    unfold wpAnd at h
    unfold chkEs at hc
    split at hc
    · cases hc
    · rename_i x xs
      simp only [chkEs, Bool.and_eq_true] at hc
      cases xs with
      | nil => exact ih e (by simp) x hc.1.2 Q m h
      | cons => cases hc.2
  | e :: e' :: es, ih, xs, hc, Q, m, h, pos => by
    unfold wpAnd at h
    unfold chkEs at hc
    split at hc
    · cases hc
    · rename_i x xs
      rw [Bool.and_eq_true, Bool.and_eq_true] at hc
      cases xs with
      | nil => simp [chkEs] at hc
      | cons x' xs =>
        intro s ρ R
        show wpAny (mod C) F.A (do let v ← eval x F.env; standAt pos; let t ← holding [v] (truthy v); match BoolOp.And, t with | .And, false | .Or, true => pure v | _, _ => boolOp pos .And (evalEach (x' :: xs) F.env)) _ _ s
        refine wpAny_bind ((ih e (by simp) x hc.1.2 _ m h).go R (.refl _ _ _) fun ρ₁ s₁ m₁ y v st t1 R₁ rx h₁ => ?_)
        unfold ofBool at h₁
        split at h₁
        · rename_i b
          cases rx
          refine wpAny_bind (wpAny_standAt (wpAny_bind (wpAny_holding (wpAny_truthy_bool ?_))))
          cases b with
          | true => exact wpAny_mono (svAnd G cx (fun a ha => ih a (List.mem_cons_of_mem _ ha)) (x' :: xs) hc.2 Q m₁ h₁ pos s₁ ρ₁ R₁) (Out.back t1) (Er.back t1)
          | false => exact wpAny_pure (Out.back t1 _ _ (outSame R₁ (.bool _) h₁))
        · exact h₁.elim

theorem svOr (G : GOk C) (cx : CxOk C c F n) : ∀ {es : List ME}, (∀ a ∈ es, SV C X n c F a) → ∀ (xs : List Expr), chkEs c es xs = true → ∀ (Q : PQ) (m : MS), wpOr (Call C) n es Q X m → ∀ pos, WPv C F X (boolOp pos .Or (evalEach xs F.env)) Q m
  | [], ih, xs, hc, Q, m, h, pos => by unfold wpOr at h; exact h.elim
  | [e], ih, xs, hc, Q, m, h, pos => by
    unfold wpOr at h
    unfold chkEs at hc
    split at hc
    · cases hc
    · rename_i x xs
      simp only [chkEs, Bool.and_eq_true] at hc
      cases xs with
      | nil => exact ih e (by simp) x hc.1.2 Q m h
      | cons => cases hc.2
  | e :: e' :: es, ih, xs, hc, Q, m, h, pos => by
    unfold wpOr at h
    unfold chkEs at hc
    split at hc
    · cases hc
    · rename_i x xs
      rw [Bool.and_eq_true, Bool.and_eq_true] at hc
      cases xs with
      | nil => simp [chkEs] at hc
      | cons x' xs =>
        intro s ρ R
        show wpAny (mod C) F.A (do let v ← eval x F.env; standAt pos; let t ← holding [v] (truthy v); match BoolOp.Or, t with | .And, false | .Or, true => pure v | _, _ => boolOp pos .Or (evalEach (x' :: xs) F.env)) _ _ s
        refine wpAny_bind ((ih e (by simp) x hc.1.2 _ m h).go R (.refl _ _ _) fun ρ₁ s₁ m₁ y v st t1 R₁ rx h₁ => ?_)
        unfold ofBool at h₁
        split at h₁
        · rename_i b
          cases rx
          refine wpAny_bind (wpAny_standAt (wpAny_bind (wpAny_holding (wpAny_truthy_bool ?_))))
          cases b with
          | false => exact wpAny_mono (svOr G cx (fun a ha => ih a (List.mem_cons_of_mem _ ha)) (x' :: xs) hc.2 Q m₁ h₁ pos s₁ ρ₁ R₁) (Out.back t1) (Er.back t1)
          | true => exact wpAny_pure (Out.back t1 _ _ (outSame R₁ (.bool _) h₁))
        · exact h₁.elim

theorem sv_cst (G : GOk C) (cx : CxOk C c F n) {v : MV}  : SV C X n c F (.cst v) := by
  intro e hc Q m h
  unfold wpE at h
  unfold chkE at hc
  split at hc
  · rename_i k hx
    obtain ⟨_, _, rfl⟩ := xConst_eq hx
    intro s ρ R; exact const_ok R cx.fm hc h
  · cases hc

theorem sv_var (G : GOk C) (cx : CxOk C c F n) {i : Nat}  : SV C X n c F (.var i) := by
  intro e hc Q m h
  unfold wpE at h
  unfold chkE at hc
  split at hc
  · rename_i x hx
    obtain ⟨_, rfl⟩ := xName_eq hx
    simp only [Bool.and_eq_true, beq_iff_eq, Bool.not_eq_true'] at hc
    split at h
    · intro s ρ R; exact load_var cx R hc.1 (by assumption) hc.2 h
    · exact h.elim
  · cases hc

theorem sv_glob (G : GOk C) (cx : CxOk C c F n) {g : Nat} {v : MV}  : SV C X n c F (.glob g v) := by
  intro e hc Q m h
  unfold wpE at h
  unfold chkE at hc
  split at hc
  · rename_i x hx
    obtain ⟨_, rfl⟩ := xName_eq hx
    simp only [Bool.and_eq_true] at hc
    obtain ⟨h1, h2⟩ := hc
    split at h2
    · rename_i hg
      simp only [Bool.and_eq_true, beq_iff_eq] at h2
      obtain ⟨rfl, rfl⟩ := h2
      intro s ρ R; exact load_gl cx R hg (glName_ok h1).1 (glName_ok h1).2 h
    · cases h2
  · cases hc

theorem sv_bin (G : GOk C) (cx : CxOk C c F n) {op : Op} {a : ME} {b : ME} (ia : SV C X n c F a) (ib : SV C X n c F b) : SV C X n c F (.bin op a b) := by
  intro e hc Q m h
  unfold wpE at h
  unfold chkE at hc
  split at hc
  · rename_i l o r hx
    obtain ⟨p, rfl⟩ := xBin_eq hx
    simp only [Bool.and_eq_true, beq_iff_eq] at hc
    obtain ⟨⟨rfl, ha⟩, hb⟩ := hc
    intro s ρ R
    refine wpAny_BinOp ((ia l ha _ m h).go R (.refl _ _ _) fun ρ₁ s₁ m₁ x v st t1 R₁ rx h₁ => ?_)
    refine (ib r hb _ m₁ h₁).go R₁ t1 fun ρ₂ s₂ m₂ y w st' t2 R₂ ry h₂ => ?_
    exact wpAny_mono (bin_ok R₂ cx.fm (rx.step st') ry h₂) (Out.back t2) fun _ _ x => x
  · cases hc

theorem sv_neg (G : GOk C) (cx : CxOk C c F n) {a : ME} (ia : SV C X n c F a) : SV C X n c F (.neg a) := by
  intro e hc Q m h
  unfold wpE at h
  unfold chkE at hc
  split at hc
  · rename_i o x hx
    obtain ⟨p, rfl⟩ := xUn_eq hx
    simp only [Bool.and_eq_true, beq_iff_eq] at hc
    obtain ⟨rfl, hc⟩ := hc
    intro s ρ R
    refine wpAny_UnaryOp ((ia _ hc _ m h).go R (.refl _ _ _) fun ρ₁ s₁ m₁ x v st t1 R₁ rx h₁ => ?_)
    split at h₁
    · cases rx; exact PyProof.Rows.neg_int (Out.back t1 _ _ (outTok R₁ cx.fm (.int _ _) h₁))
    · exact h₁.elim
  · cases hc

theorem sv_not (G : GOk C) (cx : CxOk C c F n) {a : ME} (ia : SV C X n c F a) : SV C X n c F (.not a) := by
  intro e hc Q m h
  unfold wpE at h
  unfold chkE at hc
  split at hc
  · rename_i o x hx
    obtain ⟨p, rfl⟩ := xUn_eq hx
    simp only [Bool.and_eq_true, beq_iff_eq] at hc
    obtain ⟨rfl, hc⟩ := hc
    intro s ρ R
    refine wpAny_UnaryOp ((ia _ hc _ m h).go R (.refl _ _ _) fun ρ₁ s₁ m₁ x v st t1 R₁ rx h₁ => ?_)
    unfold ofBool at h₁
    split at h₁
    · cases rx; exact not_value (wpAny_truthy_bool (Out.back t1 _ _ (outSame R₁ (.bool _) h₁)))
    · exact h₁.elim
  · cases hc

theorem sv_and (G : GOk C) (cx : CxOk C c F n) {es : List ME} (ies : ∀ a ∈ es, SV C X n c F a) : SV C X n c F (.and es) := by
  intro e hc Q m h
  unfold wpE at h
  unfold chkE at hc
  split at hc
  · rename_i o xs hx
    obtain ⟨p, rfl⟩ := xBool_eq hx
    simp only [Bool.and_eq_true, beq_iff_eq] at hc
    obtain ⟨rfl, hc⟩ := hc
    exact svAnd G cx ies _ hc Q m h _
  · cases hc

theorem sv_or (G : GOk C) (cx : CxOk C c F n) {es : List ME} (ies : ∀ a ∈ es, SV C X n c F a) : SV C X n c F (.or es) := by
  intro e hc Q m h
  unfold wpE at h
  unfold chkE at hc
  split at hc
  · rename_i o xs hx
    obtain ⟨p, rfl⟩ := xBool_eq hx
    simp only [Bool.and_eq_true, beq_iff_eq] at hc
    obtain ⟨rfl, hc⟩ := hc
    exact svOr G cx ies _ hc Q m h _
  · cases hc

theorem sv_cmp (G : GOk C) (cx : CxOk C c F n) {op : Cmp} {a : ME} {b : ME} (ia : SV C X n c F a) (ib : SV C X n c F b) : SV C X n c F (.cmp op a b) := by
  intro e hc Q m h
  unfold wpE at h
  unfold chkE at hc
  split at hc
  · rename_i l o r hxx
    obtain ⟨p, rfl⟩ := xCmp_eq hxx
    simp only [Bool.and_eq_true, beq_iff_eq] at hc
    obtain ⟨⟨⟨rfl, hx⟩, ha⟩, hb⟩ := hc
    intro s ρ R
    refine wpAny_Compare1 ((ia l ha _ m h).go R (.refl _ _ _) fun ρ₁ s₁ m₁ x v st t1 R₁ rx h₁ => ?_) (okX_marks hx _)
    refine (ib r hb _ m₁ h₁).go R₁ t1 fun ρ₂ s₂ m₂ y w st' t2 R₂ ry h₂ => ?_
    refine wpAny_mono (cmp_ok G R₂.hp (rx.step st') ry cx.u h₂) (fun v s' hv => ?_) fun _ _ x => x
    obtain ⟨b, rfl, m', st3, R', hq⟩ := outOfB R₂ cx.fm hv
    exact Out.back t2 _ _ ⟨_, _, _, st3, R', .bool b, hq⟩
  · cases hc

theorem isNn_eq {p : Bool} {ρ : List Addr} {h : Heap} {x : MV} {v : Value} (rx : Rep C ρ h x v) : isNn p x = (if p then (v == Value.none) else !(v == Value.none)) := by
  cases rx <;> cases p <;> rfl
theorem sv_isN (G : GOk C) (cx : CxOk C c F n) {p : Bool} {a : ME} (ia : SV C X n c F a) : SV C X n c F (.isN p a) := by
  intro e hc Q m h
  unfold wpE at h
  unfold chkE at hc
  split at hc
  · rename_i l o r hxx
    obtain ⟨p2, rfl⟩ := xCmp_eq hxx
    simp only [Bool.and_eq_true, beq_iff_eq] at hc
    obtain ⟨⟨ho, hr⟩, ha⟩ := hc
    obtain ⟨_, _, rfl⟩ := xConst_eq hr
    intro s ρ R
    refine wpAny_Compare1 ((ia l ha _ m h).go R (.refl _ _ _) fun ρ₁ s₁ m₁ x v st t1 R₁ rx h₁ => wpAny_Constant_none ?_) rfl
    rw [isNn_eq rx] at h₁
    cases p with
    | true => subst ho; exact is_none (Out.back t1 _ _ (outSame R₁ (.bool _) h₁))
    | false => subst ho; exact isNot_none (Out.back t1 _ _ (outSame R₁ (.bool _) h₁))
  · cases hc

theorem sv_call (G : GOk C) (cx : CxOk C c F n) {f : Nat} {args : List ME} (iargs : ∀ a ∈ args, SV C X n c F a) : SV C X n c F (.call f args) := by
  intro e hc Q m h
  unfold wpE at h
  unfold chkE at hc
  split at hc
  · rename_i g y ys pos hxx
    have ee := xCall_eq hxx
    subst ee
    split at hc
    rotate_left
    · cases hc
    rename_i x hx
    obtain ⟨px, rfl⟩ := xName_eq hx
    simp only [Bool.and_eq_true, beq_iff_eq] at hc
    obtain ⟨⟨hg, hf⟩, ha⟩ := hc
    intro s ρ R
    refine PyProof.Rows.Call_Name rfl (load_fn cx R hf (glName_ok hg).1 (glName_ok hg).2 fun a hfa => ?_)
    have hs : okX y = true := by
      cases args with
      | nil => simp [chkEs] at ha
      | cons => simp only [chkEs, Bool.and_eq_true] at ha; exact ha.1.1
    have ha' := svEs G cx iargs (y :: ys) ha _ m h pos
    rw [okX_star hs] at ha' ⊢
    obtain ⟨o, fd, ho, hd⟩ := G.fns f a hfa
    refine Calls.callWith_function (o := o) (fd := fd) (Calls.evalArgs_plain (ha'.go R (.refl _ _ _) fun ρ₁ s₁ m₁ xs vs st t1 R₁ rl el h₁ => ⟨⟨R₁.hp.base _ _ ho, hd⟩, ?_⟩))
    refine wpAny_mono (h₁ F m₁ s₁ ρ₁ vs a cx.fm rfl R₁ rl cx.room cx.units hfa) (fun v s₂ hv => ?_) (Er.back t1)
    obtain ⟨ρ₂, m₂, x, st2, R₂, rx, e, hq⟩ := hv
    refine ⟨ρ₂, m₂, x, t1.trans st2, R₂, rx, ?_⟩
    rw [← e] at hq; exact hq
  · cases hc

theorem strs_rep {ρ : List Addr} {h : Heap} : ∀ {ss : List (List Nat)} {items : List Value}, RepL C ρ h (ss.map .str) items → StrsAre items (ss.map (fun x => (⟨x.toArray⟩ : Str))) ∧ ∀ x ∈ ss, x.length ≤ line
  | [], _, .nil => ⟨.nil, fun x hx => by cases hx⟩
  | s :: ss, _, .cons a b => by
    obtain ⟨h1, h2⟩ := strs_rep b
    cases a with
    | str _ t z =>
      refine ⟨.cons _ t h1, fun x hx => ?_⟩
      rcases List.mem_cons.mp hx with rfl | hx
      · exact z
      · exact h2 x hx
theorem rep_strs {ρ : List Addr} {h : Heap} : ∀ {items : List Value} {ss : List Str}, StrsAre items ss → (∀ x ∈ ss, x.cps.toList.length ≤ line) → RepL C ρ h ((ss.map (fun x => x.cps.toList)).map .str) items
  | _, _, .nil, _ => .nil
  | _, _, .cons x t r, hz => by
    refine .cons ?_ (rep_strs r fun y hy => hz y (List.mem_cons_of_mem _ hy))
    have : (x : Str) = str x.cps.toList := by obtain ⟨⟨a⟩⟩ := x; rfl
    conv => rhs; rw [this]
    exact .str _ t (hz x (List.mem_cons_self ..))

/-- sorted(set(..)) of a list of texts -/
theorem ss_ok (G : GOk C) (cx : CxOk C c F n) {args : List ME} (iargs : ∀ a ∈ args, SV C X n c F a) {e z : Expr} (hz : xSS c e = some z) (hc : chkEs c args [z] = true) {Q : PQ} {m : MS} (h : wpEs (Call C) n args (fun vs m => wpBlt .sortedSet vs Q m) X m) : WPv C F X (eval e F.env) Q m := by
  unfold xSS at hz
  split at hz
  rotate_left
  · cases hz
  rename_i g y pos hxx
  have ee := xCall_eq hxx
  subst ee
  split at hz
  rotate_left
  · cases hz
  rename_i x g' z' pos' hx hy
  obtain ⟨px, rfl⟩ := xName_eq hx
  have ee := xCall_eq hy
  subst ee
  split at hz
  rotate_left
  · cases hz
  rename_i x' hx'
  obtain ⟨px', rfl⟩ := xName_eq hx'
  split at hz
  rotate_left
  · cases hz
  rename_i hg
  cases hz
  simp only [Bool.and_eq_true, beq_iff_eq] at hg
  obtain ⟨⟨⟨hg, rfl⟩, hg'⟩, rfl⟩ := hg
  obtain ⟨a, rfl, hz, ha⟩ := one_of hc
  intro s ρ R
  refine PyProof.Rows.Call_Name rfl (load_blt cx R (v := .builtin "sorted") (at_mem 10 rfl) (glName_ok hg).1 (glName_ok hg).2 ?_)
  refine call_args (.inl ⟨_, rfl⟩) (by rw [okX_star (by rfl)]; rfl) (by rw [okX_star (by rfl)]; simp [backTo]) ?_
  rw [okX_star (by rfl)]
  refine Calls.spliced_cons (PyProof.Rows.Call_Name rfl (load_blt cx R (v := .type "set") (at_mem 11 rfl) (glName_ok hg').1 (glName_ok hg').2 ?_))
  refine call_args (.inr ⟨_, rfl⟩) (by rw [okX_star hz]; rfl) (by rw [okX_star hz]; simp [backTo]) ?_
  rw [okX_star hz]
  unfold wpEs at h
  refine Calls.spliced_cons ((iargs a (by simp) z ha _ m h).go R (.refl _ _ _) fun ρ₁ s₁ m₁ x v st t1 R₁ rx h₁ => Calls.spliced_nil ?_)
  unfold wpEs at h₁
  simp only [wpBlt, wpBlt1] at h₁
  cases rx with
  | @ref r la g =>
    simp only at h₁
    split at h₁
    · rename_i xs hi
      obtain ⟨ss, rfl, h64, h4000, hq⟩ := h₁
      obtain ⟨items, n', gi, rl, zz⟩ := R₁.hp.objs _ _ _ hi g
      obtain ⟨hst, hll⟩ := strs_rep rl
      have hil : items.length < 4000 := by rw [rl.length]; simpa using h4000
      refine call_set_S cx.fm.hn (items := items.toArray) ⟨_, gi, rfl, _, rfl⟩ hst (by rw [List.size_toArray]; unfold scanBound; omega) fun h' tk hS hk => ?_
      obtain ⟨R₂, st₂⟩ := R₁.grow (s' := { s₁ with heap := h', toks := tk }) cx.fm hk rfl rfl
      refine Calls.spliced_nil (sorted_S cx.fm.hn (s := { s₁ with heap := h', toks := tk }) hS (by rw [sset_len]; exact h64) fun a s' out ss' e hsm ha hout hst' hperm hsrt => ?_)
      have hset := sset_is hperm hsrt
      obtain ⟨R₃, st₃⟩ := R₂.alloc (s' := s') cx.fm hsm.heap hsm.gens hsm.os (o := .list ((sset ss).map .str)) (a := a) ha
        ⟨out.toList, e, hout, by
          rw [← hset]
          refine rep_strs hst' fun y hy => ?_
          have : y ∈ addAll (ss.map (fun x => (⟨x.toArray⟩ : Str))) := hperm.mem_iff.mp hy
          obtain ⟨w, hw, rfl⟩ := List.mem_map.mp (addAll_mem.mp this)
          simpa using hll w hw, by rw [List.length_map]; unfold line; omega⟩
      exact ⟨_, _, _, (t1.trans st₂).trans st₃, R₃, .ref (i := m₁.heap.length) (by rw [← R₂.hp.len, List.getElem?_append_right (Nat.le_refl _)]; simp), hq⟩
    · exact h₁.elim
  | _ => exact h₁.elim

theorem sv_blt (G : GOk C) (cx : CxOk C c F n) {b : Bi} {args : List ME} (iargs : ∀ a ∈ args, SV C X n c F a) : SV C X n c F (.blt b args) := by
  intro e hc Q m h
  unfold wpE at h
  unfold chkE at hc
  split at hc
  · rename_i hb
    have hb : b = .sortedSet := by cases b <;> first | rfl | cases hb
    subst hb
    split at hc
    · rename_i z hz; exact ss_ok G cx iargs hz hc h
    · cases hc
  split at hc
  · rename_i g y ys pos hxx
    have ee := xCall_eq hxx
    subst ee
    split at hc
    rotate_left
    · cases hc
    rename_i x hx
    obtain ⟨px, rfl⟩ := xName_eq hx
    simp only [Bool.and_eq_true] at hc
    obtain ⟨⟨hg, hf⟩, ha⟩ := hc
    split at hf
    · rename_i z f hb
      simp at hf
      subst hf
      intro s ρ R
      refine PyProof.Rows.Call_Name rfl (load_blt cx R (bi_mem hb) (glName_ok hg).1 (glName_ok hg).2 ?_)
      have hs : okX y = true := by
        cases args with
        | nil => simp [chkEs] at ha
        | cons => simp only [chkEs, Bool.and_eq_true] at ha; exact ha.1.1
      refine call_args (bi_fun hb) (trees_plain ha _ _) (by rw [okX_star hs]; simp [backTo]) ?_
      refine (svEs G cx iargs (y :: ys) ha _ m h pos).go R (.refl _ _ _) fun ρ₁ s₁ m₁ xs vs st t1 R₁ rl el h₁ => ?_
      exact wpAny_mono (blt_ok G R₁ cx.fm rl hb h₁) (Out.back t1) fun _ _ x => x
    · cases hf
  · cases hc

theorem sv_mth (G : GOk C) (cx : CxOk C c F n) {k : Me} {o : ME} {args : List ME} (io : SV C X n c F o) (iargs : ∀ a ∈ args, SV C X n c F a) : SV C X n c F (.mth k o args) := by
  intro e hc Q m h
  unfold wpE at h
  unfold chkE at hc
  split at hc
  · rename_i g y ys pos hxx
    have ee := xCall_eq hxx
    subst ee
    split at hc
    rotate_left
    · cases hc
    rename_i ov name apos hx
    have ee := xAttr_eq hx
    subst ee
    simp only [Bool.and_eq_true, beq_iff_eq, decide_eq_true_eq] at hc
    obtain ⟨⟨⟨⟨⟨hn, h0⟩, hl⟩, hz⟩, ho⟩, ha⟩ := hc
    intro s ρ R
    have hs : okX y = true := by
      cases args with
      | nil => simp [chkEs] at ha
      | cons => simp only [chkEs, Bool.and_eq_true] at ha; exact ha.1.1
    have hp := trees_plain ha pos F.env
    refine wpAny_Call_method_late (notCall0_base h0 _ _) ?_ (by simp [hl]) rfl ((io ov ho _ m h).go R (.refl _ _ _) fun ρ₁ s₁ m₁ x v st t1 R₁ rx h₁ => ?_)
    · rw [Bool.and_eq_true, Bool.and_eq_true]
      refine ⟨⟨?_, rfl⟩, ?_⟩
      · rw [List.all_eq_true]; intro q hq
        rw [List.any_eq_false] at hp
        simpa using hp q hq
      · simp; omega
    · split at h₁
      · rename_i hm
        refine mth_ok G cx.fm hn t1 R₁ rx hm hp (by rw [okX_star hs]; simp [backTo]) ?_
        exact (svEs G cx iargs (y :: ys) ha _ m₁ h₁ pos).go R₁ t1 fun ρ₂ s₂ m₂ xs vs st2 t2 R₂ rl _ h₂ => ⟨ρ₂, m₂, xs, st2, R₂, rl, h₂⟩
      · exact h₁.elim
  · cases hc

theorem sv_idx (G : GOk C) (cx : CxOk C c F n) {o : ME} {i : ME} (io : SV C X n c F o) (ii : SV C X n c F i) : SV C X n c F (.idx o i) := by
  intro e hc Q m h
  unfold wpE at h
  unfold chkE at hc
  split at hc
  · rename_i v sl hxx
    obtain ⟨p, rfl⟩ := xSub_eq hxx
    simp only [Bool.and_eq_true] at hc
    obtain ⟨⟨hx, ho⟩, hi⟩ := hc
    intro s ρ R
    refine PyProof.Rows.Subscript_ ((io v ho _ m h).go R (.refl _ _ _) fun ρ₁ s₁ m₁ x v st t1 R₁ rx h₁ => ?_)
    refine (ii sl hi _ m₁ h₁).go R₁ t1 fun ρ₂ s₂ m₂ y w st' t2 R₂ ry h₂ => ?_
    exact wpAny_mono (idx_ok G R₂ cx.fm (rx.step st') ry hx h₂) (Out.back t2) fun _ _ x => x
  · cases hc

theorem sv_sl (G : GOk C) (cx : CxOk C c F n) {o : ME} {lo : Option ME} {hi : Option ME} (io : SV C X n c F o) (ilo : ∀ a, lo = some a → SV C X n c F a) (ihi : ∀ a, hi = some a → SV C X n c F a) : SV C X n c F (.sl o lo hi) := by
  intro e hc Q m h
  unfold wpE at h
  unfold chkE at hc
  split at hc
  · rename_i v sl hxx
    obtain ⟨p2, rfl⟩ := xSub_eq hxx
    split at hc
    rotate_left
    · cases hc
    rename_i l u hx
    obtain ⟨p1, rfl⟩ := xSlice_eq hx
    simp only [Bool.and_eq_true] at hc
    obtain ⟨⟨ho, hlo⟩, hhi⟩ := hc
    intro s ρ R
    refine PyProof.Rows.Subscript_ ((io v ho _ m h).go R (.refl _ _ _) fun ρ₁ s₁ m₁ x v st t1 R₁ rx h₁ => ?_)
    refine wpAny_Slice ?_
    refine (svO G cx ilo l hlo _ m₁ h₁) s₁ ρ₁ R₁ _ _ _ t1 fun ρ₂ s₂ m₂ a va st2 t2 R₂ ra h₂ => ?_
    refine (svO G cx ihi u hhi _ m₂ h₂) s₂ ρ₂ R₂ _ _ _ t2 fun ρ₃ s₃ m₃ b vb st3 t3 R₃ rb h₃ => ?_
    rw [evalPart_none]
    refine wpAny_pure ?_
    have ra' : PartRep C ρ₃ s₃.heap a va := by
      cases a with
      | none => exact ra
      | some a => exact ra.step st3
    exact wpAny_mono (sl_ok R₃ cx.fm ((rx.step st2).step st3) ra' rb h₃) (Out.back t3) fun _ _ x => x
  · cases hc

theorem sv_list (G : GOk C) (cx : CxOk C c F n) {es : List ME} (ies : ∀ a ∈ es, SV C X n c F a) : SV C X n c F (.list es) := by
  intro e hc Q m h
  unfold wpE at h
  unfold chkE at hc
  split at hc
  · rename_i xs hxx
    obtain ⟨p, rfl⟩ := xList_eq hxx
    simp only [Bool.and_eq_true, decide_eq_true_eq] at hc
    intro s ρ R
    refine wpAny_List ((svEs G cx ies xs hc.2 _ m h _).go R (.refl _ _ _) fun ρ₁ s₁ m₁ xs vs st t1 R₁ rl el h₁ => ?_)
    have hz : xs.length ≤ line := by unfold line; omega
    exact ⟨by rw [rl.length]; exact hz, Out.back t1 _ _ (outList R₁ cx.fm rl hz h₁)⟩
  · cases hc

theorem sv_tup (G : GOk C) (cx : CxOk C c F n) {es : List ME} (ies : ∀ a ∈ es, SV C X n c F a) : SV C X n c F (.tup es) := by
  intro e hc Q m h
  unfold wpE at h
  unfold chkE at hc
  split at hc
  · rename_i xs hxx
    obtain ⟨k, p, rfl⟩ := xTup_eq hxx
    simp only [Bool.and_eq_true, decide_eq_true_eq] at hc
    intro s ρ R
    refine wpAny_Tuple ((svEs G cx ies xs hc.2 _ m h _).go R (.refl _ _ _) fun ρ₁ s₁ m₁ xs vs st t1 R₁ rl el h₁ => ?_)
    have hz : xs.length ≤ line := by unfold line; omega
    exact ⟨by rw [rl.length]; exact hz, Out.back t1 _ _ (outTup R₁ cx.fm rl hz h₁)⟩
  · cases hc

theorem sv_dict0 (G : GOk C) (cx : CxOk C c F n)   : SV C X n c F (.dict0) := by
  intro e hc Q m h
  unfold wpE at h
  unfold chkE at hc
  split at hc
  · rename_i hxx
    obtain ⟨p, rfl⟩ := xDict_eq hxx
    intro s ρ R
    refine wpAny_Dict_empty ?_
    have hk : ∀ a o, s.heap.get? a = some o → (s.heap.push { cls := .type "dict", data := .dict #[] }).get? a = some o := fun a o e => Heap.get?_push_of_some _ e
    obtain ⟨R', st⟩ := R.alloc (s' := { s with heap := s.heap.push { cls := .type "dict", data := .dict #[] } }) cx.fm hk rfl rfl (o := .dict []) (a := s.heap.objs.size) (fresh_at (Nat.le_refl _))
      ⟨[], Heap.DictOf.new _, .nil, Nat.zero_le _⟩
    exact ⟨_, _, _, st, R', .ref (i := m.heap.length) (by rw [← R.hp.len, List.getElem?_append_right (Nat.le_refl _)]; simp), h⟩
  · cases hc

theorem sv_isi (G : GOk C) (cx : CxOk C c F n) {a : ME} {ts : List TS} (ia : SV C X n c F a) : SV C X n c F (.isi a ts) := by
  intro e hc Q m h
  unfold wpE at h
  unfold chkE at hc
  split at hc
  · rename_i g v t pos hxx
    have ee := xCall_eq hxx
    subst ee
    split at hc
    rotate_left
    · cases hc
    rename_i x hx
    obtain ⟨px, rfl⟩ := xName_eq hx
    simp only [Bool.and_eq_true, beq_iff_eq] at hc
    obtain ⟨⟨⟨⟨hg, rfl⟩, hv⟩, ha⟩, ht⟩ := hc
    split at ht
    · rename_i t'
      unfold tyName at ht
      split at ht
      · rename_i y T hy eT
        obtain ⟨py, rfl⟩ := xName_eq hy
        simp only [Bool.and_eq_true, beq_iff_eq, Bool.not_eq_true'] at ht
        obtain ⟨⟨rfl, hk⟩, hd⟩ := ht
        intro s ρ R
        refine PyProof.Rows.Call_Name rfl (load_blt cx R (v := .builtin "isinstance") (at_mem 7 rfl) (glName_ok hg).1 (glName_ok hg).2 ?_)
        refine call_args (.inl ⟨_, rfl⟩) (by rw [okX_star hv]; rfl) (by rw [okX_star hv]; simp [backTo]) ?_
        rw [okX_star hv]
        refine Calls.spliced_cons ((ia v ha _ m h).go R (.refl _ _ _) fun ρ₁ s₁ m₁ x v st t1 R₁ rx h₁ => ?_)
        refine Calls.spliced_cons (load_blt cx R₁ (ts_mem eT) hk hd (Calls.spliced_nil ?_))
        simp only at h₁
        split at h₁
        · rename_i b hb
          refine wpAny_mono (isi_ok (P := fun b => Q (.bool b) m₁) R₁.hp rx hb h₁ T eT) (fun v s' hv => ?_) fun _ _ x => x
          obtain ⟨b, rfl, m', st3, R', hq⟩ := outOfB (P := fun b m => Q (.bool b) m) R₁ cx.fm hv
          exact Out.back t1 _ _ ⟨_, _, _, st3, R', .bool b, hq⟩
        · exact h₁.elim
      · cases ht
    · cases ht
  · cases hc
end
end Mine
end
section
set_option autoImplicit false
set_option linter.unusedVariables false
namespace Mine
open PySem PyProof.Rows

noncomputable def plainV : V → Bool
  | .un o _ _ => o != .Not
  | .bool .. => false
  | .cmp .. => false
  | .slice .. => false
  | .other => false
  | _ => true
noncomputable def plainT (e : Expr) : Bool := plainV (view e)
theorem plainT_isTrue {e : Expr} (h : plainT e = true) (env : Env) (whole : Sem Value) : isTrue e env whole = (do let v ← whole; standAt e.pos; holding [v] (truthy v)) := by
  have t := view_eq e
  unfold plainT at h
  generalize view e = v at t h
  cases v with
  | const => obtain rfl : e = _ := t; rfl
  | name => obtain rfl : e = _ := t; rfl
  | bin => obtain rfl : e = _ := t; rfl
  | un o => obtain rfl : e = _ := t; cases o <;> first | rfl | cases h
  | bool => cases h
  | cmp => cases h
  | call => obtain rfl : e = _ := t; rfl
  | attr => obtain rfl : e = _ := t; rfl
  | sub => obtain rfl : e = _ := t; rfl
  | slice => cases h
  | list => obtain rfl : e = _ := t; rfl
  | tup => obtain rfl : e = _ := t; rfl
  | dict => obtain rfl : e = _ := t; rfl
  | lc => obtain rfl : e = _ := t; rfl
  | other => cases h
/-- a test is what its tree does -/
noncomputable def ST (C : Glo) (X : XM) (n : Nat) (c : Cx) (F : Fm) (me : ME) : Prop :=
  ∀ (e : Expr), chkE c me e = true → ∀ (Q : Bool → MS → Prop) (m : MS), wpE (Call C) n me (ofBool Q) X m → WPt C F X (isTrue e F.env (eval e F.env)) Q m

section
variable {C : Glo} {F : Fm} {X : XM} {c : Cx} {n : Nat}

theorem st_plain (G : GOk C) (cx : CxOk C c F n) {me : ME} (ia : SV C X n c F me) (hpl : ∀ e, chkE c me e = true → plainT e = true) : ST C X n c F me := by
  intro e hc Q m h s ρ R
  refine wpAny_isTrue_value ((ia e hc _ m h).go R (.refl _ _ _) fun ρ₁ s₁ m₁ x v st t1 R₁ rx h₁ => ?_) (plainT_isTrue (hpl e hc) _ _)
  unfold ofBool at h₁
  split at h₁
  · cases rx; exact wpAny_truthy_bool ⟨_, _, t1, R₁, h₁⟩
  · exact h₁.elim
theorem stAnd (G : GOk C) (cx : CxOk C c F n) : ∀ {es : List ME}, (∀ a ∈ es, ST C X n c F a) → ∀ (xs : List Expr), chkEs c es xs = true → ∀ (Q : Bool → MS → Prop) (m : MS), wpAnd (Call C) n es (ofBool Q) X m → WPt C F X (allTrue .And xs F.env) Q m
  | [], ih, xs, hc, Q, m, h => by unfold wpAnd at h; exact h.elim
  | [e], ih, xs, hc, Q, m, h => by
    unfold wpAnd at h
    unfold chkEs at hc
    split at hc
    · cases hc
    · rename_i x xs
      simp only [chkEs, Bool.and_eq_true] at hc
      cases xs with
      | nil =>
        intro s ρ R
        refine wpAny_allTrue_And_cons ((ih e (by simp) x hc.1.2 _ m h).go R (.refl _ _ _) fun ρ₁ s₁ m₁ b st t1 R₁ h₁ => ?_)
        cases b with
        | true => exact wpAny_allTrue_And_nil ⟨_, _, t1, R₁, h₁⟩
        | false => exact ⟨_, _, t1, R₁, h₁⟩
      | cons => cases hc.2
  | e :: e' :: es, ih, xs, hc, Q, m, h => by
    unfold wpAnd at h
    unfold chkEs at hc
    split at hc
    · cases hc
    · rename_i x xs
      rw [Bool.and_eq_true, Bool.and_eq_true] at hc
      intro s ρ R
      refine wpAny_allTrue_And_cons ((ih e (by simp) x hc.1.2 _ m h).go R (.refl _ _ _) fun ρ₁ s₁ m₁ b st t1 R₁ h₁ => ?_)
      cases b with
      | true => exact wpAny_mono (stAnd G cx (fun a ha => ih a (List.mem_cons_of_mem _ ha)) xs hc.2 Q m₁ h₁ s₁ ρ₁ R₁) (fun b s' ⟨ρ', m', a, b', c'⟩ => ⟨ρ', m', t1.trans a, b', c'⟩) (Er.back t1)
      | false => exact ⟨_, _, t1, R₁, h₁⟩

theorem stOr (G : GOk C) (cx : CxOk C c F n) : ∀ {es : List ME}, (∀ a ∈ es, ST C X n c F a) → ∀ (xs : List Expr), chkEs c es xs = true → ∀ (Q : Bool → MS → Prop) (m : MS), wpOr (Call C) n es (ofBool Q) X m → WPt C F X (allTrue .Or xs F.env) Q m
  | [], ih, xs, hc, Q, m, h => by unfold wpOr at h; exact h.elim
  | [e], ih, xs, hc, Q, m, h => by
    unfold wpOr at h
    unfold chkEs at hc
    split at hc
    · cases hc
    · rename_i x xs
      simp only [chkEs, Bool.and_eq_true] at hc
      cases xs with
      | nil =>
        intro s ρ R
        refine wpAny_allTrue_Or_cons ((ih e (by simp) x hc.1.2 _ m h).go R (.refl _ _ _) fun ρ₁ s₁ m₁ b st t1 R₁ h₁ => ?_)
        cases b with
        | true => exact ⟨_, _, t1, R₁, h₁⟩
        | false => exact wpAny_allTrue_Or_nil ⟨_, _, t1, R₁, h₁⟩
      | cons => cases hc.2
  | e :: e' :: es, ih, xs, hc, Q, m, h => by
    unfold wpOr at h
    unfold chkEs at hc
    split at hc
    · cases hc
    · rename_i x xs
      rw [Bool.and_eq_true, Bool.and_eq_true] at hc
      intro s ρ R
      refine wpAny_allTrue_Or_cons ((ih e (by simp) x hc.1.2 _ m h).go R (.refl _ _ _) fun ρ₁ s₁ m₁ b st t1 R₁ h₁ => ?_)
      cases b with
      | false => exact wpAny_mono (stOr G cx (fun a ha => ih a (List.mem_cons_of_mem _ ha)) xs hc.2 Q m₁ h₁ s₁ ρ₁ R₁) (fun b s' ⟨ρ', m', a, b', c'⟩ => ⟨ρ', m', t1.trans a, b', c'⟩) (Er.back t1)
      | true => exact ⟨_, _, t1, R₁, h₁⟩

theorem st_not (G : GOk C) (cx : CxOk C c F n) {a : ME} (ia : ST C X n c F a) : ST C X n c F (.not a) := by
  intro e hc Q m h
  unfold wpE at h
  unfold chkE at hc
  split at hc
  · rename_i o x hx
    obtain ⟨p, rfl⟩ := xUn_eq hx
    simp only [Bool.and_eq_true, beq_iff_eq] at hc
    obtain ⟨rfl, hc⟩ := hc
    intro s ρ R
    refine wpAny_isTrue_Not ((ia _ hc _ m h).go R (.refl _ _ _) fun ρ₁ s₁ m₁ b st t1 R₁ h₁ => ⟨_, _, t1, R₁, h₁⟩)
  · cases hc

theorem st_and (G : GOk C) (cx : CxOk C c F n) {es : List ME} (ies : ∀ a ∈ es, ST C X n c F a) : ST C X n c F (.and es) := by
  intro e hc Q m h
  unfold wpE at h
  unfold chkE at hc
  split at hc
  · rename_i o xs hx
    obtain ⟨p, rfl⟩ := xBool_eq hx
    simp only [Bool.and_eq_true, beq_iff_eq] at hc
    obtain ⟨rfl, hc⟩ := hc
    intro s ρ R; exact wpAny_isTrue_BoolOp (stAnd G cx ies _ hc _ m h s ρ R)
  · cases hc

theorem st_or (G : GOk C) (cx : CxOk C c F n) {es : List ME} (ies : ∀ a ∈ es, ST C X n c F a) : ST C X n c F (.or es) := by
  intro e hc Q m h
  unfold wpE at h
  unfold chkE at hc
  split at hc
  · rename_i o xs hx
    obtain ⟨p, rfl⟩ := xBool_eq hx
    simp only [Bool.and_eq_true, beq_iff_eq] at hc
    obtain ⟨rfl, hc⟩ := hc
    intro s ρ R; exact wpAny_isTrue_BoolOp (stOr G cx ies _ hc _ m h s ρ R)
  · cases hc

theorem st_cmp (G : GOk C) (cx : CxOk C c F n) {op : Cmp} {a b : ME} (ia : SV C X n c F a) (ib : SV C X n c F b) : ST C X n c F (.cmp op a b) := by
  intro e hc Q m h
  unfold wpE at h
  unfold chkE at hc
  split at hc
  · rename_i l o r hxx
    obtain ⟨p, rfl⟩ := xCmp_eq hxx
    simp only [Bool.and_eq_true, beq_iff_eq] at hc
    obtain ⟨⟨⟨rfl, hx⟩, ha⟩, hb⟩ := hc
    intro s ρ R
    refine wpAny_isTrue_Compare1 ((ia l ha _ m h).go R (.refl _ _ _) fun ρ₁ s₁ m₁ x v st t1 R₁ rx h₁ => ?_) (okX_marks hx _)
    refine (ib r hb _ m₁ h₁).go R₁ t1 fun ρ₂ s₂ m₂ y w st' t2 R₂ ry h₂ => ?_
    refine wpAny_mono (cmp_ok G R₂.hp (rx.step st') ry cx.u h₂) (fun v s' hv => ?_) fun _ _ x => x
    obtain ⟨b, rfl, m', st3, R', hq⟩ := outOfB R₂ cx.fm hv
    exact wpAny_truthy_bool ⟨_, _, t2.trans st3, R', hq⟩
  · cases hc

theorem st_isN (G : GOk C) (cx : CxOk C c F n) {p : Bool} {a : ME} (ia : SV C X n c F a) : ST C X n c F (.isN p a) := by
  intro e hc Q m h
  unfold wpE at h
  unfold chkE at hc
  split at hc
  · rename_i l o r hxx
    obtain ⟨p2, rfl⟩ := xCmp_eq hxx
    simp only [Bool.and_eq_true, beq_iff_eq] at hc
    obtain ⟨⟨ho, hr⟩, ha⟩ := hc
    obtain ⟨_, _, rfl⟩ := xConst_eq hr
    intro s ρ R
    refine wpAny_isTrue_Compare1 ((ia l ha _ m h).go R (.refl _ _ _) fun ρ₁ s₁ m₁ x v st t1 R₁ rx h₁ => wpAny_Constant_none ?_) rfl
    have h₁ : Q (isNn p x) m₁ := h₁
    rw [isNn_eq rx] at h₁
    cases p with
    | true => subst ho; exact is_none (wpAny_truthy_bool ⟨_, _, t1, R₁, h₁⟩)
    | false => subst ho; exact isNot_none (wpAny_truthy_bool ⟨_, _, t1, R₁, h₁⟩)
  · cases hc

theorem pl_cst {v : MV} : ∀ e, chkE c (.cst v) e = true → plainT e = true := by
  intro e hc
  unfold chkE at hc
  split at hc
  · rename_i hx; obtain ⟨_, _, rfl⟩ := xConst_eq hx; rfl
  · cases hc
theorem pl_var {i : Nat} : ∀ e, chkE c (.var i) e = true → plainT e = true := by
  intro e hc
  unfold chkE at hc
  split at hc
  · rename_i hx; obtain ⟨_, rfl⟩ := xName_eq hx; rfl
  · cases hc
theorem pl_glob {g : Nat} {v : MV} : ∀ e, chkE c (.glob g v) e = true → plainT e = true := by
  intro e hc
  unfold chkE at hc
  split at hc
  · rename_i hx; obtain ⟨_, rfl⟩ := xName_eq hx; rfl
  · cases hc
theorem pl_bin {op : Op} {a b : ME} : ∀ e, chkE c (.bin op a b) e = true → plainT e = true := by
  intro e hc
  unfold chkE at hc
  split at hc
  · rename_i hx; obtain ⟨_, rfl⟩ := xBin_eq hx; rfl
  · cases hc
theorem pl_idx {o i : ME} : ∀ e, chkE c (.idx o i) e = true → plainT e = true := by
  intro e hc
  unfold chkE at hc
  split at hc
  · rename_i hx; obtain ⟨_, rfl⟩ := xSub_eq hx; rfl
  · cases hc
theorem pl_sl {o : ME} {lo hi : Option ME} : ∀ e, chkE c (.sl o lo hi) e = true → plainT e = true := by
  intro e hc
  unfold chkE at hc
  split at hc
  · rename_i hx; obtain ⟨_, rfl⟩ := xSub_eq hx; rfl
  · cases hc
theorem pl_list {es : List ME} : ∀ e, chkE c (.list es) e = true → plainT e = true := by
  intro e hc
  unfold chkE at hc
  split at hc
  · rename_i hx; obtain ⟨_, rfl⟩ := xList_eq hx; rfl
  · cases hc
theorem pl_tup {es : List ME} : ∀ e, chkE c (.tup es) e = true → plainT e = true := by
  intro e hc
  unfold chkE at hc
  split at hc
  · rename_i hx; obtain ⟨_, _, rfl⟩ := xTup_eq hx; rfl
  · cases hc
theorem pl_call {f : Nat} {args : List ME} : ∀ e, chkE c (.call f args) e = true → plainT e = true := by
  intro e hc
  unfold chkE at hc
  split at hc
  · rename_i hx; have ee := xCall_eq hx; subst ee; rfl
  · cases hc
theorem ss_call {e z : Expr} (hz : xSS c e = some z) : ∃ k, xCall e = some k := by
  unfold xSS at hz
  split at hz
  · rename_i hx; exact ⟨_, hx⟩
  · cases hz
theorem pl_blt {b : Bi} {args : List ME} : ∀ e, chkE c (.blt b args) e = true → plainT e = true := by
  intro e hc
  unfold chkE at hc
  split at hc
  · split at hc
    · rename_i hz; obtain ⟨k, hx⟩ := ss_call hz; have ee := xCall_eq hx; subst ee; rfl
    · cases hc
  · split at hc
    · rename_i hx; have ee := xCall_eq hx; subst ee; rfl
    · cases hc
theorem pl_mth {k : Me} {o : ME} {args : List ME} : ∀ e, chkE c (.mth k o args) e = true → plainT e = true := by
  intro e hc
  unfold chkE at hc
  split at hc
  · rename_i hx; have ee := xCall_eq hx; subst ee; rfl
  · cases hc
theorem pl_isi {a : ME} {ts : List TS} : ∀ e, chkE c (.isi a ts) e = true → plainT e = true := by
  intro e hc
  unfold chkE at hc
  split at hc
  · rename_i hx; have ee := xCall_eq hx; subst ee; rfl
  · cases hc
theorem pl_dict0 : ∀ e, chkE c .dict0 e = true → plainT e = true := by
  intro e hc
  unfold chkE at hc
  split at hc
  · rename_i hx; obtain ⟨_, rfl⟩ := xDict_eq hx; rfl
  · cases hc
theorem pl_neg {a : ME} : ∀ e, chkE c (.neg a) e = true → plainT e = true := by
  intro e hc
  unfold chkE at hc
  split at hc
  · rename_i hx
    obtain ⟨p, rfl⟩ := xUn_eq hx
    simp only [Bool.and_eq_true, beq_iff_eq] at hc
    obtain ⟨rfl, _⟩ := hc
    rfl
  · cases hc
theorem pl_comp {elt : ME} {t : List Nat} {many : Bool} {k : IK} {src ifs : List ME} : ∀ e, chkE c (.comp elt t many k src ifs) e = true → plainT e = true := by
  intro e hc
  unfold chkE at hc
  split at hc
  · rename_i hx; obtain ⟨_, rfl⟩ := xLC_eq hx; rfl
  · cases hc
end
end Mine
end
section
set_option autoImplicit false
set_option linter.unusedVariables false
namespace Mine
open PySem PyProof.Rows

section
variable {C : Glo} {F : Fm} {X : XM} {c : Cx} {n : Nat} {ρ ρ' ρ₀ : List Addr} {m : MS} {s s' s₀ : Shared} {A : Around} {E : Value → Shared → Prop}

theorem names_inv {i : Nat} {t : List Nat} {xs : List Expr} (h : chkNames c (i :: t) xs = true) : ∃ x p r, xs = .Name x p :: r ∧ c.nm i = some x ∧ setOk c x = true ∧ chkNames c t r = true := by
  unfold chkNames at h
  split at h
  · cases h
  · rename_i e r
    rw [Bool.and_eq_true] at h
    obtain ⟨h1, h2⟩ := h
    split at h1
    · rename_i x hx
      obtain ⟨p, rfl⟩ := xName_eq hx
      simp only [Bool.and_eq_true, beq_iff_eq] at h1
      exact ⟨x, p, r, rfl, h1.1, h1.2, h2⟩
    · cases h1
theorem names_ok (cx : CxOk C c F n) {Q : MS → Prop} : ∀ (t : List Nat) (elts : List Expr) (xs : List MV) (vs : List Value) (m : MS) (s : Shared), chkNames c t elts = true → t.length = xs.length → RepL C ρ s.heap xs vs → Rel C F ρ m s → Q (setAll t xs m) →
    wpAny (mod C) A (assignInOrder ((assignEach elts F.env).map (·.2)) vs) (fun _ s' => ∃ m', Step F.W ρ s ρ s' ∧ Rel C F ρ m' s' ∧ Q m') E s
  | [], elts, xs, vs, m, s, h, hl, hr, R, hq => by
    cases elts with
    | nil =>
      cases hr with
      | nil => exact wpAny_pure ⟨m, .refl _ _ _, R, hq⟩
      | cons => cases hl
    | cons => cases h
  | i :: t, elts, xs, vs, m, s, h, hl, hr, R, hq => by
    obtain ⟨x, p, r, rfl, h1, h2, h3⟩ := names_inv h
    cases hr with
    | nil => cases hl
    | @cons x' v' xs' vs' ra rl =>
      refine wpAny_bind (wpAny_holding ?_)
      refine PyProof.Rows.assign_Name (store_var cx R h1 (setOk_is h2) ra fun s₁ st R₁ => ?_)
      exact wpAny_mono (names_ok cx t r xs' vs' _ s₁ h3 (Nat.succ.inj hl) (rl.step st) R₁ hq) (fun _ s₂ ⟨m', st2, R₂, q⟩ => ⟨m', st.trans st2, R₂, q⟩) fun _ _ x => x

theorem assignEach_len (env : Env) : ∀ (t : List Nat) (elts : List Expr), chkNames c t elts = true → (assignEach elts env).length = t.length ∧ (assignEach elts env).findIdx? (·.1) = none
  | [], elts, h => by
    cases elts with
    | nil => exact ⟨rfl, rfl⟩
    | cons => cases h
  | i :: t, elts, h => by
    obtain ⟨x, p, r, rfl, _, _, h3⟩ := names_inv h
    obtain ⟨h1, h2⟩ := assignEach_len env t r h3
    refine ⟨congrArg (· + 1) h1, ?_⟩
    show List.findIdx? (·.1) ((false, _) :: assignEach r env) = none
    rw [List.findIdx?_cons, h2]; rfl

theorem assign_ok (cx : CxOk C c F n) {Q : MS → Prop} {t : List Nat} {many : Bool} {e : Expr} (h : chkT c t many e = true) {x : MV} {v : Value} (hr : Rep C ρ s.heap x v) (R : Rel C F ρ m s) (hq : asg t many x Q m) (hA : A.handled = none) :
    wpAny (mod C) A (assign e F.env v) (fun _ s' => ∃ m', Step F.W ρ s ρ s' ∧ Rel C F ρ m' s' ∧ Q m') E s := by
  cases many with
  | false =>
    obtain ⟨i, y, p, rfl, rfl, h1, h2⟩ := chkT_one h
    exact PyProof.Rows.assign_Name (store_var cx R h1 (setOk_is h2) hr fun s₁ st R₁ => ⟨_, st, R₁, hq⟩)
  | true =>
    obtain ⟨elts, k, p, rfl, h⟩ := chkT_many h
    cases x with
    | tup xs =>
      have hq : t.length = xs.length ∧ Q (setAll t xs m) := hq
      cases hr with | @tup a k _ items g rl z =>
      obtain ⟨e1, e2⟩ := assignEach_len F.env _ _ h
      refine wpAny_assign_Tuple hA ⟨_, g, rfl, _, rfl⟩ (by rw [e1, hq.1, List.size_toArray, rl.length]) e2 fun h' he => ?_
      have hk : ∀ b o, s.heap.get? b = some o → h'.get? b = some o := fun b o eb => he b o (fun q => by rw [q, fresh_at (Nat.le_refl _)] at eb; cases eb) eb
      obtain ⟨R', st⟩ := R.grow (s' := { s with heap := h' }) cx.fm hk rfl rfl
      exact wpAny_mono (names_ok cx _ _ _ _ m { s with heap := h' } h hq.1 (rl.step st) R' hq.2) (fun _ s₂ ⟨m', st2, R₂, q⟩ => ⟨m', st.trans st2, R₂, q⟩) fun _ _ x => x
    | _ => exact (show False from hq).elim
theorem Er.no {e : Value} {P : Prop} (h : Er C F X ρ s e s') : P := False.elim h
end
end Mine
end
section
set_option autoImplicit false
set_option linter.unusedVariables false
namespace Mine
open PySem PyProof.Rows

section
variable {W W' S : List Addr} {ρ ρ' ρ₂ : List Addr} {s s' s₂ : Shared}
theorem Step.mono (hW : ∀ a ∈ W, a ∈ W') (x : Step W ρ s ρ' s') : Step W' ρ s ρ' s' :=
  ⟨x.pre, x.new, fun a o e h1 h2 => x.keep a o e h1 fun q => h2 (hW a q), x.solid, x.alive, x.gens, x.os⟩
theorem Step.ofSide (sd : Side S s s') (hS : ∀ a ∈ S, a ∈ W) (h1 : ∀ a ∈ S, Shp s.heap a) (h2 : ∀ a ∈ S, Shp s'.heap a) : Step W ρ s ρ s' :=
  ⟨List.prefix_refl _, fun _ h => .inl h, fun a o e _ h => .inl (sd.1 a o (fun q => h (hS a q)) e), shp_solids h1 sd, fun a o e => by
    by_cases q : a ∈ S
    · obtain ⟨o', e', _⟩ := h2 a q; exact ⟨o', e'⟩
    · exact ⟨o, sd.1 a o q e⟩, sd.2.1, sd.2.2⟩
theorem Step.behind (x : Step W ρ s ρ₂ s₂) (y : Step W' ρ₂ s₂ ρ' s') (h : ∀ a ∈ W', s.heap.get? a = none) : Step W ρ s ρ' s' where
  pre := x.pre.trans y.pre
  new := fun a h => (y.new a h).elim (fun h => x.new a h) fun h => .inr (none_back x h)
  keep := fun a o e h1 h2 => by
    have hw : a ∉ W' := fun q => by rw [h a q] at e; cases e
    have h1' : a ∉ ρ₂ := fun h => (x.new a h).elim h1 fun h => by rw [h] at e; cases e
    rcases x.keep a o e h1 h2 with e1 | ⟨hc, sl, e1⟩
    · exact y.keep a o e1 h1' hw
    · rcases y.keep a _ e1 h1' hw with e2 | ⟨_, sl2, e2⟩
      · exact .inr ⟨hc, sl, e2⟩
      · exact .inr ⟨hc, sl2, e2⟩
  solid := fun a o e h => y.solid a o (x.solid a o e h) h
  alive := fun a o e => let ⟨o', e'⟩ := x.alive a o e; y.alive a o' e'
  gens := y.gens.trans x.gens
  os := y.os.trans x.os
end

/-- a comprehension's frame -/
noncomputable def subFm (F : Fm) (sc : Scope) (cl : List (Str × Addr)) (t : List Nat) (tn : List Str) (L : Addr) : Fm where
  env := compEnvC sc cl L F.env
  A := F.A
  W := [L]
  V := F.W ++ F.V
  lay := fun i => match (t.zip tn).lookup i with
    | some x => some (.nm L x)
    | none => F.lay i
  outer := []

structure CompOk (c : Cx) (sc : Scope) (t : List Nat) (tn : List Str) : Prop where
  kind : sc.kind = .function
  cell : ∀ p ∈ sc.names, p.2 ≠ .cell
  loc : ∀ p ∈ sc.names, p.2 = .local → sc.names.lookup p.1 = some .local
  free : ∀ p ∈ sc.names, p.2 = .free → (∃ i, c.nm i = some p.1) ∧ c.kind p.1 ≠ some .local ∧ cdc p.1 = false
  len : t.length = tn.length
  nodup : t.Nodup
  nodup' : tn.Nodup
  fr : ∀ i ∈ t, c.fr i = true
  tn : ∀ x ∈ tn, sc.names.lookup x = some .local

theorem compOk_is {c : Cx} {sc : Scope} {t : List Nat} {tn : List Str} (h : compOk c sc t tn = true) : CompOk c sc t tn := by
  simp only [compOk, Bool.and_eq_true, beq_iff_eq, decide_eq_true_eq, List.all_eq_true] at h
  obtain ⟨⟨⟨⟨⟨⟨h1, h2⟩, h3⟩, h4⟩, h5⟩, h6⟩, h7⟩ := h
  refine ⟨h1, fun p hp => ?_, fun p hp e => ?_, fun p hp e => ?_, h3, h4, h5, h6, h7⟩
  · have := (h2 p hp).1.1; simpa using this
  · have := (h2 p hp).1.2
    rw [e] at this; simpa using this
  · have := (h2 p hp).2
    rw [e] at this
    simp only [bne_self_eq_false, Bool.false_or, freeOk, Bool.and_eq_true, List.any_eq_true, beq_iff_eq, bne_iff_ne, Bool.not_eq_true'] at this
    obtain ⟨⟨⟨i, _, e1⟩, e2⟩, e3⟩ := this
    exact ⟨⟨i, e1⟩, e2, e3⟩

theorem lk_mem {α β : Type} [BEq α] [LawfulBEq α] : ∀ {l : List (α × β)} {a : α} {b : β}, l.lookup a = some b → (a, b) ∈ l
  | [], _, _, h => by cases h
  | (x, y) :: r, a, b, h => by
    rw [List.lookup_cons] at h
    split at h
    · rename_i q; cases h; have : a = x := by simpa using q
      subst this; exact List.mem_cons_self ..
    · exact List.mem_cons_of_mem _ (lk_mem h)
theorem zip_mem {t : List Nat} {tn : List Str} {i : Nat} {x : Str} (h : (t.zip tn).lookup i = some x) : i ∈ t ∧ x ∈ tn ∧ ∃ k : Nat, t[k]? = some i ∧ tn[k]? = some x := by
  have hm := lk_mem h
  refine ⟨(List.of_mem_zip hm).1, (List.of_mem_zip hm).2, ?_⟩
  obtain ⟨k, hk⟩ := List.getElem?_of_mem hm
  exact ⟨k, (List.getElem?_zip_eq_some.mp hk).1, (List.getElem?_zip_eq_some.mp hk).2⟩
theorem zip_inj {t : List Nat} {tn : List Str} (hn : tn.Nodup) {i j : Nat} {x : Str} (h1 : (t.zip tn).lookup i = some x) (h2 : (t.zip tn).lookup j = some x) : i = j := by
  obtain ⟨_, _, k, a1, a2⟩ := zip_mem h1
  obtain ⟨_, _, l, b1, b2⟩ := zip_mem h2
  have q1 := List.getElem?_eq_some_iff.mp a2
  have q2 := List.getElem?_eq_some_iff.mp b2
  have : k = l := (List.getElem_inj hn).mp (q1.2.trans q2.2.symm)
  subst this
  rw [a1] at b1; cases b1; rfl
theorem zip_some : ∀ {t : List Nat} {tn : List Str}, t.length = tn.length → ∀ {i : Nat}, i ∈ t → ∃ x, (t.zip tn).lookup i = some x
  | [], _, _, _, h => by cases h
  | _ :: _, [], h, _, _ => by cases h
  | a :: t, x :: tn, hl, i, h => by
    simp only [List.zip_cons_cons, List.lookup_cons]
    by_cases e : i = a
    · subst e; exact ⟨x, by simp⟩
    · rcases List.mem_cons.mp h with q | q
      · exact absurd q e
      · obtain ⟨y, hy⟩ := zip_some (by simpa using hl) q
        exact ⟨y, by rw [show (i == a) = false by simpa using e]; exact hy⟩

theorem relab_lookup {kind : Str → Option NameKind} : ∀ {names : List (Str × NameKind)} {x : Str} {k : NameKind}, names.lookup x = some k → (relab kind names).lookup x = some (if (k == .free && kind x == some .cell) then .cell else k)
  | [], _, _, h => by cases h
  | (y, k') :: r, x, k, h => by
    have ih := @relab_lookup kind r x k
    show List.lookup x ((if (k' == .free && kind y == some .cell) then (y, NameKind.cell) else (y, k')) :: relab kind r) = _
    by_cases e : x = y
    · subst e
      simp only [List.lookup_cons, beq_self_eq_true] at h
      obtain rfl : k' = k := Option.some.inj h
      by_cases q : (k' == NameKind.free && kind x == some .cell) = true
      · rw [if_pos q, if_pos q]; simp [List.lookup_cons]
      · rw [if_neg q, if_neg q]; simp [List.lookup_cons]
    · have e' : (x == y) = false := by simpa using e
      simp only [List.lookup_cons, e'] at h
      by_cases q : (k' == NameKind.free && kind y == some .cell) = true
      · rw [if_pos q]; simp only [List.lookup_cons, e']; exact ih h
      · rw [if_neg q]; simp only [List.lookup_cons, e']; exact ih h
theorem relabel_is {env : Env} {kind : Str → Option NameKind} (h : ∀ x, env.kindOf x = kind x) (hk : env.scope.kind = .function) (sc : Scope) : (relabel sc env).names = relab kind sc.names := by
  unfold relabel relab
  simp only [hk, h, beq_self_eq_true, Bool.and_true]

/-- the cells that a comprehension takes along -/
theorem closure_list {env : Env} {f : Str × NameKind → List (Str × Addr) → Sem (ForInStep (List (Str × Addr)))} (h1 : ∀ x a acc, env.cells.lookup x = some a → f (x, .free) acc = pure (.yield ((x, a) :: acc)))
    (h2 : ∀ x k acc, k ≠ .free → f (x, k) acc = pure (.yield acc)) : ∀ (names : List (Str × NameKind)) (acc : List (Str × Addr)), (∀ p ∈ names, p.2 = .free → ∃ a, env.cells.lookup p.1 = some a) → (∀ y b, acc.lookup y = some b → env.cells.lookup y = some b) →
      ∃ cl, forIn names acc f = pure cl ∧ (∀ y b, cl.lookup y = some b → env.cells.lookup y = some b) ∧ (∀ y, (acc.lookup y).isSome → (cl.lookup y).isSome) ∧ ∀ y, (y, NameKind.free) ∈ names → (cl.lookup y).isSome
  | [], acc, _, ha => ⟨acc, rfl, ha, fun _ h => h, fun _ h => by cases h⟩
  | (x, k) :: r, acc, hn, ha => by
    have hr : ∀ p ∈ r, p.2 = .free → ∃ a, env.cells.lookup p.1 = some a := fun p hp => hn p (List.mem_cons_of_mem _ hp)
    by_cases hk : k = .free
    · subst hk
      obtain ⟨a, e⟩ := hn (x, .free) (List.mem_cons_self ..) rfl
      have ha' : ∀ y b, ((x, a) :: acc).lookup y = some b → env.cells.lookup y = some b := fun y b q => by
        simp only [List.lookup_cons] at q
        split at q
        · rename_i q'; cases q; have : y = x := by simpa using q'
          subst this; exact e
        · exact ha y b q
      obtain ⟨cl, c1, c2, c3, c4⟩ := closure_list h1 h2 r ((x, a) :: acc) hr ha'
      have hx : (((x, a) :: acc).lookup x).isSome := by simp [List.lookup_cons]
      refine ⟨cl, ?_, c2, fun y hy => c3 y ?_, fun y hy => ?_⟩
      · rw [List.forIn_cons, h1 x a acc e]; exact c1
      · simp only [List.lookup_cons]; split
        · rfl
        · exact hy
      · rcases List.mem_cons.mp hy with q | q
        · cases q; exact c3 _ hx
        · exact c4 y q
    · obtain ⟨cl, c1, c2, c3, c4⟩ := closure_list h1 h2 r acc hr ha
      refine ⟨cl, ?_, c2, c3, fun y hy => ?_⟩
      · rw [List.forIn_cons, h2 x k acc hk]; exact c1
      · rcases List.mem_cons.mp hy with q | q
        · cases q; exact absurd rfl hk
        · exact c4 y q
theorem closure_ok {env : Env} {sc : Scope} (h : ∀ p ∈ sc.names, p.2 = .free → ∃ a, env.cells.lookup p.1 = some a) : ∃ cl, closureFor sc env = pure cl ∧ ∀ x a, (x, NameKind.free) ∈ sc.names → env.cells.lookup x = some a → cl.lookup x = some a := by
  obtain ⟨cl, c1, c2, _, c4⟩ := closure_list (env := env) (f := fun p cs => if p.2 == .free then do let r ← cellOf env p.1; pure (ForInStep.yield ((p.1, r) :: cs)) else pure (ForInStep.yield cs))
    (fun x a acc e => by simp [cellOf, e]) (fun x k acc hk => by simp [hk]) sc.names [] h (fun y b q => by cases q)
  refine ⟨cl, ?_, fun x a hx e => ?_⟩
  · unfold closureFor
    refine Eq.trans ?_ (congrArg (· >>= pure) c1)
    rfl
  · obtain ⟨b, hb⟩ := Option.isSome_iff_exists.mp (c4 x hx)
    have := c2 x b hb
    rw [e] at this; cases this; exact hb

section
variable {C : Glo} {F : Fm} {X : XM} {c : Cx} {n : Nat} {ρ ρ' ρ₀ : List Addr} {m : MS} {s s' s₀ : Shared} {sc : Scope} {cl : List (Str × Addr)} {t : List Nat} {tn : List Str} {L : Addr}

theorem subFm_ok (cx : CxOk C c F n) (h : CompOk c sc t tn) (hL : L ∉ F.W ++ F.V) : FmOk (subFm F sc cl t tn L) where
  loc := List.mem_singleton.mpr rfl
  lay := fun i l e => by
    simp only [subFm] at e ⊢
    split at e
    · cases e; exact List.mem_append_left _ (List.mem_singleton.mpr rfl)
    · exact List.mem_append_right _ (cx.fm.lay i l e)
  inj := fun i j l e1 e2 => by
    simp only [subFm] at e1 e2
    split at e1
    · rename_i x hx
      cases e1
      split at e2
      · rename_i y hy; cases e2; exact zip_inj h.nodup' hx hy
      · exact absurd (cx.fm.lay j _ e2) hL
    · split at e2
      · rename_i y hy; cases e2; exact absurd (cx.fm.lay i _ e1) hL
      · exact cx.fm.inj i j l e1 e2
  kind := by show (relabel sc F.env).kind = .function; exact h.kind
  hn := cx.fm.hn

theorem free_cell (cx : CxOk C c F n) (h : CompOk c sc t tn) : ∀ p ∈ sc.names, p.2 = .free → ∃ a, F.env.cells.lookup p.1 = some a := fun p hp e => by
  obtain ⟨⟨i, h1⟩, h2, _⟩ := h.free p hp e
  rcases cx.nm i _ h1 with ⟨q, _⟩ | ⟨a, _, q, _⟩
  · rw [cx.kind] at q; exact absurd q h2
  · exact ⟨a, q⟩

theorem subCx_ok (cx : CxOk C c F n) (h : CompOk c sc t tn) (hL : L ∉ F.W ++ F.V) (hcl : ∀ x a, (x, NameKind.free) ∈ sc.names → F.env.cells.lookup x = some a → cl.lookup x = some a) : CxOk C (subCx c sc t tn) (subFm F sc cl t tn L) n where
  fm := subFm_ok cx h hL
  kind := fun x => by
    show (relabel sc F.env).names.lookup x = (relab c.kind sc.names).lookup x
    rw [relabel_is cx.kind cx.fm.kind]
  nm := fun i x e => by
    have hkk : ∀ x, (subFm F sc cl t tn L).env.kindOf x = (relab c.kind sc.names).lookup x := fun x => by
      show (relabel sc F.env).names.lookup x = _
      rw [relabel_is cx.kind cx.fm.kind]
    simp only [subCx] at e
    split at e
    · rename_i y hy
      cases e
      refine .inl ⟨?_, ?_⟩
      · rw [hkk, relab_lookup (h.tn x (zip_mem hy).2.1)]; rfl
      · simp only [subFm, hy]; rfl
    · rename_i hy
      unfold subNm at e
      split at e
      · rename_i y hy'
        split at e
        · rename_i hf
          cases e
          have hf : sc.names.lookup x = some .free := by simpa using hf
          have hm := lk_mem hf
          obtain ⟨_, k2, k3⟩ := h.free _ hm rfl
          rcases cx.nm i x hy' with ⟨q, _⟩ | ⟨a, q1, q2, q3⟩
          · rw [cx.kind] at q; exact absurd q k2
          · refine .inr ⟨a, ?_, hcl x a hm q2, by simp only [subFm, hy]; exact q3⟩
            rw [hkk, relab_lookup hf]
            by_cases e : c.kind x = some .cell
            · exact .inl (by simp [e])
            · exact .inr ⟨by simp [e], k3⟩
        · cases e
      · cases e
  glob := cx.glob
  units := cx.units
  room := cx.room
  inter := by
    show interactive (compEnvC sc cl L F.env) = false
    unfold interactive
    show ((relabel sc F.env).kind == _ && _) = false
    rw [show (relabel sc F.env).kind = ScopeKind.function from h.kind]; rfl
  wr := fun i a _ e => by cases e
  fr := fun i e => by
    simp only [subCx, Bool.and_eq_true, Bool.not_eq_true'] at e
    simp only [subFm]
    split
    · rename_i x hx
      have := (zip_mem hx).1
      have e2 := e.2
      rw [List.contains_eq_mem] at e2
      simp [this] at e2
    · exact cx.fr i e.1

/-- the comprehension's frame is entered -/
theorem subRel (cx : CxOk C c F n) (R : Rel C F ρ m s) (h : CompOk c sc t tn) (hk : ∀ a o, s.heap.get? a = some o → s'.heap.get? a = some o) (hg : s'.gens = s.gens) (hL : s.heap.get? L = none) (hns : ∃ f, s'.heap.Ns L f) : Rel C (subFm F sc cl t tn L) ρ m s' where
  hp := R.hp.up (fun a o e _ => hk a o e) (fun a _ o e => hk a o e) fun b o e => hk b o (R.hp.base b o e)
  ns := hns
  w := fun a ha => by
    have ha : a ∈ [L] ++ (F.W ++ F.V) := ha
    rcases List.mem_append.mp ha with q | q
    · have : a = L := by simpa using q
      subst this
      refine ⟨fun q => ?_, base_fresh R.hp hL, ?_⟩
      · obtain ⟨o, e⟩ := R.hp.there q; rw [hL] at e; cases e
      · obtain ⟨f, o, es, ep, e1, e2, _⟩ := hns
        exact ⟨o, e1, .inl ⟨es, ep, e2⟩⟩
    · obtain ⟨h1, h2, o, h3, h4⟩ := R.w a q
      exact ⟨h1, h2, o, hk a o h3, h4⟩
  vars := fun i v e => by
    obtain ⟨l, h1, h2⟩ := R.vars i v e
    refine ⟨l, ?_, h2.up (fun a o e _ => hk a o e) (List.prefix_refl _) (fun o e => ⟨o, hk _ o e, rfl, rfl⟩)⟩
    simp only [subFm]
    split
    · rename_i x hx
      rw [cx.fr i (h.fr i (zip_mem hx).1)] at h1; cases h1
    · exact h1
  cells := fun i a e => by
    simp only [subFm] at e
    split at e
    · cases e
    · obtain ⟨v, o, h1, h2⟩ := R.cells i a e
      exact ⟨v, o, hk a o h1, h2⟩
  out := fun e he => by cases he
  gens := hg.trans R.gens
end
end Mine
end
section
set_option autoImplicit false
set_option linter.unusedVariables false
namespace Mine
open PySem PyProof.Rows

section
variable {C : Glo} {F : Fm} {X : XM} {c : Cx} {n : Nat} {ρ ρ' ρ₀ : List Addr} {m : MS} {s s' s₀ : Shared} {A : Around}

/-- one turn after the other -/
theorem comp_turns {elt target iter : Expr} {ifs : List Expr} {scope : Scope} {pos : Pos} {it acc : Value} {env : Env} {R : Result → Shared → Prop} (I : Nat → Shared → Prop)
    (turn : ∀ k s, I k s → wpAny (mod C) A (pyNext it) (fun r s₁ => match r with
      | none => R (.ok .next) s₁
      | some v => wpAny (mod C) A (letOwnedTupleGo target it v) (fun _ s₂ => wpAny (mod C) A (assign target env v) (fun _ s₃ =>
          wpAny (mod C) A (forIn ifs true fun c r => if r = true then do let ok ← isTrue c env (eval c env); pure (ForInStep.yield ok) else pure (ForInStep.yield r)) (fun ok s₄ =>
            match ok with
            | true => wpAny (mod C) A (eval elt env) (fun x s₅ => wpAny (mod C) A (call (.builtin "list.append") [acc, x]) (fun _ s₆ => ∃ j, j < k ∧ I j s₆) (fun _ _ => False) s₅) (fun _ _ => False) s₄
            | false => ∃ j, j < k ∧ I j s₄) (fun _ _ => False) s₃) (fun _ _ => False) s₂) (fun _ _ => False) s₁) (fun _ _ => False) s)
    (k : Nat) (h : I k s) : codeAny (mod C) A (.compLoop (.ListComp elt [⟨target, iter, ifs, 0⟩] scope pos) 0 it acc env) R s := by
  refine codeAny_loop rfl I (fun k s hI => ?_) k h
  show wpAny _ A ((compTurn (.ListComp elt [⟨target, iter, ifs, 0⟩] scope pos) 0 it acc env).onRaise (fun x => do noteFrame x env; theTreesLotGoes x)) _ _ s
  refine wpAny_noted ?_
  rw [compTurn_list]
  refine wpAny_bind (wpAny_standAt (wpAny_bind (wpAny_mono (turn k s hI) (fun r s₁ h₁ => ?_) fun _ _ h' => h'.elim)))
  cases r with
  | none => exact wpAny_pure h₁
  | some v =>
    refine wpAny_bind (wpAny_mono h₁ (fun _ s₂ h₂ => wpAny_bind (wpAny_mono h₂ (fun _ s₃ h₃ => wpAny_bind (wpAny_mono h₃ (fun ok s₄ h₄ => ?_) fun _ _ h' => h'.elim)) fun _ _ h' => h'.elim)) fun _ _ h' => h'.elim)
    cases ok with
    | false => exact wpAny_pure ⟨rfl, h₄⟩
    | true => exact wpAny_bind (wpAny_bind (wpAny_mono h₄ (fun x s₅ h₅ => wpAny_bind (wpAny_mono h₅ (fun _ s₆ h₆ => wpAny_pure (wpAny_pure ⟨rfl, h₆⟩)) fun _ _ h' => h'.elim)) fun _ _ h' => h'.elim))

/-- the tests of a comprehension -/
theorem ifs_ok (cx : CxOk C c F n) : ∀ {ifs : List ME}, (∀ a ∈ ifs, ST C X n c F a) → ∀ (xs : List Expr), chkEs c ifs xs = true → ∀ (Q : Bool → MS → Prop) (m : MS), wpIfs (Call C) n ifs Q X m →
    WPt C F X (forIn xs true fun c r => if r = true then do let ok ← isTrue c F.env (eval c F.env); pure (ForInStep.yield ok) else pure (ForInStep.yield r)) Q m
  | [], ih, xs, hc, Q, m, h => by
    unfold chkEs at hc
    cases xs with
    | nil => intro s ρ R; exact wpAny_pure ⟨_, _, .refl _ _ _, R, h⟩
    | cons => cases hc
  | e :: es, ih, xs, hc, Q, m, h => by
    unfold wpIfs at h
    unfold chkEs at hc
    split at hc
    · cases hc
    · rename_i x xs
      simp only [Bool.and_eq_true] at hc
      intro s ρ R
      rw [List.forIn_cons]
      refine wpAny_bind ?_
      show wpAny (mod C) F.A (do let ok ← isTrue x F.env (eval x F.env); pure (ForInStep.yield ok)) _ _ _
      refine wpAny_bind ((ih e (by simp) x hc.1.2 _ m h).go R (.refl _ _ _) fun ρ₁ s₁ m₁ b st t1 R₁ h₁ => wpAny_pure ?_)
      show wpAny (mod C) F.A (forIn xs b fun c r => if r = true then do let ok ← isTrue c F.env (eval c F.env); pure (ForInStep.yield ok) else pure (ForInStep.yield r)) _ _ _
      cases b with
      | true => exact wpAny_mono (ifs_ok cx (fun a ha => ih a (List.mem_cons_of_mem _ ha)) xs hc.2 Q m₁ h₁ s₁ ρ₁ R₁) (fun b s' ⟨ρ', m', a, b', c'⟩ => ⟨ρ', m', t1.trans a, b', c'⟩) (Er.back t1)
      | false =>
        have : ∀ (ys : List Expr) (P : Bool → Shared → Prop) (E : Value → Shared → Prop), P false s₁ → wpAny (mod C) F.A (forIn ys false fun c r => if r = true then do let ok ← isTrue c F.env (eval c F.env); pure (ForInStep.yield ok) else pure (ForInStep.yield r)) P E s₁ := by
          intro ys
          induction ys with
          | nil => intro P E hp; exact wpAny_pure hp
          | cons y ys ihy => intro P E hp; rw [List.forIn_cons]; exact wpAny_bind (wpAny_pure (ihy P E hp))
        exact this xs _ _ ⟨_, _, t1, R₁, h₁⟩
termination_by structural ifs => ifs

/-- the comprehension's frame may go -/
noncomputable def Let (C : Glo) (F : Fm) (L : Addr) (ρ₀ : List Addr) (s₀ : Shared) (ρ : List Addr) (s : Shared) : Prop :=
  ∀ ρ' m' s', Step F.W ρ s ρ' s' → Rel C F ρ' m' s' → (∃ f, s'.heap.Ns L f) ∧ ∀ h', Heap.SameBut L s'.heap h' → Rel C F ρ' m' { s' with heap := h' } ∧ Step F.W ρ₀ s₀ ρ' { s' with heap := h' } ∧ Solids s'.heap h'
theorem let_ok (cx : CxOk C c F n) {L : Addr} (st₀ : Step F.W ρ₀ s₀ ρ s) (R₀ : Rel C F ρ₀ m s₀) (h0 : s₀.heap.get? L = none) (h1 : L ∉ ρ) (h2 : L ∉ F.W ++ F.V) (h3 : ∃ f, s.heap.Ns L f) : Let C F L ρ₀ s₀ ρ s := by
  intro ρ' m' s' st R
  obtain ⟨f, hf⟩ := h3
  obtain ⟨o, es, ep, e1, e2, e3⟩ := id hf
  have hb := base_fresh R₀.hp h0
  have hL : L ∉ ρ' := fun q => (st.new L q).elim h1 fun q => by rw [q] at e1; cases e1
  have hd : ∀ o, s.heap.get? L = some o → ∃ o', s'.heap.get? L = some o' ∧ o'.data = o.data := fun o e => by
    rcases st.keep L o e h1 (fun q => h2 (List.mem_append_left _ q)) with q | ⟨_, sl, q⟩
    · exact ⟨_, q, rfl⟩
    · exact ⟨_, q, rfl⟩
  have hf' : s'.heap.Ns L f := ns_data hf hd
  refine ⟨⟨f, hf'⟩, fun h' hs => ?_⟩
  obtain ⟨o', g1, g2⟩ := hd o e1
  have hw : WOk s'.heap L := ⟨o', g1, .inl ⟨es, ep, g2.trans e2⟩⟩
  have hsol : Solids s'.heap h' := solids_but (fun b ob q e => (hs.2 b q).trans e) (wok_not_solid hw)
  have sd : Side [L] s' { s' with heap := h' } := ⟨fun b ob hb e => (hs.2 b (by simpa using hb)).trans e, rfl, rfl⟩
  refine ⟨R.side0 cx.fm hsol (fun a ha => ?_) (fun e he L' hL' q => ?_) sd, (st₀.trans st).side sd (fun a ha => ?_), hsol⟩
  · have : a = L := by simpa using ha
    subst this; exact ⟨hL, h2, hb⟩
  · have : L' = L := by simpa using q
    subst this
    obtain ⟨_, L2, ob, _, _, k1, _, _, _, k5, _⟩ := R₀.out e he
    rw [hL'] at k1; cases k1
    rw [h0] at k5; cases k5
  · have : a = L := by simpa using ha
    subst this; exact h0
end
end Mine
end
section
set_option autoImplicit false
set_option linter.unusedVariables false
namespace Mine
open PySem PyProof.Rows

section
variable {C : Glo} {F : Fm} {X : XM} {c : Cx} {n : Nat} {ρ ρ' ρ₀ : List Addr} {m : MS} {s s' s₀ : Shared} {A : Around}

/-- a comprehension's loop, within its frame -/
theorem comp_loop {F' : Fm} {c' : Cx} (cx' : CxOk C c' F' n) {L D : Addr} (hW : F'.W = [L]) {target elt' iter : Expr} {ifs' : List Expr} {elt : ME} {ifs : List ME} {t : List Nat} {many : Bool} {sc : Scope} {pos : Pos} {itv : Value} {items : List MV} {g : Option (Nat × List MV)} {S : List Addr} {It : Nat → List Addr → Shared → Prop}
    (wk : Walk C F'.A target itv items g S It) (hlen : items.length ≤ line) (helt : SV C X n c' F' elt) (hce : chkE c' elt elt' = true) (hifs : ∀ a ∈ ifs, ST C X n c' F' a) (hci : chkEs c' ifs ifs' = true) (ht : chkT c' t many target = true)
    {stp : MV → (Option MV → MS → Prop) → MS → Prop} (hstp : ∀ v P m, stp v P m → asg t many v (fun m => wpIfs (Call C) n ifs (fun b m => match b with
        | true => wpE (Call C) n elt (fun x m => P (some x) m) X m
        | false => P none m) X m) m)
    {Q : List MV → MS → Prop} (R : Rel C F' ρ m s) (h0 : It 0 ρ s) (as : Aside C F' ρ s.heap (D :: S)) (hDS : D ∉ S) {k₀ : Nat} (hD : s.heap.get? D = some (listO [] k₀))
    (h : compL g stp Q items [] m)
    {RR : Result → Shared → Prop} (hk : ∀ ρ' m' s₁ s' acc accv k, Step (L :: D :: S) ρ s ρ' s₁ → Side S s₁ s' → Solids s₁.heap s'.heap → Rel C F' ρ' m' s' → s'.heap.get? D = some (listO accv k) → RepL C ρ' s'.heap acc accv → acc.length ≤ line → Q acc m' → RR (.ok .next) s') :
    codeAny (mod C) F'.A (.compLoop (.ListComp elt' [⟨target, iter, ifs', 0⟩] sc pos) 0 itv (.ref D) F'.env) RR s := by
  have hn := cx'.fm.hn
  refine comp_turns (fun k s₁ => ∃ ρ₁ m₁ i acc accv k₁, k = items.length - i ∧ Step (L :: D :: S) ρ s ρ₁ s₁ ∧ Rel C F' ρ₁ m₁ s₁ ∧ It i ρ₁ s₁ ∧ Aside C F' ρ₁ s₁.heap (D :: S) ∧ s₁.heap.get? D = some (listO accv k₁) ∧ RepL C ρ₁ s₁.heap acc accv ∧ (acc.length ≤ i ∧ i ≤ items.length) ∧
    compL g stp Q (items.drop i) acc m₁) (fun k s₁ hI => ?_) _ ⟨ρ, m, 0, [], [], k₀, rfl, .refl _ _ _, R, h0, as, hD, .nil, ⟨Nat.le_refl _, Nat.zero_le _⟩, by simpa using h⟩
  obtain ⟨ρ₁, m₁, i, acc, accv, k₁, rfl, st₁, R₁, hit, as₁, hD₁, rl, ⟨hal, hil⟩, hf⟩ := hI
  have hsub : ∀ a ∈ S, a ∈ L :: D :: S := fun a ha => List.mem_cons_of_mem _ (List.mem_cons_of_mem _ ha)
  have hsubD : ∀ a ∈ [D], a ∈ L :: D :: S := fun a ha => by
    have : a = D := by simpa using ha
    subst this; exact List.mem_cons_of_mem _ (List.mem_cons_self ..)
  have hsubL : ∀ a ∈ F'.W, a ∈ L :: D :: S := fun a ha => by
    rw [hW] at ha
    have : a = L := by simpa using ha
    subst this; exact List.mem_cons_self ..
  have asS : Aside C F' ρ₁ s₁.heap S := fun a ha => as₁ a (List.mem_cons_of_mem _ ha)
  cases e : items[i]? with
  | none =>
    have hd : items.drop i = [] := by rw [List.drop_eq_nil_iff]; exact List.getElem?_eq_none_iff.mp e
    rw [hd, compL_nil] at hf
    obtain ⟨hg, hq⟩ := hf
    refine wpAny_mono (wk.done i ρ₁ m₁.heap s₁ R₁.hp hg hit e (fun _ _ => False) (fun s₂ => Side S s₁ s₂) fun s₂ sd => sd) (fun r s₂ ⟨hr, sd⟩ => ?_) fun _ _ x => x.elim
    subst hr
    have hsol := asS.solids sd
    exact hk ρ₁ m₁ s₁ s₂ acc accv k₁ st₁ sd hsol (R₁.side cx'.fm asS sd) (sd.1 D _ hDS hD₁) (rl.up hsol (List.prefix_refl _)) (Nat.le_trans hal (Nat.le_trans hil hlen)) hq
  | some x =>
    obtain ⟨hlt, hx⟩ := List.getElem?_eq_some_iff.mp e
    rw [List.drop_eq_getElem_cons hlt, hx, compL_cons] at hf
    obtain ⟨hg, hq⟩ := hf
    refine wk.item i ρ₁ m₁.heap s₁ x R₁.hp hg hit e _ _ _ fun v s₂ sd hit' rv => ?_
    have hsol := asS.solids sd
    have R₂ := R₁.side cx'.fm asS sd
    have sh₂ := wk.shape _ _ _ hit'
    have hD₂ := sd.1 D _ hDS hD₁
    have as₂ : Aside C F' ρ₁ s₂.heap (D :: S) := as₁.shape fun a ha => by
      rcases List.mem_cons.mp ha with rfl | ha
      · exact shp_one hD₂ rfl (by decide) (by decide) a (by simp)
      · exact sh₂ a ha
    have rl₂ := rl.up hsol (List.prefix_refl _)
    have st₂ := st₁.trans (Step.ofSide sd hsub (fun a ha => (asS a ha).2.2.2) sh₂)
    refine wpAny_mono (assign_ok cx' ht rv R₂ (hstp _ _ _ hq) hn) (fun _ s₃ h₃ => ?_) fun _ _ x => x
    obtain ⟨m₃, st₃, R₃, hq₃⟩ := h₃
    refine wpAny_mono ((ifs_ok cx' hifs ifs' hci _ m₃ hq₃).go R₃ st₃ fun ρ₄ s₄ m₄ b st₄ t₄ R₄ h₄ => ?_) (fun b s₄ h₄ => h₄) fun _ _ x => Er.no x
    obtain ⟨as₄, kp₄⟩ := as₂.step t₄
    cases b with
    | false => exact ⟨_, by omega, ρ₄, m₄, i + 1, acc, accv, k₁, rfl, st₂.trans (t₄.mono hsubL), R₄, wk.keep _ _ _ _ _ hit' t₄.pre t₄.solid (fun a ha => kp₄ a (List.mem_cons_of_mem _ ha)), as₄, kp₄ D (List.mem_cons_self ..) _ hD₂, rl₂.step t₄, ⟨Nat.le_succ_of_le hal, hlt⟩, h₄⟩
    | true =>
      refine wpAny_mono ((helt elt' hce _ m₄ h₄).go R₄ t₄ fun ρ₅ s₅ m₅ y w st₅ t₅ R₅ ry h₅ => ?_) (fun b s₅ h₅ => h₅) fun _ _ x => Er.no x
      obtain ⟨as₅, kp₅⟩ := as₂.step t₅
      have hD₅ := kp₅ D (List.mem_cons_self ..) _ hD₂
      have rl₅ := rl₂.step t₅
      refine PySem.wpAny_list_append_plain ⟨_, hD₅⟩ (fun h' hl hs => ?_) (by rw [List.size_toArray, rl₅.length]; exact Nat.le_trans hal (Nat.le_trans (Nat.le_of_lt hlt) hlen))
      obtain ⟨k₆, hl⟩ := hl
      have sd₆ : Side [D] s₅ { s₅ with heap := h' } := ⟨fun b ob hb e => (hs.2 b (by simpa using hb)).trans e, rfl, rfl⟩
      have asD : Aside C F' ρ₅ s₅.heap [D] := fun a ha => as₅ a (by
        have : a = D := by simpa using ha
        subst this; exact List.mem_cons_self ..)
      have hsol₆ := asD.solids sd₆
      have hD₆ : h'.get? D = some (listO (accv ++ [w]) k₆) := by rw [hl]; simp
      have shD : ∀ a ∈ [D], Shp h' a := shp_one hD₆ rfl (by decide) (by decide)
      have kS : ∀ a ∈ S, ∀ o, s₅.heap.get? a = some o → h'.get? a = some o := fun a ha o e => sd₆.1 a o (fun q => by
        have : a = D := by simpa using q
        subst this; exact hDS ha) e
      refine ⟨_, by omega, ρ₅, m₅, i + 1, acc ++ [y], accv ++ [w], k₆, rfl, (st₂.trans (t₅.mono hsubL)).trans (Step.ofSide sd₆ hsubD (fun a ha => (asD a ha).2.2.2) shD), R₅.side cx'.fm asD sd₆,
        wk.keep _ _ _ _ _ hit' t₅.pre (fun a o e h => hsol₆ a o (t₅.solid a o e h) h) (fun a ha o e => kS a ha o (kp₅ a (List.mem_cons_of_mem _ ha) o e)), as₅.shape (fun a ha => ?_), hD₆,
        (rl₅.append (.cons ry .nil)).up hsol₆ (List.prefix_refl _), ⟨by rw [List.length_append]; exact Nat.succ_le_succ hal, hlt⟩, h₅⟩
      rcases List.mem_cons.mp ha with rfl | ha
      · exact shD a (by simp)
      · obtain ⟨o, e1, e2⟩ := (as₅ a (List.mem_cons_of_mem _ ha)).2.2.2
        exact ⟨o, kS a ha o e1, e2⟩
end
end Mine
end
section
set_option autoImplicit false
set_option linter.unusedVariables false
namespace Mine
open PySem PyProof.Rows

section
variable {C : Glo} {F : Fm} {X : XM} {c : Cx} {n : Nat} {ρ ρ' ρ₀ : List Addr} {m : MS} {s s' s₀ : Shared} {A : Around}

theorem comp_ok (G : GOk C) (cx : CxOk C c F n) {elt : ME} {t : List Nat} {many : Bool} {k : IK} {src ifs : List ME} {elt' : Expr} {g : Comprehension} {sc : Scope} {pos p' : Pos} {xs : List Expr}
    (hasync : g.is_async = 0) (hx : okX g.iter = true) (hen : isEnum k = true → many = true) (hco : compOk c sc t (tgNames g.target) = true) (hxs : itArgs c k g.iter = some xs) (hcs : chkEs c src xs = true)
    (ht : chkT (subCx c sc t (tgNames g.target)) t many g.target = true) (hci : chkEs (subCx c sc t (tgNames g.target)) ifs g.ifs = true) (hce : chkE (subCx c sc t (tgNames g.target)) elt elt' = true)
    (hsrc : ∀ a ∈ src, SV C X n c F a) (helt : ∀ F', CxOk C (subCx c sc t (tgNames g.target)) F' n → SV C X n (subCx c sc t (tgNames g.target)) F' elt)
    (hifs : ∀ F', CxOk C (subCx c sc t (tgNames g.target)) F' n → ∀ a ∈ ifs, ST C X n (subCx c sc t (tgNames g.target)) F' a)
    {Q : PQ} (h : wpE (Call C) n (.comp elt t many k src ifs) Q X m) (R : Rel C F ρ m s) {use : Option (Value → Sem Unit)} {QQ : Value → Shared → Prop}
    (hk : ∀ D L ρ' m' s' i, Step F.W ρ s ρ' s' → Rel C F ρ' m' s' → Rep C ρ' s'.heap (.ref i) (.ref D) → Q (.ref i) m' → Let C F L ρ s ρ' s' → compPost (mod C) F.A (Er C F X ρ s) use QQ (.ref D) L (.ok .next) s') :
    wpAny (mod C) F.A (comprehension (.ListComp elt' [g] sc pos) sc F.env p' (newList []) false (eval g.iter F.env) use) QQ (Er C F X ρ s) s := by
  obtain ⟨target, iter, ifs', isa⟩ := g
  simp only at *
  subst hasync
  have hCO := compOk_is hco
  obtain ⟨cl, hcl, hcl'⟩ := closure_ok (free_cell cx hCO)
  have htt := chkT_target ht
  unfold wpE at h
  refine wpAny_comprehension_free rfl (okX_folded hx _) hcl hCO.kind hCO.loc (wpAny_mono (soundIt G cx hsrc hxs hcs htt (fun e => by have := hen e; subst this; obtain ⟨a, b, d, e, _⟩ := chkT_many ht; exact ⟨a, b, d, e, trivial⟩)
    (P := fun items g m => compL g (fun v P m => asg t many v (fun m => wpIfs (Call C) n ifs (fun b m => match b with
        | true => wpE (Call C) n elt (fun x m => P (some x) m) X m
        | false => P none m) X m) m) (fun acc m' => Q (.ref m'.heap.length) ⟨m.vars, m'.heap ++ [.list acc]⟩) items [] m) h R) (fun xv s₁ h₁ => wpAny_mono h₁ (fun itv s₂ h₂ => ?_) fun _ _ x => x) fun _ _ x => x)
  obtain ⟨ρ₂, m₂, items, gg, S, It, st₂, R₂, wk, h0, as, hS, hlen, hP⟩ := h₂
  refine wpAny_newObj_type (wpAny_newFunctionEnv hCO.cell (by intro y hy; cases hy) (fun h₁ hns₁ hsb₁ => ?_) hCO.kind)
  dsimp only at hns₁ hsb₁ ⊢
  generalize hH2 : s₂.heap.push { cls := .type "list", dict := none, data := .seq ([] : List Value).toArray } = H2 at hns₁ hsb₁ ⊢
  have hC : H2.objs.size = s₂.heap.objs.size + 1 := by rw [← hH2, Heap.size_push]
  generalize hLL : H2.objs.size = L at hns₁ hsb₁ hC ⊢
  generalize hDD : s₂.heap.objs.size = D at hC ⊢
  have hD0 : s₂.heap.get? D = none := fresh_at (by rw [hDD]; exact Nat.le_refl _)
  have hL0 : s₂.heap.get? L = none := fresh_at (by rw [hDD, hC]; exact Nat.le_succ _)
  have hDL : D ≠ L := by rw [hC]; exact (Nat.succ_ne_self _).symm
  have hk4 : ∀ a o, s₂.heap.get? a = some o → h₁.get? a = some o := fun a o e => by
    have ha : a ≠ L := fun q => by rw [q, hL0] at e; cases e
    exact (hsb₁.2 a ha).trans (Heap.get?_push_of_some _ (hH2 ▸ Heap.get?_push_of_some _ e))
  have hD4 : h₁.get? D = some (listO [] 0) := (hsb₁.2 D hDL).trans (Heap.get?_push_of_some _ (by rw [← hH2, ← hDD]; exact Heap.get?_push_size _ rfl))
  generalize hs4 : ({ s₂ with heap := h₁, toks := s₂.toks + ([] : List (Str × Value)).length } : Shared) = s₄
  have e4 : s₄.heap = h₁ ∧ s₄.gens = s₂.gens ∧ s₄.os = s₂.os := by rw [← hs4]; exact ⟨rfl, rfl, rfl⟩
  rw [← e4.1] at hns₁ hD4 hk4
  have notW : ∀ a, s₂.heap.get? a = none → a ∉ F.W ++ F.V := fun a e q => by
    obtain ⟨_, _, o, e', _⟩ := R₂.w a q; rw [e] at e'; cases e'
  have cx' := subCx_ok (cl := cl) cx hCO (notW L hL0) hcl'
  have R₄ := subRel (cl := cl) (s' := s₄) cx R₂ hCO hk4 e4.2.1 hL0 ⟨_, hns₁⟩
  have hsol4 : Solids s₂.heap s₄.heap := fun a o e _ => hk4 a o e
  have h04 : It 0 ρ₂ s₄ := wk.keep _ _ _ _ _ h0 (List.prefix_refl _) hsol4 fun a _ o e => hk4 a o e
  have hSthere : ∀ a ∈ S, ∃ o, s₂.heap.get? a = some o := fun a ha => by obtain ⟨_, _, _, o, e, _⟩ := as a ha; exact ⟨o, e⟩
  have hDS : D ∉ S := fun q => by obtain ⟨o, e⟩ := hSthere D q; rw [hD0] at e; cases e
  have notρ : ∀ a, s₂.heap.get? a = none → a ∉ ρ₂ := fun a e q => by obtain ⟨o, e'⟩ := R₂.hp.there q; rw [e] at e'; cases e'
  have as4 : Aside C (subFm F sc cl t (tgNames target) L) ρ₂ s₄.heap (D :: S) := fun a ha => by
    rcases List.mem_cons.mp ha with rfl | ha
    · refine ⟨notρ a hD0, fun q => ?_, base_fresh R₂.hp hD0, shp_one hD4 rfl (by decide) (by decide) a (by simp)⟩
      have q : a ∈ [L] ++ (F.W ++ F.V) := q
      rcases List.mem_append.mp q with q | q
      · exact hDL (by simpa using q)
      · exact notW a hD0 q
    · obtain ⟨a1, a2, a3, o, a4, a5⟩ := as a ha
      refine ⟨a1, fun q => ?_, a3, o, hk4 a o a4, a5⟩
      have q : a ∈ [L] ++ (F.W ++ F.V) := q
      rcases List.mem_append.mp q with q | q
      · have : a = L := by simpa using q
        subst this; rw [hL0] at a4; cases a4
      · exact a2 q
  have fin : ∀ ρ' m' s₁' s' acc accv k', Step (L :: D :: S) ρ₂ s₄ ρ' s₁' → Side S s₁' s' → Solids s₁'.heap s'.heap → Rel C (subFm F sc cl t (tgNames target) L) ρ' m' s' → s'.heap.get? D = some (listO accv k') → RepL C ρ' s'.heap acc accv → acc.length ≤ line →
      Q (.ref m'.heap.length) ⟨m₂.vars, m'.heap ++ [.list acc]⟩ → compPost (mod C) F.A (Er C F X ρ s) use QQ (.ref D) L (.ok .next) s' := by
    intro ρ' m' s₁' s' acc accv k' st' sd hsol R' hD' rl hal hq
    have hDρ : D ∉ ρ' := fun q => (st'.new D q).elim (notρ D hD0) fun q => by rw [q] at hD4; cases hD4
    have hLW := R'.w L (List.mem_append_left _ (List.mem_singleton.mpr rfl))
    have hH : Hp C (ρ' ++ [D]) (m'.heap ++ [.list acc]) s'.heap := R'.hp.alloc (fun a o e _ => e) (fun a _ o e => e) R'.hp.base hDρ (base_fresh R₂.hp hD0) ⟨accv, k', hD', rl.up (fun a o e _ => e) (List.prefix_append _ _), hal⟩
    have hkeep : ∀ a o, s₂.heap.get? a = some o → a ∉ ρ₂ → a ∉ S → s'.heap.get? a = some o ∨ (o.cls = .type "frame" ∧ ∃ sl, s'.heap.get? a = some { o with slots := sl }) := fun a o e h1 h2 => by
      have hn : a ∉ L :: D :: S := fun q => by
        rcases List.mem_cons.mp q with rfl | q
        · rw [hL0] at e; cases e
        · rcases List.mem_cons.mp q with rfl | q
          · rw [hD0] at e; cases e
          · exact h2 q
      rcases st'.keep a o (hk4 a o e) h1 hn with q | ⟨q, sl, q'⟩
      · exact .inl (sd.1 a _ h2 q)
      · exact .inr ⟨q, sl, sd.1 a _ h2 q'⟩
    have hKD : ∀ a, a ∉ ρ₂ → a ∉ S → KeepD s₂.heap s'.heap a := fun a h1 h2 o e => by
      rcases hkeep a o e h1 h2 with q | ⟨_, sl, q⟩
      · exact ⟨_, q, rfl, rfl⟩
      · exact ⟨_, q, rfl, rfl⟩
    have hs2 : Solids s₂.heap s'.heap := fun a o e h => hsol a o (st'.solid a o (hk4 a o e) h) h
    have hpre : ρ₂ <+: ρ' ++ [D] := st'.pre.trans (List.prefix_append _ _)
    have hnew : ∀ a ∈ ρ' ++ [D], a ∈ ρ₂ ∨ s₂.heap.get? a = none := fun a ha => by
      rcases List.mem_append.mp ha with q | q
      · exact (st'.new a q).imp id fun q => by
          cases e : s₂.heap.get? a with
          | none => rfl
          | some o => rw [hk4 a o e] at q; cases q
      · have : a = D := by simpa using q
        subst this; exact .inr hD0
    have hgens : s'.gens = s₂.gens := sd.2.1.trans (st'.gens.trans e4.2.1)
    have Rf : Rel C F (ρ' ++ [D]) ⟨m₂.vars, m'.heap ++ [.list acc]⟩ s' := R₂.up cx.fm hs2 hpre hH hnew (fun a ha => hKD a (R₂.w a ha).1 fun q => (as a q).2.1 ha)
      (fun e he L' hL' => by
        obtain ⟨_, L2, o, _, _, k1, _, k3, _, k5, k6, _⟩ := R₂.out e he
        rw [hL'] at k1; cases k1
        refine hKD L' k3 fun q => ?_
        obtain ⟨_, _, _, o2, g1, _, g2⟩ := as L' q
        rw [k5] at g1; cases g1
        exact g2 k6) hgens
    have fr : ∀ a ∈ L :: D :: S, s.heap.get? a = none := fun a ha => by
      rcases List.mem_cons.mp ha with rfl | q
      · exact none_back st₂ hL0
      · rcases List.mem_cons.mp q with rfl | q
        · exact none_back st₂ hD0
        · exact hS a q
    have stf : Step F.W ρ s (ρ' ++ [D]) s' := by
      have g : Step F.W ρ₂ s₂ ρ₂ s₄ := ⟨List.prefix_refl _, fun _ h => .inl h, fun a o e _ _ => .inl (hk4 a o e), hsol4, fun a o e => ⟨o, hk4 a o e⟩, e4.2.1, e4.2.2⟩
      have z := ((st₂.trans g).behind st' fr).side sd fun a ha => hS a ha
      exact ⟨z.pre.trans (List.prefix_append _ _), fun a ha => by
        rcases List.mem_append.mp ha with q | q
        · exact z.new a q
        · have : a = D := by simpa using q
          subst this; exact .inr (none_back st₂ hD0), z.keep, z.solid, z.alive, z.gens, z.os⟩
    refine hk D L (ρ' ++ [D]) _ s' m'.heap.length stf Rf (.ref ?_) hq (let_ok cx stf R (none_back st₂ hL0) (fun q => ?_) (notW L hL0) R'.ns)
    · rw [← R'.hp.len, List.getElem?_append_right (Nat.le_refl _)]; simp
    · rcases List.mem_append.mp q with q | q
      · exact hLW.1 q
      · exact hDL (by simpa using q : L = D).symm
  have loop : codeAny (mod C) F.A (.compLoop (.ListComp elt' [⟨target, iter, ifs', 0⟩] sc pos) 0 itv (.ref D) (compEnvC sc cl L F.env)) (compPost (mod C) F.A (Er C F X ρ s) use QQ (.ref D) L) s₄ :=
    comp_loop cx' rfl wk hlen (helt _ cx') hce (hifs _ cx') hci ht (fun _ _ _ h => h) R₄ h04 as4 hDS hD4 hP fin
  exact codeAny_compStart_list loop (wk.self 0 ρ₂ s₄ h04 _ _ loop)
end
end Mine
end
section
set_option autoImplicit false
set_option linter.unusedVariables false
namespace Mine
open PySem PyProof.Rows

section
variable {C : Glo} {F : Fm} {X : XM} {c : Cx} {n : Nat}

theorem sv_comp (G : GOk C) (cx : CxOk C c F n) {elt : ME} {t : List Nat} {many : Bool} {k : IK} {src ifs : List ME} (hsrc : ∀ a ∈ src, SV C X n c F a) (helt : ∀ c' F', CxOk C c' F' n → SV C X n c' F' elt)
    (hifs : ∀ c' F', CxOk C c' F' n → ∀ a ∈ ifs, ST C X n c' F' a) : SV C X n c F (.comp elt t many k src ifs) := by
  intro e hc Q m h
  unfold chkE at hc
  split at hc
  · rename_i elt' g sc hxx
    obtain ⟨pos, rfl⟩ := xLC_eq hxx
    simp only [Bool.and_eq_true, beq_iff_eq, Bool.or_eq_true, Bool.not_eq_true'] at hc
    obtain ⟨⟨⟨⟨⟨⟨⟨h1, h2⟩, h3⟩, h4⟩, h5⟩, h6⟩, h7⟩, h8⟩ := hc
    split at h5
    · rename_i xs hxs
      intro s ρ R
      have ha : firstAsync [g] = false := by
        obtain ⟨_, _, _, a⟩ := g; simp only at h1; subst h1; rfl
      have hfi : firstIter [g] F.env = eval g.iter F.env := by cases g; rfl
      rw [eval_ListComp, ha, hfi]
      refine comp_ok (use := none) G cx h1 h2 (fun e => h3.resolve_left (by rw [e]; decide)) h4 hxs h5 h6 h7 h8 hsrc (helt _) (hifs _) h R fun D L ρ' m' s' i st R' rx hq hl => ?_
      obtain ⟨⟨f, hf⟩, hs⟩ := hl ρ' m' s' (.refl _ _ _) R'
      refine ⟨f, hf, fun h' hsb => ?_⟩
      obtain ⟨Rf, stf, hsol⟩ := hs h' hsb
      exact ⟨ρ', m', .ref i, stf, Rf, rx.up hsol (List.prefix_refl _), hq⟩
    · cases h5
  · cases hc

theorem sv_no {me : ME} (h : ∀ e, chkE c me e = false) : SV C X n c F me ∧ ST C X n c F me :=
  ⟨fun e hc => by rw [h e] at hc; exact Bool.noConfusion hc, fun e hc => by rw [h e] at hc; exact Bool.noConfusion hc⟩
theorem sv_both (G : GOk C) (cx : CxOk C c F n) {me : ME} (ia : SV C X n c F me) (hpl : ∀ e, chkE c me e = true → plainT e = true) : SV C X n c F me ∧ ST C X n c F me := ⟨ia, st_plain G cx ia hpl⟩

mutual
theorem sE (G : GOk C) : ∀ (me : ME) (c : Cx) (F : Fm), CxOk C c F n → SV C X n c F me ∧ ST C X n c F me
  | .cst v, c, F, cx => sv_both G cx (sv_cst G cx) pl_cst
  | .var i, c, F, cx => sv_both G cx (sv_var G cx) pl_var
  | .glob g v, c, F, cx => sv_both G cx (sv_glob G cx) pl_glob
  | .bin op a b, c, F, cx => sv_both G cx (sv_bin G cx (sE G a c F cx).1 (sE G b c F cx).1) pl_bin
  | .neg a, c, F, cx => sv_both G cx (sv_neg G cx (sE G a c F cx).1) pl_neg
  | .not a, c, F, cx => ⟨sv_not G cx (sE G a c F cx).1, st_not G cx (sE G a c F cx).2⟩
  | .and es, c, F, cx => ⟨sv_and G cx fun a ha => (sEs G es c F cx a ha).1, st_and G cx fun a ha => (sEs G es c F cx a ha).2⟩
  | .or es, c, F, cx => ⟨sv_or G cx fun a ha => (sEs G es c F cx a ha).1, st_or G cx fun a ha => (sEs G es c F cx a ha).2⟩
  | .cmp op a b, c, F, cx => ⟨sv_cmp G cx (sE G a c F cx).1 (sE G b c F cx).1, st_cmp G cx (sE G a c F cx).1 (sE G b c F cx).1⟩
  | .cmp2 _ _ _ _ _, c, F, cx => sv_no fun e => by unfold chkE; rfl
  | .isN p a, c, F, cx => ⟨sv_isN G cx (sE G a c F cx).1, st_isN G cx (sE G a c F cx).1⟩
  | .call f args, c, F, cx => sv_both G cx (sv_call G cx fun a ha => (sEs G args c F cx a ha).1) pl_call
  | .blt b args, c, F, cx => sv_both G cx (sv_blt G cx fun a ha => (sEs G args c F cx a ha).1) pl_blt
  | .mth k o args, c, F, cx => sv_both G cx (sv_mth G cx (sE G o c F cx).1 fun a ha => (sEs G args c F cx a ha).1) pl_mth
  | .umth _ _ _, c, F, cx => sv_no fun e => by unfold chkE; rfl
  | .new _ _ _, c, F, cx => sv_no fun e => by unfold chkE; rfl
  | .attr _ _, c, F, cx => sv_no fun e => by unfold chkE; rfl
  | .idx o i, c, F, cx => sv_both G cx (sv_idx G cx (sE G o c F cx).1 (sE G i c F cx).1) pl_idx
  | .sl o lo hi, c, F, cx => sv_both G cx (sv_sl G cx (sE G o c F cx).1 (sO G lo c F cx) (sO G hi c F cx)) pl_sl
  | .list es, c, F, cx => sv_both G cx (sv_list G cx fun a ha => (sEs G es c F cx a ha).1) pl_list
  | .tup es, c, F, cx => sv_both G cx (sv_tup G cx fun a ha => (sEs G es c F cx a ha).1) pl_tup
  | .dict0, c, F, cx => sv_both G cx (sv_dict0 G cx) pl_dict0
  | .comp elt t many k src ifs, c, F, cx => sv_both G cx (sv_comp G cx (fun a ha => (sEs G src c F cx a ha).1) (fun c' F' cx' => (sE G elt c' F' cx').1) fun c' F' cx' a ha => (sEs G ifs c' F' cx' a ha).2) pl_comp
  | .isi a ts, c, F, cx => sv_both G cx (sv_isi G cx (sE G a c F cx).1) pl_isi
theorem sEs (G : GOk C) : ∀ (es : List ME) (c : Cx) (F : Fm), CxOk C c F n → ∀ a ∈ es, SV C X n c F a ∧ ST C X n c F a
  | [], c, F, cx, a, ha => by cases ha
  | e :: es, c, F, cx, a, ha => (List.mem_cons.mp ha).elim (fun h => h ▸ sE G e c F cx) fun h => sEs G es c F cx a h
theorem sO (G : GOk C) : ∀ (o : Option ME) (c : Cx) (F : Fm), CxOk C c F n → ∀ a, o = some a → SV C X n c F a
  | none, c, F, cx, a, ha => by cases ha
  | some e, c, F, cx, a, ha => (Option.some.inj ha) ▸ (sE G e c F cx).1
end

theorem soundE (G : GOk C) (cx : CxOk C c F n) (me : ME) (e : Expr) (hc : chkE c me e = true) (Q : PQ) (m : MS) (h : wpE (Call C) n me Q X m) : WPv C F X (eval e F.env) Q m := (sE G me c F cx).1 e hc Q m h
theorem soundC (G : GOk C) (cx : CxOk C c F n) (me : ME) (e : Expr) (hc : chkE c me e = true) (Q : Bool → MS → Prop) (m : MS) (h : wpE (Call C) n me (ofBool Q) X m) : WPt C F X (isTrue e F.env (eval e F.env)) Q m := (sE G me c F cx).2 e hc Q m h
end
end Mine
end
section
set_option autoImplicit false
set_option linter.unusedVariables false
namespace Mine
open PySem PyProof.Rows

noncomputable def isTupE (e : Expr) : Bool := (xTup e).isSome
theorem swapped_no {elts : List Expr} {k : Nat} {p : Pos} {v : Expr} (h : isTupE v = false) (h' : okX v = true) (env : Env) : swappedStores [.Tuple elts k p] v env = pure none :=
  okX_cases (P := fun v => isTupE v = false → swappedStores [.Tuple elts k p] v env = pure none) h' (fun _ _ _ _ => rfl) (fun _ _ _ => rfl) (fun _ _ _ _ _ => rfl) (fun _ _ _ _ => rfl) (fun _ _ _ _ => rfl) (fun _ _ _ _ _ => rfl) (fun _ _ _ _ _ => rfl) (fun _ _ _ _ => rfl) (fun _ _ _ _ => rfl) (fun _ _ _ => rfl) (fun _ _ _ h => by cases h) (fun _ _ _ _ => rfl) (fun _ _ _ _ _ => rfl) h
noncomputable def isCompM : ME → Bool
  | .comp .. => true
  | _ => false

/-- the statements that are taken -/
inductive VS where
  | asg (tg v : Expr) (p : Pos) | expr (v : Expr) (p : Pos) | ite (t : Expr) (a b : List Stmt) (p : Pos) | for_ (tg it : Expr) (b : List Stmt) (p : Pos) | while_ (t : Expr) (b : List Stmt) (p : Pos) | ret (v : Expr) (p : Pos) | cont (p : Pos) | other
noncomputable def viewS : Stmt → VS
  | .Assign [tg] v p => .asg tg v p
  | .Expr v p => .expr v p
  | .If t a b p => .ite t a b p
  | .For tg it b [] p => .for_ tg it b p
  | .While t b [] p => .while_ t b p
  | .Return (some v) p => .ret v p
  | .Continue p => .cont p
  | _ => .other
noncomputable def backS (e : Stmt) : VS → Prop
  | .asg tg v p => e = .Assign [tg] v p
  | .expr v p => e = .Expr v p
  | .ite t a b p => e = .If t a b p
  | .for_ tg it b p => e = .For tg it b [] p
  | .while_ t b p => e = .While t b [] p
  | .ret v p => e = .Return (some v) p
  | .cont p => e = .Continue p
  | .other => True
theorem viewS_eq (e : Stmt) : backS e (viewS e) := by
  cases e with
  | Assign ts v p =>
    cases ts with
    | nil => exact trivial
    | cons a r => cases r <;> first | exact rfl | exact trivial
  | For tg it b o p => cases o <;> first | exact rfl | exact trivial
  | While t b o p => cases o <;> first | exact rfl | exact trivial
  | Return v p => cases v <;> first | exact rfl | exact trivial
  | _ => first | exact rfl | exact trivial

mutual
noncomputable def chkS (c : Cx) : MSt → Stmt → Bool
  | .asg t many e, st => match viewS st with
    | .asg tg v _ => chkT c t many tg && okX v && (!many || !isTupE v) && (!isComp v || isCompM e) && chkE c e v
    | _ => false
  | .setAttr _ _ _, _ => false
  | .setIdx o i e, st => match viewS st with
    | .asg tg v _ => (match xSub tg with
      | some (ov, iv) => okX v && !isComp v && chkE c e v && chkE c o ov && chkE c i iv
      | none => false)
    | _ => false
  | .expr e, st => match viewS st with
    | .expr v _ => okX v && !isComp v && chkE c e v
    | _ => false
  | .ite d a b, st => match viewS st with
    | .ite test x y _ => chkE c d test && chkSs c a x && chkSs c b y
    | _ => false
  | .for_ t many k src body, st => match viewS st with
    | .for_ tg it b _ => chkT c t many tg && (!isEnum k || many) && okX it && (match itArgs c k it with
      | some xs => chkEs c src xs
      | none => false) && chkSs c body b
    | _ => false
  | .while_ d body, st => match viewS st with
    | .while_ test b _ => chkE c d test && chkSs c body b
    | _ => false
  | .ret e, st => match viewS st with
    | .ret v _ => chkE c e v
    | _ => false
  | .cont, st => match viewS st with
    | .cont _ => true
    | _ => false
  | .raise _, _ => false
  | .try_ _ _ _ _, _ => false
noncomputable def chkSs (c : Cx) : List MSt → List Stmt → Bool
  | [], xs => xs.isEmpty
  | s :: ss, xs => match xs with
    | [] => false
    | x :: xs => chkS c s x && chkSs c ss xs
end

section
variable {C : Glo} {F : Fm} {X : XM} {c : Cx} {n : Nat} {ρ ρ' ρ₀ : List Addr} {m : MS} {s s' s₀ : Shared} {A : Around} {E : Value → Shared → Prop}

inductive FlR (C : Glo) (ρ : List Addr) (h : Heap) : Fl → Flow → Prop
  | next : FlR C ρ h .next .next
  | brk : FlR C ρ h .brk .brk
  | cont : FlR C ρ h .cont .cont
  | ret {x v} : Rep C ρ h x v → FlR C ρ h (.ret x) (.ret v)

noncomputable def OutF (C : Glo) (F : Fm) (ρ : List Addr) (s : Shared) (Q : Fl → MS → Prop) : Flow → Shared → Prop :=
  fun f s' => ∃ ρ' m' fl, Step F.W ρ s ρ' s' ∧ Rel C F ρ' m' s' ∧ FlR C ρ' s'.heap fl f ∧ Q fl m'
theorem OutF.back {Q : Fl → MS → Prop} (st : Step F.W ρ₀ s₀ ρ s) : ∀ f s', OutF C F ρ s Q f s' → OutF C F ρ₀ s₀ Q f s' :=
  fun _ _ ⟨ρ', m', x, a, b⟩ => ⟨ρ', m', x, st.trans a, b⟩
noncomputable def WPs (C : Glo) (F : Fm) (X : XM) (t : Sem Flow) (Q : Fl → MS → Prop) (m : MS) : Prop :=
  ∀ s ρ, Rel C F ρ m s → wpAny (mod C) F.A t (OutF C F ρ s Q) (Er C F X ρ s) s


theorem for_ok (cx : CxOk C c F n) {target : Expr} {itv : Value} {items : List MV} {g : Option (Nat × List MV)} {S : List Addr} {It : Nat → List Addr → Shared → Prop} (wk : Walk C F.A target itv items g S It)
    {st : MV → (Fl → MS → Prop) → MS → Prop} {Q : Fl → MS → Prop} {body : List Stmt} (hS : ∀ a ∈ S, s₀.heap.get? a = none)
    (hb : ∀ x v ρ m s (P : Fl → MS → Prop) (E : Value → Shared → Prop), Rel C F ρ m s → Rep C ρ s.heap x v → st x P m → wpAny (mod C) F.A (assign target F.env v) (fun _ s₁ => wpAny (mod C) F.A (execs body F.env) (OutF C F ρ s P) E s₁) E s)
    (st₀ : Step F.W ρ₀ s₀ ρ s) (R : Rel C F ρ m s) (h0 : It 0 ρ s) (as : Aside C F ρ s.heap S) (h : forL g st Q items m) (P : Value → Shared → Prop) :
    codeAny (mod C) F.A (.forLoop target itv body [] F.env) (fun r s' => match r with | .ok f => OutF C F ρ₀ s₀ Q f s' | .error e => P e s') s := by
  refine codeAny_forLoop_any (fun k s => ∃ ρ m i, k = items.length - i ∧ Step F.W ρ₀ s₀ ρ s ∧ Rel C F ρ m s ∧ It i ρ s ∧ Aside C F ρ s.heap S ∧ forL g st Q (items.drop i) m) (fun k s hI => ?_) _ ⟨ρ, m, 0, rfl, st₀, R, h0, as, by simpa using h⟩
  obtain ⟨ρ, m, i, rfl, st₁, R, hit, as, hf⟩ := hI
  cases e : items[i]? with
  | none =>
    have : items.drop i = [] := by rw [List.drop_eq_nil_iff]; exact List.getElem?_eq_none_iff.mp e
    rw [this, forL_nil] at hf
    obtain ⟨hg, hq⟩ := hf
    refine wpAny_mono (wk.done i ρ m.heap s R.hp hg hit e (fun _ _ => False) (fun s₂ => Side S s s₂) fun s₂ sd => sd) (fun r s₁ ⟨hr, sd⟩ => ?_) fun _ _ x => x.elim
    subst hr
    exact wpAny_execs_nil ⟨ρ, m, .next, st₁.side sd hS, R.side cx.fm as sd, .next, hq⟩
  | some x =>
    obtain ⟨hlt, hx⟩ := List.getElem?_eq_some_iff.mp e
    rw [List.drop_eq_getElem_cons hlt, hx, forL_cons] at hf
    obtain ⟨hg, hq⟩ := hf
    refine wk.item i ρ m.heap s x R.hp hg hit e _ _ _ fun v s₂ sd hit' rv => ?_
    have R₂ := R.side cx.fm as sd
    have st₂ := st₁.side sd hS
    refine wpAny_mono (hb x v ρ m s₂ _ _ R₂ rv hq) (fun _ s₃ h₃ => wpAny_mono h₃ (fun f s₄ h₄ => ?_) fun _ _ x => x) fun _ _ x => x
    obtain ⟨ρ₄, m₄, fl, st₄, R₄, hfl, hq₄⟩ := h₄
    obtain ⟨as₄, kp₄⟩ := (as.shape (wk.shape _ _ _ hit')).step st₄
    have hit₄ := wk.keep _ _ _ _ _ hit' st₄.pre st₄.solid kp₄
    cases hfl with
    | next => exact ⟨_, by omega, ρ₄, m₄, i + 1, rfl, st₂.trans st₄, R₄, hit₄, as₄, hq₄⟩
    | cont => exact ⟨_, by omega, ρ₄, m₄, i + 1, rfl, st₂.trans st₄, R₄, hit₄, as₄, hq₄⟩
    | brk => exact ⟨ρ₄, m₄, .next, st₂.trans st₄, R₄, .next, hq₄⟩
    | ret rv => exact ⟨ρ₄, m₄, .ret _, st₂.trans st₄, R₄, .ret rv, hq₄⟩

theorem dset_stored : ∀ {es : List (List Nat × MV)} {kvs : List (Str × Value)} {h : Heap}, RepK C ρ h es kvs → (kvs.map (·.1)).Nodup → ∀ {k : List Nat} {x : MV} {v : Value}, Rep C ρ h x v → RepK C ρ h (dset es k x) (stored kvs (str k) v)
  | _, _, _, .nil, _, k, x, v, r => by
    simp only [dset, stored]
    exact .cons r .nil
  | _, _, _, @RepK.cons _ _ _ k' x' v' es ds a b, hn, k, x, v, r => by
    simp only [List.map_cons, List.nodup_cons] at hn
    unfold dset
    by_cases e : k' = k
    · subst e
      simp only [beq_self_eq_true]
      have e1 : stored ((str k', v') :: ds) (str k') v = (str k', v) :: ds := by
        unfold stored
        rw [if_pos (by simp)]
        simp only [List.map_cons, if_true]
        congr 1
        conv => rhs; rw [← List.map_id ds]
        refine List.map_congr_left fun p hp => ?_
        rw [if_neg (fun q => hn.1 (by rw [← q]; exact List.mem_map.mpr ⟨p, hp, rfl⟩))]; rfl
      rw [e1]
      exact .cons r b
    · have e2 : ¬ str k' = str k := fun q => e (str_inj q)
      have e1 : (k' == k) = false := by simpa using e
      simp only [e1]
      have e3 : stored ((str k', v') :: ds) (str k) v = (str k', v') :: stored ds (str k) v := by
        unfold stored
        simp only [List.any_cons, e2, decide_false, Bool.false_or, List.map_cons, if_false]
        split <;> rfl
      rw [e3]
      exact .cons a (dset_stored b hn.2 r)
theorem dset_len : ∀ (es : List (List Nat × MV)) (k : List Nat) (x : MV), (dset es k x).length ≤ es.length + 1
  | [], _, _ => Nat.le_refl _
  | (k', x') :: r, k, x => by
    unfold dset
    split
    · simp
    · have := dset_len r k x; simp only [List.length_cons]; omega

theorem swaps_some {v : Expr} (h : okX v = true) (x : Str) (px : Pos) (l : Nat) (env : Env) : ∃ b, swapsWith v (some (.Name x px)) l env = pure b := by
  cases hi : isComp v with
  | false => exact ⟨false, swaps_no hi h _ _ _⟩
  | true =>
    unfold isComp at hi
    obtain ⟨k, hk⟩ := Option.isSome_iff_exists.mp hi
    obtain ⟨p, rfl⟩ := xLC_eq hk
    exact ⟨_, rfl⟩
theorem swaps_tup {v : Expr} (h : okX v = true) (elts : List Expr) (k : Nat) (p : Pos) (l : Nat) (env : Env) : swapsWith v (some (.Tuple elts k p)) l env = pure false := by
  cases hi : isComp v with
  | false => exact swaps_no hi h _ _ _
  | true =>
    unfold isComp at hi
    obtain ⟨k, hk⟩ := Option.isSome_iff_exists.mp hi
    obtain ⟨p, rfl⟩ := xLC_eq hk
    rfl
theorem compM_is {e : ME} (h : isCompM e = true) : ∃ elt t many k src ifs, e = .comp elt t many k src ifs := by
  unfold isCompM at h
  split at h
  · exact ⟨_, _, _, _, _, _, rfl⟩
  · cases h
theorem swaps_comp {v : Expr} {t : Option Expr} {l : Nat} {env : Env} (h' : okX v = true) (h : swapsWith v t l env = pure true) : isComp v = true := by
  cases hi : isComp v with
  | true => rfl
  | false =>
    rw [swaps_no hi h'] at h
    exact absurd h (by intro h; injection h with h; cases h)
/-- a comprehension's list is set to a name on the same line -/
theorem asg_comp (G : GOk C) (cx : CxOk C c F n) {e : ME} {v : Expr} {i : Nat} {x : Str} {px pos : Pos} (hx : c.nm i = some x) (hk : c.kind x = some .local ∨ (c.wr = true ∧ c.kind x ≠ some .free)) (hm : isCompM e = true) (he : chkE c e v = true)
    (hb : swapsWith v (some (.Name x px)) pos.line F.env = pure true) {Q : Fl → MS → Prop} (h : wpE (Call C) n e (fun v m => asg [i] false v (fun m => Q .next m) m) X m) (R : Rel C F ρ m s) :
    wpAny (mod C) F.A (exec (.Assign [.Name x px] v pos) F.env) (OutF C F ρ s Q) (Er C F X ρ s) s := by
  obtain ⟨elt, t, many, k, src, ifs, rfl⟩ := compM_is hm
  rw [exec_Assign_Name_used _ _ _ _ hb]
  unfold chkE at he
  split at he
  · rename_i elt' g sc hxx
    obtain ⟨pos', rfl⟩ := xLC_eq hxx
    simp only [Bool.and_eq_true, beq_iff_eq, Bool.or_eq_true, Bool.not_eq_true'] at he
    obtain ⟨⟨⟨⟨⟨⟨⟨h1, h2⟩, h3⟩, h4⟩, h5⟩, h6⟩, h7⟩, h8⟩ := he
    split at h5
    · rename_i xs hxs
      have ha : firstAsync [g] = false := by
        obtain ⟨_, _, _, a⟩ := g; simp only at h1; subst h1; rfl
      refine wpAny_bind (wpAny_standAt (wpAny_bind ?_))
      show wpAny _ F.A (do let _ ← comprehension (.ListComp elt' [g] sc pos') sc F.env (firstIterPos [g] pos') (newList []) (firstAsync [g]) (firstIter [g] F.env) (some (assign (.Name x px) F.env))) _ _ s
      have hfi : firstIter [g] F.env = eval g.iter F.env := by cases g; rfl
      rw [ha, hfi]
      refine wpAny_bind (wpAny_mono (comp_ok (use := some (assign (.Name x px) F.env)) (QQ := fun _ s' => OutF C F ρ s Q .next s') G cx h1 h2 (fun e => h3.resolve_left (by rw [e]; decide)) h4 hxs h5 h6 h7 h8 (fun a ha => (sEs G src c F cx a ha).1)
        (fun F' cx' => (sE G elt _ F' cx').1) (fun F' cx' a ha => (sEs G ifs _ F' cx' a ha).2) h R fun D L ρ' m' s' j st R' rx hq hl => ?_) (fun _ s' hq => wpAny_pure (wpAny_pure hq)) fun _ _ x => x)
      show wpAny _ _ (assign (.Name x px) F.env (.ref D)) _ _ _
      refine PyProof.Rows.assign_Name (store_var cx R' hx hk rx fun s₂ st2 R₂ => ?_)
      obtain ⟨⟨f, hf⟩, hs⟩ := hl ρ' _ s₂ st2 R₂
      refine ⟨f, hf, fun h' hsb => ?_⟩
      obtain ⟨Rf, stf, hsol⟩ := hs h' hsb
      exact ⟨ρ', _, .next, stf, Rf, .next, hq⟩
    · cases h5
  · cases he

mutual
theorem soundS (G : GOk C) (cx : CxOk C c F n) : ∀ (me : MSt) (e : Stmt), chkS c me e = true → ∀ (Q : Fl → MS → Prop) (m : MS), wpS (Call C) n me Q X m → WPs C F X (exec e F.env) Q m
  | .asg t many e, st, hc, Q, m, h => by
    unfold wpS at h
    unfold chkS at hc
    have ev := viewS_eq st
    split at hc
    · rename_i tg v pos hv
      rw [hv] at ev
      obtain rfl : st = _ := ev
      simp only [Bool.and_eq_true, Bool.not_eq_true', Bool.or_eq_true] at hc
      obtain ⟨⟨⟨⟨ht, ho⟩, hm⟩, hcm⟩, he⟩ := hc
      intro s ρ R
      cases many with
      | false =>
        obtain ⟨i, x, px, rfl, rfl, h1, h2⟩ := chkT_one ht
        obtain ⟨b, hb⟩ := swaps_some ho x px pos.line F.env
        cases b with
        | false =>
          refine wpAny_Assign_Name ((soundE G cx e v he _ m h).go R (.refl _ _ _) fun ρ₁ s₁ m₁ y w st t1 R₁ rx h₁ => ?_) hb
          exact store_var cx R₁ h1 (setOk_is h2) rx fun s₂ st2 R₂ => ⟨ρ₁, _, .next, t1.trans st2, R₂, .next, h₁⟩
        | true => exact asg_comp G cx h1 (setOk_is h2) (hcm.resolve_left (by rw [swaps_comp ho hb]; decide)) he hb h R
      | true =>
        obtain ⟨elts, k, p, rfl, _⟩ := chkT_many ht
        have hm' : isTupE v = false := by rcases hm with hm | hm <;> first | cases hm | exact hm
        refine PyProof.Rows.Assign_Tuple ((soundE G cx e v he _ m h).go R (.refl _ _ _) fun ρ₁ s₁ m₁ y w st t1 R₁ rx h₁ => ?_) (by show swapsWith v (some (.Tuple elts k p)) pos.line F.env = _; exact swaps_tup ho elts k p pos.line F.env) (swapped_no hm' ho _)
        exact wpAny_mono (assign_ok cx ht rx R₁ h₁ cx.fm.hn) (fun _ s₂ ⟨m', st2, R₂, q⟩ => ⟨ρ₁, m', .next, t1.trans st2, R₂, .next, q⟩) fun _ _ x => x
    · cases hc
  | .setAttr _ _ _, st, hc, Q, m, h => by unfold chkS at hc; cases hc
  | .setIdx o i e, st, hc, Q, m, h => by
    unfold wpS at h
    unfold chkS at hc
    have ev := viewS_eq st
    split at hc
    · rename_i tg v pos hv
      rw [hv] at ev
      obtain rfl : st = _ := ev
      split at hc
      rotate_left
      · cases hc
      rename_i ov iv hx
      obtain ⟨p, rfl⟩ := xSub_eq hx
      simp only [Bool.and_eq_true, Bool.not_eq_true'] at hc
      obtain ⟨⟨⟨⟨hox, hcomp⟩, he⟩, ho⟩, hi⟩ := hc
      intro s ρ R
      refine wpAny_Assign_Subscript ((soundE G cx e v he _ m h).go R (.refl _ _ _) fun ρ₁ s₁ m₁ x xv st t1 R₁ rx h₁ => ?_) (swaps_no hcomp hox _ _ _)
      refine (soundE G cx o ov ho _ m₁ h₁).go R₁ t1 fun ρ₂ s₂ m₂ y yv st2 t2 R₂ ry h₂ => ?_
      refine (soundE G cx i iv hi _ m₂ h₂).go R₂ t2 fun ρ₃ s₃ m₃ z zv st3 t3 R₃ rz h₃ => ?_
      split at h₃
      · rename_i r k
        split at h₃
        · rename_i es hes
          obtain ⟨hlen, hq⟩ := h₃
          have ry' := ry.step st3
          have rx' := (rx.step st2).step st3
          cases ry' with | @ref _ a g =>
          cases rz with | str _ t z =>
          obtain ⟨kvs, dk, rk, zz⟩ := R₃.hp.objs _ _ _ hes g
          refine wpAny_setItem_pairs (knd := strKind C.prog C.w) (k := str k) (strKind_is _ _ _ _) dk (fun h' hd hs => ?_) (by rw [rk.length]; exact Nat.le_of_lt hlen)
          have hk : ∀ b ob, b ≠ a → s₃.heap.get? b = some ob → h'.get? b = some ob := fun b ob q e => (hs.2 b q).trans e
          have hsol : Solids s₃.heap h' := solids_but hk (repO_not_solid (R₃.hp.objs _ _ _ hes g))
          have hnd : (kvs.map (·.1)).Nodup := by obtain ⟨_, _, _, _, _, _, _, _, hn⟩ := dk; exact hn
          obtain ⟨R₄, st₄⟩ := R₃.put (s' := { s₃ with heap := h', toks := s₃.toks + 1 }) cx.fm g hes (o := .dict (dset es k x)) hk rfl rfl
            ⟨_, hd, (dset_stored rk hnd rx').up hsol (List.prefix_refl _), by have := dset_len es k x; omega⟩
          exact ⟨_, _, .next, t3.trans st₄, R₄, .next, hq⟩
        · exact h₃.elim
      · exact h₃.elim
    · cases hc
  | .expr e, st, hc, Q, m, h => by
    unfold wpS at h
    unfold chkS at hc
    have ev := viewS_eq st
    split at hc
    · rename_i v pos hv
      rw [hv] at ev
      obtain rfl : st = _ := ev
      simp only [Bool.and_eq_true, Bool.not_eq_true'] at hc
      intro s ρ R
      refine wpAny_Expr ((soundE G cx e _ hc.2 _ m h).go R (.refl _ _ _) fun ρ₁ s₁ m₁ y w st t1 R₁ rx h₁ => ?_) cx.inter (swaps_no hc.1.2 hc.1.1 _ _ _)
      cases rx with
      | none => exact ⟨_, _, .next, t1, R₁, .next, h₁⟩
      | bool => exact ⟨_, _, .next, t1, R₁, .next, h₁⟩
      | int => exact ⟨_, _, .next, t1, R₁, .next, h₁⟩
      | str => exact ⟨_, _, .next, t1, R₁, .next, h₁⟩
      | _ => exact h₁.elim
    · cases hc
  | .ite d a b, st, hc, Q, m, h => by
    unfold wpS at h
    unfold chkS at hc
    have ev := viewS_eq st
    split at hc
    · rename_i hv
      rw [hv] at ev
      obtain rfl : st = _ := ev
      simp only [Bool.and_eq_true] at hc
      obtain ⟨⟨hd, ha⟩, hb⟩ := hc
      intro s ρ R
      refine wpAny_If ((soundC G cx d _ hd _ m h).go R (.refl _ _ _) fun ρ₁ s₁ m₁ t st t1 R₁ h₁ => ?_)
      cases t with
      | true => exact wpAny_mono (soundSs G cx a _ ha Q m₁ h₁ s₁ ρ₁ R₁) (OutF.back t1) (Er.back t1)
      | false => exact wpAny_mono (soundSs G cx b _ hb Q m₁ h₁ s₁ ρ₁ R₁) (OutF.back t1) (Er.back t1)
    · cases hc
  | .for_ t many k src body, st, hc, Q, m, h => by
    unfold wpS at h
    unfold chkS at hc
    have ev := viewS_eq st
    split at hc
    · rename_i tg it b pos hv
      rw [hv] at ev
      obtain rfl : st = _ := ev
      simp only [Bool.and_eq_true] at hc
      obtain ⟨⟨⟨⟨ht, hm⟩, hx⟩, hi⟩, hb⟩ := hc
      intro s ρ R
      split at hi
      rotate_left
      · cases hi
      rename_i xs hxs
      refine wpAny_For (wpAny_mono (soundIt G cx (fun a ha => (sEs G src c F cx a ha).1) hxs hi (chkT_target ht) (fun e => by
        have hm : many = true := by simpa [e] using hm
        subst hm
        obtain ⟨a, b, d, e, _⟩ := chkT_many ht
        exact ⟨a, b, d, e, trivial⟩) (P := fun items g m => forL g (fun v P m => asg t many v (fun m => wpSs (Call C) n body P X m) m) Q items m) h R) (fun xv s₁ h₁ => wpAny_mono h₁ (fun itv s₂ h₂ => ?_) fun _ _ x => x) fun _ _ x => x) (okX_folded hx _)
      obtain ⟨ρ₂, m₂, items, g, S, It, st₂, R₂, wk, h0, as, hS, _, hf⟩ := h₂
      refine for_ok cx wk hS (fun x v ρ m s P E R rv hst => ?_) st₂ R₂ h0 as hf _
      refine wpAny_mono (assign_ok cx ht rv R hst cx.fm.hn) (fun _ s₁ ⟨m', st1, R₁, q⟩ => ?_) fun _ _ x => x
      exact wpAny_mono (soundSs G cx body b hb P m' q s₁ ρ R₁) (OutF.back st1) fun _ _ x => Er.no x
    · cases hc
  | .while_ d body, st, hc, Q, m, h => by
    unfold wpS at h
    unfold chkS at hc
    have ev := viewS_eq st
    split at hc
    · rename_i test b pos hv
      rw [hv] at ev
      obtain rfl : st = _ := ev
      simp only [Bool.and_eq_true] at hc
      obtain ⟨hd, hb⟩ := hc
      obtain ⟨k, h⟩ := h
      intro s ρ R
      refine wpAny_While (codeAny_whileLoop (fun k s₁ => ∃ ρ₁ m₁, Step F.W ρ s ρ₁ s₁ ∧ Rel C F ρ₁ m₁ s₁ ∧ whileN (fun P m => wpE (Call C) n d (ofBool P) X m) (fun P m => wpSs (Call C) n body P X m) Q k m₁) (fun k s₁ hI => ?_) k ⟨ρ, m, .refl _ _ _, R, h⟩)
      obtain ⟨ρ₁, m₁, st₁, R₁, hw⟩ := hI
      cases k with
      | zero => rw [whileN_zero] at hw; exact hw.elim
      | succ k =>
        rw [whileN_succ] at hw
        refine wpAny_mono (soundC G cx d test hd _ m₁ hw s₁ ρ₁ R₁) (fun t s₂ ⟨ρ₂, m₂, st₂, R₂, h₂⟩ => ?_) fun _ _ x => Er.no x
        cases t with
        | true =>
          rw [if_pos rfl]
          refine wpAny_mono (soundSs G cx body b hb _ m₂ h₂ s₂ ρ₂ R₂) (fun f s₃ ⟨ρ₃, m₃, fl, st₃, R₃, hfl, h₃⟩ => ?_) fun _ _ x => Er.no x
          have stt := (st₁.trans st₂).trans st₃
          cases hfl with
          | next => exact ⟨k, Nat.lt_succ_self k, ρ₃, m₃, stt, R₃, h₃⟩
          | cont => exact ⟨k, Nat.lt_succ_self k, ρ₃, m₃, stt, R₃, h₃⟩
          | brk => exact ⟨ρ₃, m₃, .next, stt, R₃, .next, h₃⟩
          | ret rv => exact ⟨ρ₃, m₃, .ret _, stt, R₃, .ret rv, h₃⟩
        | false =>
          rw [if_neg (by decide)]
          exact wpAny_execs_nil ⟨ρ₂, m₂, .next, st₁.trans st₂, R₂, .next, h₂⟩
    · cases hc
  | .ret e, st, hc, Q, m, h => by
    unfold wpS at h
    unfold chkS at hc
    have ev := viewS_eq st
    split at hc
    · rename_i hv
      rw [hv] at ev
      obtain rfl : st = _ := ev
      intro s ρ R
      exact wpAny_Return_some ((soundE G cx e _ hc _ m h).go R (.refl _ _ _) fun ρ₁ s₁ m₁ y w st t1 R₁ rx h₁ => ⟨_, _, _, t1, R₁, .ret rx, h₁⟩)
    · cases hc
  | .cont, st, hc, Q, m, h => by
    unfold wpS at h
    unfold chkS at hc
    have ev := viewS_eq st
    split at hc
    · rename_i hv
      rw [hv] at ev
      obtain rfl : st = _ := ev
      intro s ρ R
      exact wpAny_Continue ⟨_, _, _, .refl _ _ _, R, .cont, h⟩
    · cases hc
  | .raise _, st, hc, Q, m, h => by unfold chkS at hc; cases hc
  | .try_ _ _ _ _, st, hc, Q, m, h => by unfold chkS at hc; cases hc
theorem soundSs (G : GOk C) (cx : CxOk C c F n) : ∀ (ss : List MSt) (es : List Stmt), chkSs c ss es = true → ∀ (Q : Fl → MS → Prop) (m : MS), wpSs (Call C) n ss Q X m → WPs C F X (execs es F.env) Q m
  | [], es, hc, Q, m, h => by
    unfold wpSs at h
    unfold chkSs at hc
    cases es with
    | nil => intro s ρ R; exact wpAny_execs_nil ⟨_, _, _, .refl _ _ _, R, .next, h⟩
    | cons => cases hc
  | x :: ss, es, hc, Q, m, h => by
    unfold wpSs at h
    unfold chkSs at hc
    split at hc
    · cases hc
    · rename_i e es
      simp only [Bool.and_eq_true] at hc
      intro s ρ R
      refine wpAny_execs_cons (wpAny_mono (soundS G cx x e hc.1 _ m h s ρ R) (fun f s₁ ⟨ρ₁, m₁, fl, st, R₁, hfl, h₁⟩ => ?_) fun _ _ x => x)
      cases hfl with
      | next => exact wpAny_mono (soundSs G cx ss es hc.2 Q m₁ h₁ s₁ ρ₁ R₁) (OutF.back st) (Er.back st)
      | brk => exact ⟨_, _, _, st, R₁, .brk, h₁⟩
      | cont => exact ⟨_, _, _, st, R₁, .cont, h₁⟩
      | ret rv => exact ⟨_, _, _, st, R₁, .ret rv, h₁⟩
end
end
end Mine
end
section
set_option autoImplicit false
set_option linter.unusedVariables false
namespace Mine
open PySem PyProof.Rows

noncomputable def mkCx (sc : Scope) (ns : List Str) (fn : Nat → Option Str) (gl : Nat → Option (Str × MV)) : Cx := ⟨fun x => sc.names.lookup x, fun i => ns[i]?, fn, gl, true, fun i => decide (ns.length ≤ i)⟩

/-- the globals as the functions see them -/
noncomputable def Globs (C : Glo) (g b : Addr) (fn : Nat → Option Str) (gl : Nat → Option (Str × MV)) : Prop :=
  ∃ mg mb, C.base.Ns g mg ∧ C.base.Ns b mb ∧ (∀ f x, fn f = some x → ∃ a, C.fa f = some a ∧ mg x = some (.ref a)) ∧
    (∀ g x v, gl g = some (x, v) → ∃ w, mg x = some w ∧ ∀ ρ h, C.base.StaysIn h → Rep C ρ h v w) ∧ (∀ x v, (x, v) ∈ bltNames → mg x = none ∧ mb x = some v)

/-- a function's names -/
noncomputable def namesOk (sc : Scope) (ps ns : List Str) : Bool :=
  ps.isPrefixOf ns && decide ns.Nodup && ns.all (fun x => sc.names.lookup x == some .local || (sc.names.lookup x == some .cell && ((cellsFrom 0 sc.names []).lookup x).isSome))

structure FnIs (C : Glo) (fn : Nat → Option Str) (gl : Nat → Option (Str × MV)) (d : Fn) (a : Addr) : Prop where
  is : ∃ o fd body ps ns, C.base.get? a = some o ∧ o.data = .func fd ∧ C.base.CodeRec fd.code fd.qualname ∧ fd.body = .stmts body ∧ fd.closure = [] ∧ fd.scope.isCoroutine = false ∧ fd.scope.isGenerator = false ∧
    fd.scope.kind = .function ∧ (∀ vals : List Value, vals.length = ps.length → bindArgs fd ⟨vals, []⟩ = pure (ps.zip vals)) ∧ ps.length = d.args ∧ namesOk fd.scope ps ns = true ∧
    chkSs (mkCx fd.scope ns fn gl) d.body body = true ∧ Globs C fd.globals fd.builtins fn gl

noncomputable def FnsOk (C : Glo) (fn : Nat → Option Str) (gl : Nat → Option (Str × MV)) (P : Nat → Option Fn) : Prop := ∀ f d a, P f = some d → C.fa f = some a → FnIs C fn gl d a

theorem cellsFrom_some : ∀ (names : List (Str × NameKind)) (n k : Nat) (acc acc' : List (Str × Addr)) (x : Str), (∀ y, (acc.lookup y).isSome = (acc'.lookup y).isSome) → ((cellsFrom n names acc).lookup x).isSome = ((cellsFrom k names acc').lookup x).isSome
  | [], n, k, acc, acc', x, h => h x
  | (y, kd) :: r, n, k, acc, acc', x, h => by
    unfold cellsFrom
    split
    · refine cellsFrom_some r _ _ _ _ x fun z => ?_
      simp only [List.lookup_cons]
      split
      · rfl
      · exact h z
    · exact cellsFrom_some r _ _ _ _ x h

section
variable {C : Glo} {ρ : List Addr} {h : Heap}

theorem zip_get {ps : List Str} {ws : List Value} (hl : ws.length = ps.length) {i : Nat} {x : Str} {w : Value} (e1 : ps[i]? = some x) (e2 : ws[i]? = some w) : (ps.zip ws)[i]? = some (x, w) := by
  rw [List.getElem?_zip_eq_some]; exact ⟨e1, e2⟩

theorem bindL_other (k : Str → Option NameKind) : ∀ (l : List (Str × Value)) (m : Str → Option Value) (x : Str), (∀ p ∈ l, p.1 ≠ x) → bindL k l m x = m x
  | [], m, x, _ => rfl
  | (n, v) :: r, m, x, h => by
    unfold bindL
    rw [bindL_other k r _ x fun p hp => h p (List.mem_cons_of_mem _ hp)]
    have : n ≠ x := h _ (List.mem_cons_self ..)
    split
    · exact if_neg fun q : x = n => this q.symm
    · rfl
theorem bindC_other (k : Str → Option NameKind) : ∀ (l : List (Str × Value)) (m : Str → Option Value) (x : Str), (∀ p ∈ l, p.1 ≠ x) → bindC k l m x = m x
  | [], m, x, _ => rfl
  | (n, v) :: r, m, x, h => by
    unfold bindC
    rw [bindC_other k r _ x fun p hp => h p (List.mem_cons_of_mem _ hp)]
    have : n ≠ x := h _ (List.mem_cons_self ..)
    split
    · rfl
    · exact if_neg fun q : x = n => this q.symm
theorem bindL_get (k : Str → Option NameKind) : ∀ (l : List (Str × Value)) (m : Str → Option Value) (x : Str) (w : Value), (l.map (·.1)).Nodup → (x, w) ∈ l → k x = some .local → bindL k l m x = some w
  | (n, v) :: r, m, x, w, hn, hm, hk => by
    simp only [List.map_cons, List.nodup_cons] at hn
    unfold bindL
    rcases List.mem_cons.mp hm with e | hm
    · cases e
      rw [bindL_other k r _ _ fun p hp q => hn.1 (List.mem_map.mpr ⟨p, hp, q⟩), if_pos hk]; simp
    · exact bindL_get k r _ x w hn.2 hm hk
theorem bindC_get (k : Str → Option NameKind) : ∀ (l : List (Str × Value)) (m : Str → Option Value) (x : Str) (w : Value), (l.map (·.1)).Nodup → (x, w) ∈ l → k x ≠ some .local → bindC k l m x = some w
  | (n, v) :: r, m, x, w, hn, hm, hk => by
    simp only [List.map_cons, List.nodup_cons] at hn
    unfold bindC
    rcases List.mem_cons.mp hm with e | hm
    · cases e
      rw [bindC_other k r _ _ fun p hp q => hn.1 (List.mem_map.mpr ⟨p, hp, q⟩), if_neg hk]; simp
    · exact bindC_get k r _ x w hn.2 hm hk

theorem start_get {d : Fn} {vs : List MV} {hp : List MO} {i : Nat} {v : MV} (e : (start d vs hp).get i = some v) : vs[i]? = some v := by
  unfold start MS.get at e
  simp only at e
  split at e
  · rename_i w hw
    cases e
    rcases Nat.lt_or_ge i (vs.map some).length with hi | hi
    · rw [List.getElem?_append_left hi, List.getElem?_map] at hw
      cases q : vs[i]? with
      | none => rw [q] at hw; cases hw
      | some u => rw [q] at hw; cases hw; rfl
    · rw [List.getElem?_append_right hi, List.getElem?_replicate] at hw
      split at hw <;> cases hw
  · cases e

/-- a callee's frame -/
noncomputable def inFm (A : Around) (env : Env) (ns : List Str) : Fm where
  env := env
  A := A.deeper env
  W := env.locals :: ns.filterMap (fun x => if env.kindOf x = some .local then none else env.cells.lookup x)
  V := []
  lay := fun i => match ns[i]? with
    | some x => if env.kindOf x = some .local then some (.nm env.locals x) else match env.cells.lookup x with
      | some c => some (.cl c)
      | none => none
    | none => none
  outer := []

theorem call_core (G : GOk C) {fn : Nat → Option Str} {gl : Nat → Option (Str × MV)} {P : Nat → Option Fn} (H : FnsOk C fn gl P) {n f : Nat} {vs : List MV} {Q : MV → List MO → Prop} {X : XT} {hp : List MO} {d : Fn} (hP : P f = some d) (hlen : vs.length = d.args)
    (hw : wpSs (Call C) n d.body (fin Q) (fun c m => X c m.heap) (start d vs hp)) {A : Around} {s : Shared} {ws : List Value} {a : Addr} (hA : A.handled = none) (hH : Hp C ρ hp s.heap) (hgens : s.gens = #[]) (rl : RepL C ρ s.heap vs ws)
    (hroom : A.depth + (n + 1) ≤ 999) (hunits : A.units ≤ 3 * A.depth + 4) (hfa : C.fa f = some a) {E : Value → Shared → Prop} :
    wpAny (mod C) A (call (.ref a) ws) (fun v s' => ∃ ρ' hp' x, Step [] ρ s ρ' s' ∧ Hp C ρ' hp' s'.heap ∧ Rep C ρ' s'.heap x v ∧ Q x hp') E s := by
  obtain ⟨o, fd, body, ps, ns, ho, hd, hcd, hbody, hclo, hco, hgen, hk, hbind, hps, hns, hchk, hgl⟩ := (H f d a hP hfa).is
  simp only [namesOk, Bool.and_eq_true, decide_eq_true_eq, List.all_eq_true, Bool.or_eq_true, beq_iff_eq] at hns
  obtain ⟨⟨hpre, hnd⟩, hall⟩ := hns
  have hpre : ps <+: ns := List.isPrefixOf_iff_prefix.mp hpre
  have hwl : ws.length = ps.length := by rw [rl.length, hlen, hps]
  have hmem : ∀ x ∈ ps, x ∈ ns := fun x hx => hpre.subset hx
  have hcellS : ∀ k x, ((cellsFrom k fd.scope.names []).lookup x).isSome = ((cellsFrom 0 fd.scope.names []).lookup x).isSome := fun k x => cellsFrom_some _ _ _ _ _ _ fun _ => rfl
  have hzip : ∀ p ∈ ps.zip ws, p.1 ∈ ps := fun p hp => (List.of_mem_zip (a := p.1) (b := p.2) hp).1
  have hzn : ((ps.zip ws).map (·.1)).Nodup := by
    rw [List.map_fst_zip (by omega)]
    exact hnd.sublist hpre.sublist
  refine wpAny_call (codeAny_call_cells (by show _ < 1000; omega) (hH.base _ _ ho) hd (G.nolimit.keeps hH.base) (hcd.keeps hH.base) hbody (hbind ws hwl) hclo (fun x hx => ?_) (fun s₁ ic => ?_) hco hgen hk)
  · rcases hall _ (hmem _ (hzip x hx)) with q | ⟨q, q'⟩
    · exact .inl q
    · exact .inr ⟨q, by rw [hcellS]; exact q'⟩
  · generalize henv : callEnvC fd s.heap.objs.size a = env at ic ⊢
    have eL : env.locals = s.heap.objs.size := by rw [← henv]; rfl
    have eK : ∀ x, env.kindOf x = fd.scope.names.lookup x := fun x => by rw [← henv]; rfl
    have eC : env.cells = cellsFrom (s.heap.objs.size + 1) fd.scope.names [] := by rw [← henv]; rfl
    have eS : env.scope = fd.scope := by rw [← henv]; rfl
    have eG : env.globals = fd.globals ∧ env.builtins = fd.builtins := by rw [← henv]; exact ⟨rfl, rfl⟩
    obtain ⟨⟨⟨h₁, tk, hs₁⟩, hns1, hkeep, hfresh⟩, hcell, hapart, habove⟩ := ic
    have fL : s.heap.get? env.locals = none := fresh_at hfresh
    have hcl : ∀ x c, env.cells.lookup x = some c → s₁.heap.IsCell c (bindC env.kindOf (ps.zip ws) (fun _ => none) x) ∧ s.heap.get? c = none := fun x c e => by
      refine ⟨hcell x c e, fresh_at ?_⟩
      have := habove x c (mem_of_lookup e)
      exact Nat.le_of_lt (Nat.lt_of_le_of_lt hfresh this)
    have hg1 : s₁.gens = s.gens ∧ s₁.os = s.os := by rw [hs₁]; exact ⟨rfl, rfl⟩
    have hW : ∀ b ∈ (inFm A env ns).W, s.heap.get? b = none ∧ WOk s₁.heap b := fun b hb => by
      rcases List.mem_cons.mp hb with rfl | hb
      · obtain ⟨o, es, ep, e1, e2, _⟩ := hns1
        exact ⟨fL, o, e1, .inl ⟨es, ep, e2⟩⟩
      · obtain ⟨x, hx, e⟩ := List.mem_filterMap.mp hb
        split at e
        · cases e
        · obtain ⟨⟨o, e1, e2⟩, e3⟩ := hcl x b e
          exact ⟨e3, o, e1, .inr ⟨_, e2⟩⟩
    have hlay : ∀ i l, (inFm A env ns).lay i = some l → ∃ x, ns[i]? = some x ∧ ((env.kindOf x = some .local ∧ l = .nm env.locals x) ∨ (env.kindOf x ≠ some .local ∧ ∃ c, env.cells.lookup x = some c ∧ l = .cl c)) := fun i l e => by
      simp only [inFm] at e
      split at e
      · rename_i x hx
        refine ⟨x, hx, ?_⟩
        split at e
        · rename_i q; cases e; exact .inl ⟨q, rfl⟩
        · rename_i q
          split at e
          · rename_i c hc; cases e; exact .inr ⟨q, c, hc, rfl⟩
          · cases e
      · cases e
    have hidx : ∀ (i j : Nat) (x : Str), ns[i]? = some x → ns[j]? = some x → i = j := fun i j x e1 e2 => by
      have h1 := List.getElem?_eq_some_iff.mp e1
      have h2 := List.getElem?_eq_some_iff.mp e2
      exact (List.getElem_inj hnd).mp (h1.2.trans h2.2.symm)
    have ok' : FmOk (inFm A env ns) := by
      refine ⟨List.mem_cons_self .., fun i l e => ?_, fun i j l e1 e2 => ?_, ?_, hA⟩
      · obtain ⟨x, hx, ⟨q, rfl⟩ | ⟨q, c, hc, rfl⟩⟩ := hlay i l e
        · exact List.mem_cons_self ..
        · refine List.mem_append_left _ (List.mem_cons_of_mem _ (List.mem_filterMap.mpr ⟨x, List.mem_of_getElem? hx, ?_⟩))
          rw [if_neg q]; exact hc
      · obtain ⟨x, hx, q1⟩ := hlay i l e1
        obtain ⟨y, hy, q2⟩ := hlay j l e2
        rcases q1 with ⟨_, rfl⟩ | ⟨_, c, hc, rfl⟩
        · rcases q2 with ⟨_, q⟩ | ⟨_, c', _, q⟩
          · cases q; exact hidx i j x hx hy
          · cases q
        · rcases q2 with ⟨_, q⟩ | ⟨_, c', hc', q⟩
          · cases q
          · cases q
            have := name_of_addr hapart (mem_of_lookup hc) (mem_of_lookup hc')
            subst this
            exact hidx i j x hx hy
      · show env.scope.kind = .function
        rw [eS]; exact hk
    have cx : CxOk C (mkCx fd.scope ns fn gl) (inFm A env ns) n := by
      refine ⟨ok', fun x => eK x, fun i x e => ?_, ?_, ?_, ?_, ?_, fun i a e _ => (List.mem_append.mp (ok'.lay i _ e)).elim id (fun q => nomatch q), fun i e => ?_⟩
      · have hx : ns[i]? = some x := e
        rcases hall x (List.mem_of_getElem? hx) with q | ⟨q, q'⟩
        · refine .inl ⟨(eK x).trans q, ?_⟩
          simp only [inFm, hx, eK, q, if_true]
        · have hne : fd.scope.names.lookup x ≠ some .local := by rw [q]; intro q; cases q
          rw [← hcellS (s.heap.objs.size + 1), ← eC] at q'
          obtain ⟨c, hc⟩ := Option.isSome_iff_exists.mp q'
          refine .inr ⟨c, .inl ((eK x).trans q), hc, ?_⟩
          simp only [inFm, hx, eK, q, hc]
          rfl
      · show Globs C env.globals env.builtins fn gl
        rw [eG.1, eG.2]; exact hgl
      · show A.units + 3 ≤ 3 * (A.depth + 1) + 4
        omega
      · show A.depth + 1 + n ≤ 999
        omega
      · show interactive env = false
        unfold interactive
        rw [eS, hk]; rfl
      · have e : ns.length ≤ i := by simpa [mkCx] using e
        simp only [inFm, List.getElem?_eq_none e]
    have hk' : ∀ b ob, s.heap.get? b = some ob → s₁.heap.get? b = some ob := hkeep
    have hs0 : Solids s.heap s₁.heap := fun b ob e _ => hk' b ob e
    have R₁ : Rel C (inFm A env ns) ρ (start d vs hp) s₁ := by
      refine ⟨?_, ⟨_, hns1⟩, fun b hb => ?_, fun i v e => ?_, fun i c e => ?_, fun e he => (by cases he), hg1.1.trans hgens⟩
      · show Hp C ρ hp s₁.heap
        exact hH.up hs0 (fun b _ ob e => hk' b ob e) fun b ob e => hk' b ob (hH.base b ob e)
      · have hb : b ∈ (inFm A env ns).W := (List.mem_append.mp hb).elim id fun q => by cases q
        obtain ⟨h1, h2⟩ := hW b hb
        refine ⟨fun q => ?_, base_fresh (m := ⟨[], hp⟩) hH h1, h2⟩
        obtain ⟨o', e'⟩ := Hp.there (m := ⟨[], hp⟩) hH q
        rw [h1] at e'; cases e'
      · have hv := start_get e
        obtain ⟨w, hw1, hw2⟩ := rl.get hv
        have hi : i < ps.length := by rw [← hwl]; exact (List.getElem?_eq_some_iff.mp hw1).1
        have hpi : ps[i]? = some ps[i] := List.getElem?_eq_getElem hi
        have hni : ns[i]? = some ps[i] := by
          obtain ⟨t, rfl⟩ := hpre
          rw [List.getElem?_append_left hi]; exact hpi
        have hz : (ps[i], w) ∈ ps.zip ws := List.mem_of_getElem? (zip_get hwl hpi hw1)
        rcases cx.nm i ps[i] hni with ⟨q1, q2⟩ | ⟨c, q1, q2, q3⟩
        · refine ⟨_, q2, _, w, hns1, ?_, hw2.up hs0 (List.prefix_refl _)⟩
          exact bindL_get _ _ _ _ _ hzn hz q1
        · refine ⟨_, q3, w, ?_, hw2.up hs0 (List.prefix_refl _)⟩
          have := (hcl ps[i] c q2).1
          rw [bindC_get _ _ _ _ w hzn hz] at this
          · exact this
          · intro q
            have q1' : env.kindOf ps[i] = some .cell ∨ env.kindOf ps[i] = some .free ∧ cdc ps[i] = false := q1
            rw [q] at q1'
            rcases q1' with q1' | ⟨q1', _⟩ <;> cases q1'
      · obtain ⟨x, hx, ⟨q, q'⟩ | ⟨q, c', hc, q'⟩⟩ := hlay i _ e
        · cases q'
        · cases q'; exact ⟨_, (hcl x c hc).1⟩
    refine wpAny_mono (soundSs G cx d.body body hchk (fin Q) (start d vs hp) (X := fun c m => X c m.heap) hw s₁ ρ R₁) (fun fl s' hf => ?_) fun _ _ x => Er.no x
    obtain ⟨ρ', m', f', st, R', hfl, hq⟩ := hf
    have key : ∀ v x, Rep C ρ' s'.heap x v → Q x m'.heap → ∃ ρ' hp' x, Step [] ρ s ρ' s' ∧ Hp C ρ' hp' s'.heap ∧ Rep C ρ' s'.heap x v ∧ Q x hp' := fun v x rx hq => by
      have hnW : ∀ b ob, s.heap.get? b = some ob → b ∉ (inFm A env ns).W := fun b ob e q => by rw [(hW b q).1] at e; cases e
      have hnew : ∀ b ∈ ρ', b ∈ ρ ∨ s.heap.get? b = none := fun b hb => (st.new b hb).imp id fun q => by
        cases e : s.heap.get? b with
        | none => rfl
        | some ob => rw [hk' b ob e] at q; cases q
      exact ⟨ρ', m'.heap, x, ⟨st.pre, hnew, fun b ob e h1 _ => st.keep b ob (hk' b ob e) h1 (hnW b ob e), fun b ob e hsd => st.solid b ob (hk' b ob e) hsd, fun b ob e => st.alive b ob (hk' b ob e), st.gens.trans hg1.1, st.os.trans hg1.2⟩, R'.hp, rx, hq⟩
    cases hfl with
    | next => exact key .none .none .none hq
    | brk => exact hq.elim
    | cont => exact hq.elim
    | ret rv => exact key _ _ rv hq

theorem closed (G : GOk C) {fn : Nat → Option Str} {gl : Nat → Option (Str × MV)} {P : Nat → Option Fn} (H : FnsOk C fn gl P) : Closed P (Call C) := by
  intro n f vs Q X hp d hP hlen hw F m s ρ ws a okF hm R rl hroom hunits hfa
  refine wpAny_mono (call_core G H hP hlen hw okF.hn (by rw [← hm]; exact R.hp) R.gens rl hroom hunits hfa) (fun v s' ⟨ρ', hp', x, st, hH, rx, hq⟩ => ?_) fun _ _ x => x
  have hD : ∀ b ob, s.heap.get? b = some ob → b ∉ ρ → KeepD s.heap s'.heap b := fun b ob e hb ob' e' => by
    rw [e] at e'; cases e'
    rcases st.keep b ob e hb (by simp) with q | ⟨_, sl, q⟩
    · exact ⟨_, q, rfl, rfl⟩
    · exact ⟨_, q, rfl, rfl⟩
  refine ⟨ρ', ⟨m.vars, hp'⟩, x, ⟨st.pre, st.new, fun b ob e h1 _ => st.keep b ob e h1 (by simp), st.solid, st.alive, st.gens, st.os⟩, ?_, rx, rfl, hq⟩
  refine R.up okF st.solid st.pre hH st.new (fun b hb => ?_) (fun e he L hL => ?_) st.gens
  · obtain ⟨h1, _, ob, e, _⟩ := R.w b hb
    exact hD b ob e h1
  · obtain ⟨_, L', ob, _, _, g1, _, g3, _, g5, _⟩ := R.out e he
    rw [hL] at g1; cases g1
    exact hD L ob g5 g3
end
end Mine
end
section
set_option autoImplicit false
set_option linter.unusedVariables false
namespace Mine
open PySem PyProof.Rows

noncomputable abbrev Tab := List (Nat × Str × List Str × Fn)
noncomputable def fnOf (tab : Tab) (f : Nat) : Option Str := (tab.lookup f).map (·.1)
noncomputable def fnP (tab : Tab) (f : Nat) : Option Fn := (tab.lookup f).map (·.2.2)
noncomputable def mkFa (fn : Nat → Option Str) (mg : Str → Option Value) (f : Nat) : Option Addr := match fn f with
  | some x => match mg x with
    | some (.ref a) => some a
    | _ => none
  | none => none

noncomputable def chkRec (fn : Nat → Option Str) (gl : Nat → Option (Str × MV)) (ns : List Str) (d : Fn) (r : DefRec) : Bool :=
  r.params.posonlyargs.isEmpty && r.params.vararg.isNone && r.params.kwonlyargs.isEmpty && r.params.kwarg.isNone && !r.scope.isCoroutine && !r.scope.isGenerator && r.scope.kind == .function &&
  (r.params.args.map (·.arg)).length == d.args && namesOk r.scope (r.params.args.map (·.arg)) ns && chkSs (mkCx r.scope ns fn gl) d.body r.body
noncomputable def tabOk (recs : List DefRec) (tab : Tab) (gl : Nat → Option (Str × MV)) : Bool :=
  tab.all fun e => recs.any fun r => r.name == e.2.1 && chkRec (fnOf tab) gl e.2.2.1 e.2.2.2 r
noncomputable def bltOk (p : Program) (loose : List Str) : Bool :=
  bltNames.all fun q => !startupNames.contains q.1 && !loose.contains q.1 && !((recsOf p).map (·.name)).contains q.1 && !((litsOf p).map (·.1)).contains q.1 && !((clssOf p loose).map (·.name)).contains q.1 && !(q.1 == ("__name__" : Str)) &&
    match bootBuiltins q.1, q.2 with
    | some (.builtin a), .builtin b => a == b
    | some (.type a), .type b => a == b
    | _, _ => false

theorem lookup_mem {α : Type} : ∀ {l : List (Nat × α)} {k : Nat} {v : α}, l.lookup k = some v → (k, v) ∈ l
  | [], k, v, h => by cases h
  | (a, b) :: r, k, v, h => by
    rw [List.lookup_cons] at h
    split at h
    · rename_i e
      cases h
      have : k = a := by simpa using e
      subst this
      exact List.mem_cons_self ..
    · exact List.mem_cons_of_mem _ (lookup_mem h)

theorem lookup_zip : ∀ {ps : List Str} {vs : List Value} {x : Str}, vs.length = ps.length → x ∈ ps → ((ps.zip vs).lookup x).isSome = true
  | [], _, _, _, h => by cases h
  | p :: ps, [], _, h, _ => by cases h
  | p :: ps, v :: vs, x, hl, h => by
    rw [List.zip_cons_cons, List.lookup_cons]
    split
    · rfl
    · rename_i e
      refine lookup_zip (by simpa using hl) ?_
      rcases List.mem_cons.mp h with rfl | h
      · simp at e
      · exact h
theorem filterMap_zip : ∀ {ps : List Str} {vs : List Value} (pre : List (Str × Value)), vs.length = ps.length → ps.Nodup → (∀ x ∈ ps, pre.lookup x = none) → ps.filterMap (fun n => ((pre ++ ps.zip vs).lookup n).map (n, ·)) = ps.zip vs
  | [], _, _, _, _, _ => rfl
  | p :: ps, [], _, h, _, _ => by cases h
  | p :: ps, v :: vs, pre, hl, hn, hp => by
    rw [List.nodup_cons] at hn
    have e1 : (pre ++ (p :: ps).zip (v :: vs)).lookup p = some v := by
      rw [List.lookup_append, hp p (List.mem_cons_self ..)]
      simp [List.lookup_cons]
    rw [List.filterMap_cons, e1]
    simp only [Option.map_some]
    rw [List.zip_cons_cons]
    congr 1
    have e2 : pre ++ (p, v) :: ps.zip vs = (pre ++ [(p, v)]) ++ ps.zip vs := by simp
    rw [e2]
    refine filterMap_zip (pre ++ [(p, v)]) (by simpa using hl) hn.2 fun x hx => ?_
    rw [List.lookup_append, hp x (List.mem_cons_of_mem _ hx)]
    have : (x == p) = false := by
      cases e : x == p with
      | false => rfl
      | true => have : x = p := by simpa using e
                subst this; exact absurd hx hn.1
    simp [List.lookup_cons, this]

theorem bind_plain {fd : FuncData} {vals : List Value} (h1 : fd.params.posonlyargs = []) (h2 : fd.params.vararg = none) (h3 : fd.params.kwonlyargs = []) (h4 : fd.params.kwarg = none) (h5 : fd.defaults = .none)
    (hn : (fd.params.args.map (·.arg)).Nodup) (hl : vals.length = (fd.params.args.map (·.arg)).length) : bindArgs fd ⟨vals, []⟩ = pure ((fd.params.args.map (·.arg)).zip vals) := by
  have e1 : ∀ x ∈ fd.params.args.map (·.arg), (((fd.params.args.map (·.arg)).zip vals).lookup x).isNone = false := fun x hx => by
    have := lookup_zip hl hx
    cases e : ((fd.params.args.map (·.arg)).zip vals).lookup x with
    | none => rw [e] at this; cases this
    | some => rfl
  have e2 : (fd.params.args.map (·.arg)).filter (fun n => (((fd.params.args.map (·.arg)).zip vals).lookup n).isNone) = [] := by
    rw [List.filter_eq_nil_iff]; intro x hx; rw [e1 x hx]; simp
  have e3 := filterMap_zip (ps := fd.params.args.map (·.arg)) (vs := vals) [] hl hn fun _ _ => rfl
  rw [List.nil_append] at e3
  unfold bindArgs
  simp only [h1, h2, h3, h4, h5, List.map_nil, List.nil_append, List.forIn_nil, pure_bind, seqItems?]
  have e4 : (notAStandIn Value.none >>= fun _ => (pure none : Sem (Option (Array Value)))) = pure none := rfl
  have e5 : decide (vals.length > (fd.params.args.map (·.arg)).length) = false := by simp [hl]
  rw [e4]
  simp only [pure_bind, e5, Bool.false_and, Bool.false_eq_true, if_false, Option.getD_none, Array.toList_empty, List.drop_nil, List.length_nil, Nat.sub_zero, List.take_length, e2, List.isEmpty_nil, Bool.not_true, List.drop_length, List.zip_nil_left, List.forIn_nil, List.append_nil, e3]
end Mine
end
section
set_option autoImplicit false
set_option linter.unusedVariables false
namespace Mine
open PySem PySem.W PyProof.Rows

section
variable {p : Program} {loose : List Str} {mean : ExcName → Option Value} {mg mb : Str → Option Value} {h : Heap} {prog : Program} {w : World} {tab : Tab} {gl : Nat → Option (Str × MV)}

noncomputable abbrev topG (prog : Program) (w : World) (h : Heap) (tab : Tab) (mg : Str → Option Value) : Glo := ⟨prog, w, h, mkFa (fnOf tab) mg, fun _ => none⟩

theorem tab_at (hchk : tabOk (recsOf p) tab gl = true) {f : Nat} {x : Str} {ns : List Str} {d : Fn} (e : tab.lookup f = some (x, ns, d)) : ∃ r ∈ recsOf p, r.name = x ∧ chkRec (fnOf tab) gl ns d r = true := by
  unfold tabOk at hchk
  rw [List.all_eq_true] at hchk
  have := hchk _ (lookup_mem e)
  rw [List.any_eq_true] at this
  obtain ⟨r, hr, h⟩ := this
  simp only [Bool.and_eq_true, beq_iff_eq] at h
  exact ⟨r, hr, h.1, h.2⟩

theorem fa_name {f : Nat} {a : Addr} (e : mkFa (fnOf tab) mg f = some a) : ∃ x ns d, tab.lookup f = some (x, ns, d) ∧ mg x = some (.ref a) := by
  unfold mkFa at e
  split at e
  · rename_i x hx
    unfold fnOf at hx
    cases q : tab.lookup f with
    | none => rw [q] at hx; cases hx
    | some t =>
      obtain ⟨y, ns, d⟩ := t
      rw [q] at hx; cases hx
      split at e
      · rename_i b hb; cases e; exact ⟨_, ns, d, rfl, hb⟩
      · cases e
  · cases e

theorem top_g (T : Top p loose mean mg mb h) (hi : importsNone p = true) (hchk : tabOk (recsOf p) tab gl = true) : GOk (topG prog w h tab mg) where
  sys := by
    obtain ⟨mm, ⟨o, es, ep, e, _⟩, _⟩ := (T.seer hi).mods
    show (h.get? sysModules).isSome = true
    rw [e]; rfl
  nolimit := T.nolimit
  fns := fun f a e => by
    obtain ⟨x, ns, d, e1, e2⟩ := fa_name e
    obtain ⟨r, hr, rfl, _⟩ := tab_at hchk e1
    obtain ⟨a', o, pm, code, doc, h1, h2, h3, _⟩ := T.fn r hr
    rw [e2] at h1; cases h1
    exact ⟨o, _, h2, h3⟩

theorem top_f (T : Top p loose mean mg mb h) (hchk : tabOk (recsOf p) tab gl = true) (hb : bltOk p loose = true) (hgl : ∀ g x v, gl g = some (x, v) → ∃ u, mg x = some u ∧ ∀ ρ h', h.StaysIn h' → Rep (topG prog w h tab mg) ρ h' v u) :
    FnsOk (topG prog w h tab mg) (fnOf tab) gl (fnP tab) := by
  intro f d a hP e
  obtain ⟨x, ns, d', e1, e2⟩ := fa_name e
  have : d' = d := by unfold fnP at hP; rw [e1] at hP; cases hP; rfl
  subst this
  obtain ⟨r, hr, rfl, hc⟩ := tab_at hchk e1
  obtain ⟨a', o, pm, code, doc, h1, h2, h3, h4⟩ := T.fn r hr
  rw [e2] at h1; cases h1
  simp only [chkRec, Bool.and_eq_true, List.isEmpty_iff, Option.isNone_iff_eq_none, Bool.not_eq_true', beq_iff_eq] at hc
  obtain ⟨⟨⟨⟨⟨⟨⟨⟨⟨c1, c2⟩, c3⟩, c4⟩, c5⟩, c6⟩, c7⟩, c8⟩, c9⟩, c10⟩ := hc
  have hnd : (r.params.args.map (·.arg)).Nodup := by
    have := c9
    simp only [namesOk, Bool.and_eq_true, decide_eq_true_eq] at this
    exact this.1.2.sublist (List.isPrefixOf_iff_prefix.mp this.1.1).sublist
  refine ⟨o, Calls.docDef r.name r.params r.body r.scope pm code doc, r.body, r.params.args.map (fun x : Arg => x.arg), ns, h2, h3, h4, rfl, rfl, c5, c6, c7, fun vals hv => bind_plain c1 c2 c3 c4 rfl hnd hv, c8, c9, c10, ?_⟩
  refine ⟨mg, mb, T.g, T.b, fun f' x' e' => ?_, hgl, fun x' v' hm => ?_⟩
  · unfold fnOf at e'
    cases q : tab.lookup f' with
    | none => rw [q] at e'; cases e'
    | some t =>
      obtain ⟨y, ns', d''⟩ := t
      rw [q] at e'; cases e'
      obtain ⟨r', hr', rfl, _⟩ := tab_at hchk q
      obtain ⟨a'', _, _, _, _, g1, _⟩ := T.fn r' hr'
      refine ⟨a'', ?_, g1⟩
      show mkFa (fnOf tab) mg f' = some a''
      unfold mkFa fnOf
      rw [q]
      simp only [Option.map_some, g1]
  · unfold bltOk at hb
    rw [List.all_eq_true] at hb
    have := hb _ hm
    simp only [Bool.and_eq_true, Bool.not_eq_true', List.contains_eq_mem, decide_eq_false_iff_not, beq_eq_false_iff_ne] at this
    obtain ⟨⟨⟨⟨⟨⟨b1, b2⟩, b3⟩, b4⟩, b5⟩, b6⟩, b7⟩ := this
    refine ⟨T.free x' b1 b2 b3 b4 b5, ?_⟩
    rw [T.builtins x' b6]
    split at b7
    · rename_i q1; simp only [beq_iff_eq] at b7; rw [q1, b7]
    · rename_i q1; simp only [beq_iff_eq] at b7; rw [q1, b7]
    · cases b7

theorem scr_of {P : Params} {a : Addr} {vs : List Value} {is : List Int} {xs : List WData} (W : Well P h (.ref a) (.list xs)) (hl : h.IsList a vs.toArray) (hI : IntsAre vs is) (hz : is.length ≤ line) {ρ : List Addr} {h' : Heap} :
    Rep (topG prog w h tab mg) ρ h' (.scr is) (.ref a) := by
  cases W with
  | @list _ us _ e _ =>
    obtain ⟨o, e', hc, n, hd⟩ := hl
    rw [e] at e'; cases e'
    simp only [Data.seq.injEq] at hd
    have : us = vs := by simpa using hd.1
    subst this
    exact .scr e hI hz

/-- the law's call, from the top -/
theorem law_call (T : Top p loose mean mg mb h) (hi : importsNone p = true) (hchk : tabOk (recsOf p) tab gl = true) (hb : bltOk p loose = true) (hgl : ∀ g x v, gl g = some (x, v) → ∃ u, mg x = some u ∧ ∀ ρ h', h.StaysIn h' → Rep (topG prog w h tab mg) ρ h' v u)
    {s : Shared} (hs : s.heap = h) (hg : s.gens = #[]) {f : Nat} {x : Str} {d : Fn} (hf : fnOf tab f = some x) (hP : fnP tab f = some d) {fa : Addr} (hmg : mg x = some (.ref fa)) (hd : d.args = 1) {is : List Int} {a : Addr}
    (hr : Rep (topG prog w h tab mg) [] h (.scr is) (.ref a)) (hlaw : ∀ K : KT, Closed (fnP tab) K → wpSs K 600 d.body (fin fun v _ => v = .bool true) (fun _ _ => False) (start d [.scr is] [])) {E : Value → Shared → Prop} {Q : Value → Shared → Prop}
    (hQ : ∀ s', (∀ b o, h.get? b = some o → s'.heap.get? b = some o) → s'.os = s.os → s'.gens = #[] → Q (.bool true) s') : wpAny (model prog w) callerA (call (.ref fa) [.ref a]) Q E s := by
  subst hs
  have G : GOk (topG prog w s.heap tab mg) := top_g T hi hchk
  have H : FnsOk (topG prog w s.heap tab mg) (fnOf tab) gl (fnP tab) := top_f T hchk hb hgl
  have hfa : (topG prog w s.heap tab mg).fa f = some fa := by
    show mkFa (fnOf tab) mg f = some fa
    unfold mkFa
    rw [hf]
    simp only [hmg]
  have hH : Hp (topG prog w s.heap tab mg) [] [] s.heap := ⟨fun b o e => e, rfl, List.nodup_nil, fun _ h => (by cases h), fun i o a e => (by simp at e)⟩
  refine wpAny_mono (call_core (C := topG prog w s.heap tab mg) (X := fun _ _ => False) G H hP (vs := [.scr is]) (by rw [hd]; rfl) (hlaw _ (closed G H)) (A := callerA) rfl hH hg (.cons hr .nil) (by show 1 + 300 + 601 ≤ 999; omega) (by show 4 ≤ 3 * 301 + 4; omega) hfa) (fun v s' ⟨ρ', hp', y, st, hH', ry, hq⟩ => ?_) fun _ _ x => x
  subst hq
  cases ry
  exact hQ s' hH'.base st.os (st.gens.trans hg)
theorem post_true (l : OpenLaw) (args ds : List WData) : l.row.toRowW.claim.post args (.bool true) ds = true := by
  show (WShape.has [] (.bool true) .bool && WTm.holds [] (.eq .res (.lit (.bool true))) _) = true
  rw [Bool.and_eq_true]
  have e : same (WData.bool true) (WData.bool true) = true := by decide +kernel
  refine ⟨by decide +kernel, ?_⟩
  unfold WTm.holds
  simp [WTm.value, e]
end
end Mine
end
section
set_option autoImplicit false
namespace Mine
open PySem

/-- 0: all_names -/
noncomputable def fn_all_names : Fn := ⟨1, 1, [.ite (.cmp .eq (.idx (.var 0) (.cst (.int 0))) (.cst (.str [110, 117, 109, 98, 101, 114]))) [.ret (.list [])] [], .ite (.cmp .eq (.idx (.var 0) (.cst (.int 0))) (.cst (.str [110, 97, 109, 101]))) [.ret (.list [.idx (.var 0) (.cst (.int 1))])] [], .ret (.bin .add (.call 0 [.idx (.var 0) (.cst (.int 1))]) (.call 0 [.idx (.var 0) (.cst (.int 2))]))]⟩
/-- 1: names_in -/
noncomputable def fn_names_in : Fn := ⟨1, 1, [.ret (.blt .sortedSet [.call 0 [.var 0]])]⟩
/-- 2: all_right_names -/
noncomputable def fn_all_right_names : Fn := ⟨1, 2, [.ite (.cmp .eq (.blt .len [.var 0]) (.cst (.int 2))) [.ret (.list [])] [], .asg [1] false (.bin .add (.call 2 [.idx (.var 0) (.cst (.int 1))]) (.call 2 [.idx (.var 0) (.cst (.int 2))])), .ite (.cmp .eq (.idx (.var 0) (.cst (.int 0))) (.cst (.str [47]))) [.asg [1] false (.bin .add (.var 1) (.call 0 [.idx (.var 0) (.cst (.int 2))]))] [], .ret (.var 1)]⟩
/-- 3: right_names -/
noncomputable def fn_right_names : Fn := ⟨1, 1, [.ret (.blt .sortedSet [.call 2 [.var 0]])]⟩
/-- 4: divides -/
noncomputable def fn_divides : Fn := ⟨1, 1, [.ite (.cmp .eq (.blt .len [.var 0]) (.cst (.int 2))) [.ret (.cst (.bool false))] [], .ret (.or [.cmp .eq (.idx (.var 0) (.cst (.int 0))) (.cst (.str [47])), .call 4 [.idx (.var 0) (.cst (.int 1))], .call 4 [.idx (.var 0) (.cst (.int 2))]])]⟩
/-- 5: _law_cell_at -/
noncomputable def fn_law_cell_at : Fn := ⟨2, 2, [.ite (.cmp .lt (.var 1) (.blt .len [.var 0])) [.ret (.idx (.var 0) (.var 1))] [], .ret (.cst (.int 0))]⟩
/-- 6: _law_mixed -/
noncomputable def fn_law_mixed : Fn := ⟨1, 1, [.ret (.bin .mod (.bin .add (.bin .mul (.var 0) (.cst (.int 48271))) (.cst (.int 7919))) (.cst (.int 2147483647)))]⟩
/-- 7: _law_name_by -/
noncomputable def fn_law_name_by : Fn := ⟨1, 4, [.asg [1] false (.idx (.cst (.str [97, 98, 99, 100, 101, 102, 103, 104, 105, 106, 107, 108, 109, 110, 111, 112, 113, 114, 115, 116, 117, 118, 119, 120, 121, 122])) (.bin .mod (.bin .fdiv (.var 0) (.cst (.int 8))) (.cst (.int 26)))), .asg [2] false (.var 0), .for_ [3] false .range1 [.bin .mod (.var 0) (.cst (.int 8))] [.asg [2] false (.call 6 [.var 2]), .asg [1] false (.bin .add (.var 1) (.idx (.cst (.str [97, 98, 99, 100, 101, 102, 103, 104, 105, 106, 107, 108, 109, 110, 111, 112, 113, 114, 115, 116, 117, 118, 119, 120, 121, 122, 48, 49, 50, 51, 52, 53, 54, 55, 56, 57])) (.bin .mod (.var 2) (.cst (.int 36)))))], .ite (.cmp .inn (.var 1) (.list [.cst (.str [115, 101, 116]), .cst (.str [116, 101, 108, 108]), .cst (.str [115, 107, 105, 112]), .cst (.str [105, 102]), .cst (.str [101, 108, 115, 101]), .cst (.str [119, 104, 105, 108, 101]), .cst (.str [101, 110, 100])])) [.ret (.bin .add (.var 1) (.cst (.str [48])))] [], .ret (.var 1)]⟩
/-- 8: _law_twin -/
noncomputable def fn_law_twin : Fn := ⟨2, 6, [.asg [2] false (.cst (.str [97, 98, 99, 100, 101, 102, 103, 104, 105, 106, 107, 108, 109, 110, 111, 112, 113, 114, 115, 116, 117, 118, 119, 120, 121, 122])), .asg [3] false (.bin .mod (.var 1) (.blt .len [.var 0])), .ite (.cmp .gt (.var 3) (.cst (.int 0))) [.asg [2] false (.bin .add (.var 2) (.cst (.str [48, 49, 50, 51, 52, 53, 54, 55, 56, 57])))] [], .asg [4] false (.bin .add (.bin .add (.mth .find (.var 2) [.idx (.var 0) (.var 3)]) (.cst (.int 1))) (.bin .mod (.bin .fdiv (.var 1) (.cst (.int 8))) (.bin .sub (.blt .len [.var 2]) (.cst (.int 1))))), .asg [5] false (.bin .add (.bin .add (.sl (.var 0) none (some (.var 3))) (.idx (.var 2) (.bin .mod (.var 4) (.blt .len [.var 2])))) (.sl (.var 0) (some (.bin .add (.var 3) (.cst (.int 1)))) none)), .ite (.cmp .inn (.var 5) (.list [.cst (.str [115, 101, 116]), .cst (.str [116, 101, 108, 108]), .cst (.str [115, 107, 105, 112]), .cst (.str [105, 102]), .cst (.str [101, 108, 115, 101]), .cst (.str [119, 104, 105, 108, 101]), .cst (.str [101, 110, 100])])) [.ret (.bin .add (.var 5) (.cst (.str [48])))] [], .ret (.var 5)]⟩
/-- 9: _law_names -/
noncomputable def fn_law_names : Fn := ⟨2, 5, [.asg [2] false (.list []), .for_ [3] false .range1 [.cst (.int 10)] [.asg [0] false (.call 6 [.var 0]), .asg [4] false (.call 7 [.bin .fdiv (.var 0) (.cst (.int 5))]), .ite (.and [.cmp .eq (.bin .mod (.var 3) (.cst (.int 2))) (.cst (.int 1)), .cmp .eq (.bin .mod (.bin .fdiv (.var 1) (.cst (.int 4))) (.cst (.int 2))) (.cst (.int 1))]) [.asg [4] false (.call 8 [.idx (.var 2) (.bin .sub (.var 3) (.cst (.int 1))), .call 6 [.bin .add (.var 1) (.var 3)]])] [], .while_ (.or [.cmp .inn (.var 4) (.var 2), .cmp .inn (.var 4) (.list [.cst (.str [115, 101, 116]), .cst (.str [116, 101, 108, 108]), .cst (.str [115, 107, 105, 112]), .cst (.str [105, 102]), .cst (.str [101, 108, 115, 101]), .cst (.str [119, 104, 105, 108, 101]), .cst (.str [101, 110, 100])])]) [.asg [4] false (.bin .add (.sl (.var 4) none (some (.cst (.int 7)))) (.idx (.cst (.str [97, 98, 99, 100, 101, 102, 103, 104, 105, 106, 107, 108, 109, 110, 111, 112, 113, 114, 115, 116, 117, 118, 119, 120, 121, 122])) (.bin .mod (.bin .add (.bin .add (.var 1) (.blt .len [.var 4])) (.var 3)) (.cst (.int 26))))), .asg [1] false (.bin .add (.var 1) (.cst (.int 5)))], .expr (.mth .append (.var 2) [.var 4])], .ret (.var 2)]⟩
/-- 10: _law_end_by -/
noncomputable def fn_law_end_by : Fn := ⟨2, 2, [.ite (.and [.cmp .ne (.var 1) (.list []), .cmp .gt (.bin .mod (.var 0) (.cst (.int 3))) (.cst (.int 0))]) [.ret (.tup [.cst (.str [110, 97, 109, 101]), .idx (.var 1) (.bin .mod (.bin .fdiv (.var 0) (.cst (.int 3))) (.blt .len [.var 1]))])] [], .ite (.cmp .eq (.bin .mod (.bin .fdiv (.var 0) (.cst (.int 3))) (.cst (.int 4))) (.cst (.int 0))) [.ret (.tup [.cst (.str [110, 117, 109, 98, 101, 114]), .bin .mod (.bin .fdiv (.var 0) (.cst (.int 12))) (.bin .pow (.cst (.int 10)) (.cst (.int 6)))])] [], .ret (.tup [.cst (.str [110, 117, 109, 98, 101, 114]), .bin .mod (.bin .fdiv (.var 0) (.cst (.int 12))) (.cst (.int 5))])]⟩
/-- 11: _law_formula_by -/
noncomputable def fn_law_formula_by : Fn := ⟨5, 7, [.asg [0] false (.call 6 [.var 0]), .ite (.or [.cmp .eq (.var 4) (.cst (.int 1)), .cmp .lt (.bin .mod (.var 0) (.cst (.int 8))) (.cst (.int 3))]) [.ret (.call 10 [.bin .fdiv (.var 0) (.cst (.int 8)), .var 1])] [], .asg [5] false (.idx (.list [.cst (.str [43]), .cst (.str [45]), .cst (.str [42]), .cst (.str [60]), .cst (.str [61]), .cst (.str [43]), .cst (.str [45]), .cst (.str [60]), .cst (.str [47]), .cst (.str [47])]) (.bin .mod (.bin .fdiv (.var 0) (.cst (.int 8))) (.idx (.list [.cst (.int 8), .cst (.int 10)]) (.blt .int [.var 3])))), .asg [6] false (.call 11 [.bin .add (.bin .mul (.var 0) (.cst (.int 3))) (.cst (.int 1)), .var 1, .var 2, .var 3, .bin .sub (.var 4) (.cst (.int 1))]), .ite (.and [.cmp .eq (.var 5) (.cst (.str [47])), .cmp .lt (.bin .mod (.bin .fdiv (.var 0) (.cst (.int 80))) (.cst (.int 4))) (.cst (.int 3))]) [.ret (.tup [.var 5, .var 6, .tup [.cst (.str [110, 117, 109, 98, 101, 114]), .bin .add (.cst (.int 1)) (.bin .mod (.bin .fdiv (.var 0) (.cst (.int 320))) (.cst (.int 9)))]])] [], .ite (.cmp .eq (.var 5) (.cst (.str [47]))) [.ret (.tup [.var 5, .var 6, .call 11 [.bin .add (.bin .mul (.var 0) (.cst (.int 5))) (.cst (.int 2)), .var 2, .var 2, .var 3, .bin .sub (.var 4) (.cst (.int 1))]])] [], .ret (.tup [.var 5, .var 6, .call 11 [.bin .add (.bin .mul (.var 0) (.cst (.int 5))) (.cst (.int 2)), .var 1, .var 2, .var 3, .bin .sub (.var 4) (.cst (.int 1))]])]⟩
/-- 12: _law_deep_formula -/
noncomputable def fn_law_deep_formula : Fn := ⟨2, 7, [.ite (.cmp .ne (.bin .mod (.var 0) (.cst (.int 8))) (.cst (.int 1))) [.ret (.call 11 [.var 0, .var 1, .var 1, .cst (.bool true), .bin .add (.cst (.int 1)) (.bin .mod (.bin .fdiv (.var 0) (.cst (.int 8))) (.cst (.int 5)))])] [], .asg [2] false (.call 10 [.var 0, .var 1]), .asg [3] false (.var 0), .for_ [4] false .range1 [.bin .add (.cst (.int 1)) (.bin .mod (.bin .fdiv (.var 0) (.cst (.int 8))) (.cst (.int 11)))] [.asg [3] false (.call 6 [.var 3]), .asg [5] false (.call 10 [.bin .fdiv (.var 3) (.cst (.int 16)), .var 1]), .asg [6] false (.idx (.list [.cst (.str [43]), .cst (.str [45]), .cst (.str [42]), .cst (.str [47]), .cst (.str [60]), .cst (.str [61])]) (.bin .mod (.var 3) (.cst (.int 6)))), .asg [2] false (.idx (.list [.tup [.var 6, .var 2, .var 5], .tup [.var 6, .var 5, .var 2]]) (.bin .mod (.bin .fdiv (.var 3) (.cst (.int 6))) (.cst (.int 2))))], .ret (.var 2)]⟩
/-- 13: _law_names_of -/
noncomputable def fn_law_names_of : Fn := ⟨2, 3, [.ite (.or [.cmp .eq (.idx (.var 0) (.cst (.int 0))) (.cst (.str [110, 117, 109, 98, 101, 114])), .and [.cmp .eq (.idx (.var 0) (.cst (.int 0))) (.cst (.str [110, 97, 109, 101])), .not (.var 1)]]) [.ret (.list [])] [], .ite (.cmp .eq (.idx (.var 0) (.cst (.int 0))) (.cst (.str [110, 97, 109, 101]))) [.ret (.list [.idx (.var 0) (.cst (.int 1))])] [], .asg [2] false (.or [.var 1, .cmp .eq (.idx (.var 0) (.cst (.int 0))) (.cst (.str [47]))]), .ret (.bin .add (.call 13 [.idx (.var 0) (.cst (.int 1)), .var 1]) (.call 13 [.idx (.var 0) (.cst (.int 2)), .var 2]))]⟩
/-- 14: _law_divides -/
noncomputable def fn_law_divides : Fn := ⟨1, 1, [.ite (.cmp .eq (.blt .len [.var 0]) (.cst (.int 2))) [.ret (.cst (.bool false))] [], .ret (.or [.cmp .eq (.idx (.var 0) (.cst (.int 0))) (.cst (.str [47])), .call 14 [.idx (.var 0) (.cst (.int 1))], .call 14 [.idx (.var 0) (.cst (.int 2))]])]⟩
/-- 15: _law_asked -/
noncomputable def fn_law_asked : Fn := ⟨1, 6, [.asg [1] false (.list [.call 1 [.var 0], .call 3 [.var 0]]), .asg [2] false (.comp (.blt .sortedSet [.call 13 [.var 0, .var 4]]) [4] false .val [.list [.cst (.bool true), .cst (.bool false)]] []), .ite (.or [.cmp .ne (.comp (.isi (.var 5) [.list]) [5] false .val [.var 1] []) (.list [.cst (.bool true), .cst (.bool true)]), .cmp .ne (.var 1) (.var 2)]) [.ret (.cst .none)] [], .asg [3] false (.call 4 [.var 0]), .ite (.or [.not (.isi (.var 3) [.bool]), .cmp .ne (.var 3) (.call 14 [.var 0])]) [.ret (.cst .none)] [], .ret (.var 1)]⟩
/-- 16: law -/
noncomputable def fn_law : Fn := ⟨1, 7, [.asg [1] false (.call 9 [.call 5 [.var 0, .cst (.int 0)], .call 5 [.var 0, .cst (.int 1)]]), .asg [2] false (.call 12 [.call 5 [.var 0, .cst (.int 2)], .var 1]), .asg [3] false (.call 12 [.call 6 [.call 5 [.var 0, .cst (.int 3)]], .var 1]), .asg [4] false (.call 15 [.var 2]), .ite (.isN true (.var 4)) [.ret (.cst (.bool false))] [], .asg [5] false (.comp (.blt .list [.var 6]) [6] false .val [.var 4] []), .ite (.or [.isN true (.call 15 [.var 3]), .cmp .ne (.var 4) (.var 5)]) [.ret (.cst (.bool false))] [], .expr (.mth .append (.idx (.var 4) (.cst (.int 0))) [.cst (.str [122, 122])]), .expr (.mth .append (.idx (.var 4) (.cst (.int 1))) [.cst (.str [122, 122])]), .ret (.and [.isN false (.call 15 [.var 2]), .cmp .eq (.var 4) (.list [.bin .add (.idx (.var 5) (.cst (.int 0))) (.list [.cst (.str [122, 122])]), .bin .add (.idx (.var 5) (.cst (.int 1))) (.list [.cst (.str [122, 122])])])])]⟩

noncomputable def gl : Nat → Option (Str × MV)
  | _ => none

noncomputable def tab : Tab := [(0, "all_names", ["formula"], fn_all_names),
  (1, "names_in", ["formula"], fn_names_in),
  (2, "all_right_names", ["formula", "found"], fn_all_right_names),
  (3, "right_names", ["formula"], fn_right_names),
  (4, "divides", ["formula"], fn_divides),
  (5, "_law_cell_at", ["_law_script", "_law_k"], fn_law_cell_at),
  (6, "_law_mixed", ["_law_number"], fn_law_mixed),
  (7, "_law_name_by", ["_law_cell", "_law_found", "_law_number", "_law_k"], fn_law_name_by),
  (8, "_law_twin", ["_law_name", "_law_cell", "_law_some", "_law_at", "_law_step", "_law_found"], fn_law_twin),
  (9, "_law_names", ["_law_one", "_law_other", "_law_names_here", "_law_k", "_law_name"], fn_law_names),
  (10, "_law_end_by", ["_law_number", "_law_names_here"], fn_law_end_by),
  (11, "_law_formula_by", ["_law_number", "_law_names_here", "_law_low", "_law_divide", "_law_left", "_law_sign", "_law_one"], fn_law_formula_by),
  (12, "_law_deep_formula", ["_law_cell", "_law_names_here", "_law_found", "_law_number", "_law_k", "_law_other", "_law_sign"], fn_law_deep_formula),
  (13, "_law_names_of", ["_law_formula", "_law_right", "_law_behind"], fn_law_names_of),
  (14, "_law_divides", ["_law_formula"], fn_law_divides),
  (15, "_law_asked", ["_law_formula", "_law_told", "_law_due", "_law_found"], fn_law_asked),
  (16, "law", ["_law_script", "_law_names_here", "_law_one", "_law_other", "_law_told", "_law_held"], fn_law)]
end Mine
end
section
set_option autoImplicit false
namespace Mine

theorem forL_inv {g : Option (Nat × List MV)} {step : MV → (Fl → MS → Prop) → MS → Prop} {Q : Fl → MS → Prop} (I : Nat → MS → Prop) (Rt : MV → MS → Prop) {items : List MV} {m : MS} (h0 : I 0 m) (hg : ∀ i m, I i m → guardOk g m.heap)
    (hstep : ∀ i x m (P : Fl → MS → Prop), items[i]? = some x → I i m → (∀ m', I (i + 1) m' → P .next m') → (∀ m', I (i + 1) m' → P .cont m') → (∀ r m', Rt r m' → P (.ret r) m') → step x P m)
    (hend : ∀ m, I items.length m → Q .next m) (hret : ∀ r m, Rt r m → Q (.ret r) m) : forL g step Q items m := by
  have key : ∀ (l : List MV) (i : Nat) (m : MS), i + l.length = items.length → items.drop i = l → I i m → forL g step Q l m := by
    intro l
    induction l with
    | nil =>
      intro i m hl e hI
      have hl : i = items.length := hl
      subst hl
      rw [forL_nil]
      exact ⟨hg _ m hI, hend m hI⟩
    | cons x l ih =>
      intro i m hl e hI
      have hlt : i < items.length := by simp only [List.length_cons] at hl; omega
      have e' := List.drop_eq_getElem_cons hlt
      rw [e] at e'
      simp only [List.cons.injEq] at e'
      rw [forL_cons]
      refine ⟨hg i m hI, hstep i x m _ (by rw [List.getElem?_eq_getElem hlt, e'.1]) hI (fun m' h' => ?_) (fun m' h' => ?_) fun r m' h' => hret r m' h'⟩
      · exact ih (i + 1) m' (by simp only [List.length_cons] at hl; omega) e'.2.symm h'
      · exact ih (i + 1) m' (by simp only [List.length_cons] at hl; omega) e'.2.symm h'
  exact key items 0 m (by simp) (by simp) h0

theorem while_inv {c : (Bool → MS → Prop) → MS → Prop} {b : (Fl → MS → Prop) → MS → Prop} {Q : Fl → MS → Prop} (I : Nat → MS → Prop) (hno : ∀ m, ¬ I 0 m)
    (hturn : ∀ k m (W : MS → Prop), I (k + 1) m → (∀ m', I k m' → W m') → c (fun t m => match t with
      | true => b (fun f m => match f with
        | .next => W m
        | .cont => W m
        | .brk => Q .next m
        | .ret r => Q (.ret r) m) m
      | false => Q .next m) m) : ∀ (k : Nat) (m : MS), I k m → whileN c b Q k m
  | 0, m, h => (hno m h).elim
  | k + 1, m, h => by
    rw [whileN_succ]
    exact hturn k m (fun m => whileN c b Q k m) h fun m' h' => while_inv I hno hturn k m' h'

/-! heaps that only grow -/
noncomputable abbrev Hpp := List MO
theorem pre_push {h hp : List MO} {o : MO} (x : h <+: hp) : h <+: hp ++ [o] := x.trans (List.prefix_append _ _)
theorem pre_self (h : List MO) : h <+: h := List.prefix_refl _
theorem pre_at {h hp : List MO} (x : h <+: hp) {i : Nat} {o : MO} (e : h[i]? = some o) : hp[i]? = some o := by
  obtain ⟨t, rfl⟩ := x
  rw [List.getElem?_append_left (List.getElem?_eq_some_iff.mp e).1]; exact e
theorem pre_set {h hp : List MO} (x : h <+: hp) {i : Nat} {o : MO} (e : h.length ≤ i) : h <+: hp.set i o := by
  obtain ⟨t, rfl⟩ := x
  rw [List.set_append_right _ _ e]
  exact List.prefix_append _ _
theorem get_last {α : Type} (h : List α) (o : α) : (h ++ [o])[h.length]? = some o := by simp
theorem get_old {α : Type} {h : List α} {o o' : α} {i : Nat} (e : h[i]? = some o) : (h ++ [o'])[i]? = some o := by
  rw [List.getElem?_append_left (List.getElem?_eq_some_iff.mp e).1]; exact e
theorem get_set {α : Type} {h : List α} {o o' : α} {i : Nat} (e : h[i]? = some o) : (h.set i o')[i]? = some o' := by
  have := (List.getElem?_eq_some_iff.mp e).1
  simp [this]

theorem get_push {m : MS} {o : MO} : (m.push o).heap[m.heap.length]? = some o := get_last _ _
theorem get_push_old {m : MS} {o o' : MO} {i : Nat} (e : m.heap[i]? = some o) : (m.push o').heap[i]? = some o := get_old e
theorem get_push2 {m : MS} {o o' : MO} : ((m.push o).push o').heap[m.heap.length]? = some o := get_old (get_last _ _)
theorem get_put {m : MS} {o o' : MO} {i : Nat} (e : m.heap[i]? = some o) : (m.put i o').heap[i]? = some o' := get_set e

theorem iter_range1 {k : Int} {hp : List MO} (h1 : -16777216 ≤ k) (h2 : k ≤ 16777216) : iterOf .range1 [.int k] hp = some ((List.range k.toNat).map (fun (i : Nat) => .int i), none) := by
  unfold iterOf
  simp only [decide_eq_true h1, decide_eq_true h2]
theorem iter_list {r : Nat} {xs : List MV} {hp : List MO} (e : hp[r]? = some (.list xs)) : iterOf .val [.ref r] hp = some (xs, some (r, xs)) := by
  unfold iterOf
  simp only [e]
theorem iter_enum {r : Nat} {xs : List MV} {hp : List MO} (e : hp[r]? = some (.list xs)) : iterOf .enum [.ref r] hp = some (xs.zipIdx.map (fun p => .tup [.int p.2, p.1]), some (r, xs)) := by
  unfold iterOf
  simp only [e]
theorem range_at {k i : Nat} {x : MV} (e : ((List.range k).map (fun (i : Nat) => MV.int i))[i]? = some x) : i < k ∧ x = .int i := by
  simp only [List.getElem?_map, Option.map_eq_some_iff] at e
  obtain ⟨j, h1, h2⟩ := e
  obtain ⟨h3, h4⟩ := List.getElem?_eq_some_iff.mp h1
  simp at h3 h4; subst h4
  exact ⟨h3, h2.symm⟩
theorem range_len (k : Nat) : ((List.range k).map (fun (i : Nat) => MV.int i)).length = k := by simp
theorem enum_at {xs : List MV} {i : Nat} {x : MV} (e : (xs.zipIdx.map (fun p => MV.tup [.int p.2, p.1]))[i]? = some x) : ∃ y, xs[i]? = some y ∧ x = .tup [.int i, y] := by
  simp only [List.getElem?_map, Option.map_eq_some_iff] at e
  obtain ⟨⟨y, j⟩, hj, rfl⟩ := e
  rw [List.getElem?_zipIdx] at hj
  simp only [Option.map_eq_some_iff, Nat.zero_add] at hj
  obtain ⟨y', hy, hj⟩ := hj
  cases hj
  exact ⟨y, hy, rfl⟩
theorem enum_len (xs : List MV) : (xs.zipIdx.map (fun p => MV.tup [.int p.2, p.1])).length = xs.length := by simp

theorem ok_append {hp : List MO} {r : Nat} {xs : List MV} (e : hp[r]? = some (.list xs)) : mthOk .append (.ref r) hp = true := by
  unfold mthOk; simp only [e]

noncomputable def b2n : Bool → Nat
  | true => 1
  | false => 0
noncomputable def sel {α : Type} (d : Bool) (a b : α) : α := match d with
  | true => b
  | false => a
theorem pidx_b2i {α : Type} {a b : α} {d : Bool} : pidx (b2i d) [a, b].length = some (b2n d) := by cases d <;> rfl
theorem get_b2n {α : Type} {a b : α} {d : Bool} : [a, b][b2n d]? = some (sel d a b) := by cases d <;> rfl

/-! texts -/
noncomputable def okS (s : List Nat) : Prop := ∀ c ∈ s, c < 55296
theorem okS.d {s : List Nat} (h : okS s) : D.ok (.str s) = true := by
  simp only [D.ok, List.all_eq_true, decide_eq_true_eq]; exact h
theorem oks_strs : ∀ {ss : List (List Nat)}, (∀ s ∈ ss, okS s) → D.oks (ss.map .str) = true
  | [], _ => rfl
  | s :: ss, h => by
    simp only [List.map_cons, D.oks, Bool.and_eq_true]
    exact ⟨(h s (List.mem_cons_self ..)).d, oks_strs fun t ht => h t (List.mem_cons_of_mem _ ht)⟩
theorem rds_strs {hp : List MO} : ∀ (ss : List (List Nat)), Rds hp (ss.map .str) (ss.map .str)
  | [] => .nil
  | s :: ss => .cons (.str s) (rds_strs ss)
theorem in_strs {hp : List MO} {x : List Nat} {ss : List (List Nat)} {Q : Bool → Prop} (hx : okS x) (hs : ∀ s ∈ ss, okS s) (h : Q (ss.contains x)) : InP hp (.str x) (ss.map .str) Q := by
  refine .mk (.str x) (ss.map .str) (.str x) (rds_strs ss) (Nat.zero_le _) hx.d (oks_strs hs) ?_
  have e : (ss.map D.str).any (fun e => e.deq (.str x)) = ss.contains x := by
    rw [List.any_map, Bool.eq_iff_iff]
    simp only [List.any_eq_true, Function.comp, D.deq, beq_iff_eq, List.contains_iff_mem]
    exact ⟨fun ⟨y, h1, h2⟩ => h2 ▸ h1, fun h => ⟨x, h, rfl⟩⟩
  rw [e]; exact h

theorem pidx_nat {k : Int} {n : Nat} (h0 : 0 ≤ k) (h1 : k < n) : pidx k n = some k.toNat := by
  unfold pidx
  rw [decide_eq_true h0, decide_eq_true h1]
theorem get_some {α : Type} {xs : List α} {i : Nat} (h : i < xs.length) : xs[i]? = some xs[i] := List.getElem?_eq_getElem h

theorem pend_nat {k : Int} {n : Nat} (h : 0 ≤ k) : pend k n = min k.toNat n := by
  unfold pend; rw [decide_eq_true h]
theorem pslice_to {α : Type} {xs : List α} {k : Int} (h : 0 ≤ k) : pslice xs none (some k) = xs.take k.toNat := by
  unfold pslice
  simp only [pend_nat h, List.drop_zero]
  rw [← List.take_eq_take_min]
theorem pslice_from {α : Type} {xs : List α} {k : Int} (h : 0 ≤ k) : pslice xs (some k) none = xs.drop k.toNat := by
  unfold pslice
  simp only [pend_nat h, List.take_length]
  rcases Nat.le_total k.toNat xs.length with q | q
  · rw [Nat.min_eq_left q]
  · rw [Nat.min_eq_right q, List.drop_length, List.drop_eq_nil_of_le q]

theorem le_line {n : Nat} (h : n ≤ 1000000) : n ≤ line := by unfold line; omega
theorem pigeon : ∀ (l t : List (List Nat)), l.Nodup → (∀ x ∈ l, x ∈ t) → l.length ≤ t.length
  | [], _, _, _ => Nat.zero_le _
  | a :: l, t, hn, hs => by
    rw [List.nodup_cons] at hn
    have ha : a ∈ t := hs a (List.mem_cons_self ..)
    have := pigeon l (t.erase a) hn.2 fun x hx => by
      have hne : x ≠ a := fun q => hn.1 (q ▸ hx)
      exact (List.mem_erase_of_ne hne).mpr (hs x (List.mem_cons_of_mem _ hx))
    rw [List.length_erase_of_mem ha] at this
    have := List.length_pos_of_mem ha
    simp only [List.length_cons]; omega
end Mine
end
section
set_option autoImplicit false
namespace Mine
variable {K : KT} (hK : Closed (fnP tab) K)
noncomputable def mix (x : Int) : Int := (x * 48271 + 7919) % 2147483647
theorem mix_pos (x : Int) : 0 ≤ mix x ∧ mix x < 2147483647 := by unfold mix; omega
noncomputable def cell (is : List Int) (k : Int) : Int := match is[k.toNat]? with
  | some v => v
  | none => 0
/-- a name -/
noncomputable def Nm (s : List Nat) : Prop := s ≠ [] ∧ s.length ≤ 8 ∧ ∀ c ∈ s, c < 128
theorem Nm.ok {s : List Nat} (h : Nm s) : okS s := fun c hc => Nat.lt_trans (h.2.2 c hc) (by decide)
noncomputable def kws : List (List Nat) := [[115, 101, 116], [116, 101, 108, 108], [115, 107, 105, 112], [105, 102], [101, 108, 115, 101], [119, 104, 105, 108, 101], [101, 110, 100]]
theorem kws_ok : ∀ s ∈ kws, okS s := by unfold okS kws; decide
theorem kws_len : ∀ s ∈ kws, s.length ≤ 5 := by unfold kws; decide
noncomputable abbrev abc : List Nat := [97, 98, 99, 100, 101, 102, 103, 104, 105, 106, 107, 108, 109, 110, 111, 112, 113, 114, 115, 116, 117, 118, 119, 120, 121, 122]
noncomputable abbrev abc36 : List Nat := [97, 98, 99, 100, 101, 102, 103, 104, 105, 106, 107, 108, 109, 110, 111, 112, 113, 114, 115, 116, 117, 118, 119, 120, 121, 122, 48, 49, 50, 51, 52, 53, 54, 55, 56, 57]
theorem abc_lt : ∀ c ∈ abc, c < 128 := by decide
theorem abc36_lt : ∀ c ∈ abc36, c < 128 := by decide
include hK
theorem k_mixed {n : Nat} {x : Int} {Q : MV → List MO → Prop} {X : XT} {h : List MO} (hq : Q (.int (mix x)) h) : K (n + 1) 6 [.int x] Q X h := by
  refine hK _ _ _ _ _ _ fn_law_mixed rfl rfl ?_
  conv => whnf
  refine ⟨.inr (by unfold small; decide), ?_⟩
  conv => whnf
  exact ⟨by decide, hq⟩
theorem k_cell {n : Nat} {is : List Int} {k : Int} (hk : 0 ≤ k) {Q : MV → List MO → Prop} {X : XT} {h : List MO} (hq : Q (.int (cell is k)) h) : K (n + 1) 5 [.scr is, .int k] Q X h := by
  refine hK _ _ _ _ _ _ fn_law_cell_at rfl rfl ?_
  conv => whnf
  unfold cell at hq
  by_cases hlt : k < is.length
  · rw [decide_eq_true hlt]
    conv => whnf
    rw [pidx_nat hk hlt]
    dsimp only
    rw [get_some (by omega)] at hq ⊢
    exact hq
  · rw [decide_eq_false hlt]
    rw [List.getElem?_eq_none (by omega)] at hq
    exact hq
theorem kw_end {n : Nat} {s : List Nat} {Q : MV → List MO → Prop} {X : XM} {m : MS} (v : Nat) (hv : m.get v = some (.str s)) (hs : Nm s) (hq : ∀ s' h', Nm s' → m.heap <+: h' → Q (.str s') h') :
    wpSs K n [.ite (.cmp .inn (.var v) (.list [.cst (.str [115, 101, 116]), .cst (.str [116, 101, 108, 108]), .cst (.str [115, 107, 105, 112]), .cst (.str [105, 102]), .cst (.str [101, 108, 115, 101]), .cst (.str [119, 104, 105, 108, 101]), .cst (.str [101, 110, 100])])) [.ret (.bin .add (.var v) (.cst (.str [48])))] [], .ret (.var v)] (fin Q) X m := by
  have e : ∀ {Q : PQ} {X : XM} {m' : MS}, m'.vars = m.vars → Q (.str s) m' → wpE K n (.var v) Q X m' := fun {Q X m'} e h => by
    unfold wpE
    have : m'.get v = some (.str s) := by rw [← hv]; unfold MS.get; rw [e]
    rw [this]; exact h
  unfold wpSs wpS wpE
  refine e (X := X) rfl ?_
  conv => whnf
  rw [get_push]
  show InP _ _ (kws.map .str) _
  refine in_strs hs.ok kws_ok ?_
  cases hc : kws.contains s with
  | true =>
    unfold wpSs wpS wpE
    refine e (X := X) rfl ?_
    conv => whnf
    have hl := kws_len s (by simpa using hc)
    refine ⟨by show s.length + 1 ≤ 2 ^ 24; omega, hq _ _ ⟨by simp, by simp; omega, ?_⟩ (pre_push (pre_self _))⟩
    intro c hc
    rcases List.mem_append.mp hc with h | h
    · exact hs.2.2 c h
    · simp at h; omega
  | false =>
    show wpSs K n [.ret (.var v)] _ X _
    unfold wpSs wpS
    refine e (X := X) rfl ?_
    exact hq s _ hs (pre_push (pre_self _))
theorem k_name_by {n : Nat} {x : Int} {Q : MV → List MO → Prop} {X : XT} {h : List MO} (hq : ∀ s h', Nm s → h <+: h' → Q (.str s) h') : K (n + 2) 7 [.int x] Q X h := by
  refine hK _ _ _ _ _ _ fn_law_name_by rfl rfl ?_
  conv => whnf
  refine ⟨by decide, ?_⟩
  conv => whnf
  refine ⟨by decide, ?_⟩
  conv => whnf
  rw [pidx_nat (by omega) (by show (_ : Int) < 26; omega)]
  dsimp only
  rw [get_some (by show _ < 26; omega)]
  conv => whnf
  refine ⟨by decide, ?_⟩
  conv => whnf
  rw [iter_range1 (by omega) (by omega)]
  dsimp only
  refine forL_inv (fun i m => ∃ s z w, m = ⟨[some (.int x), some (.str s), some (.int z), w], h⟩ ∧ s.length = i + 1 ∧ (∀ c ∈ s, c < 128)) (fun _ _ => False) ⟨_, _, _, rfl, rfl, ?_⟩ (fun _ _ _ => trivial) (fun i y m P hy hI hn _ _ => ?_) (fun m hI => ?_) (fun _ _ h => h.elim)
  · intro c hc
    simp only [List.mem_singleton] at hc; subst hc; exact abc_lt _ (List.getElem_mem _)
  · obtain ⟨hi, rfl⟩ := range_at hy
    obtain ⟨s, z, w, rfl, hl, hc⟩ := hI
    conv => whnf
    refine k_mixed hK ?_
    conv => whnf
    refine ⟨by decide, ?_⟩
    conv => whnf
    rw [pidx_nat (by omega) (by show (_ : Int) < 36; omega)]
    dsimp only
    rw [get_some (by show _ < 36; omega)]
    conv => whnf
    refine ⟨by show s.length + 1 ≤ 2 ^ 24; omega, ?_⟩
    refine hn _ ⟨_, _, _, rfl, by simp; omega, ?_⟩
    intro c h
    rcases List.mem_append.mp h with h | h
    · exact hc c h
    · simp only [List.mem_singleton] at h; subst h; exact abc36_lt _ (List.getElem_mem _)
  · obtain ⟨s, z, w, rfl, hl, hc⟩ := hI
    rw [range_len] at hl
    exact kw_end hK 1 rfl ⟨fun q => by rw [q] at hl; simp at hl, by omega, hc⟩ hq
end Mine
end
section
set_option autoImplicit false
namespace Mine
variable {K : KT} (hK : Closed (fnP tab) K)
include hK
theorem twin_rest {n : Nat} {s so : List Nat} {c a : Int} {Q : MV → List MO → Prop} {X : XM} {h : List MO} (hs : Nm s) (ha : 0 ≤ a) (hb : a < s.length) (h1 : 2 ≤ so.length) (h2 : so.length ≤ 36) (h3 : ∀ c ∈ so, c < 128) (hq : ∀ s' h', Nm s' → h <+: h' → Q (.str s') h') :
    wpSs K n (fn_law_twin.body.drop 3) (fin Q) X ⟨[some (.str s), some (.int c), some (.str so), some (.int a), none, none], h⟩ := by
  conv => whnf
  rw [pidx_nat ha hb]
  dsimp only
  rw [get_some (by omega)]
  conv => whnf
  intro k hk
  conv => whnf
  refine ⟨by decide, ?_⟩
  conv => whnf
  refine ⟨by omega, ?_⟩
  conv => whnf
  refine ⟨by omega, ?_⟩
  conv => whnf
  have hm : ∀ x : Int, 0 ≤ x % so.length ∧ x % so.length < so.length := fun x => ⟨Int.emod_nonneg _ (by omega), Int.emod_lt_of_pos _ (by omega)⟩
  rw [pidx_nat (hm _).1 (hm _).2]
  dsimp only
  rw [get_some (by have := hm (k + 1 + c / 8 % (so.length - 1)); omega)]
  conv => whnf
  have hlen := hs.2.1
  rw [pslice_to ha]
  refine ⟨le_line (by rw [List.length_take]; show _ + 1 ≤ _; omega), ?_⟩
  conv => whnf
  rw [pslice_from (by omega)]
  refine ⟨le_line (by rw [List.length_append, List.length_take, List.length_drop]; show _ + 1 + _ ≤ _; omega), ?_⟩
  refine kw_end hK 5 rfl ⟨by simp, ?_, ?_⟩ hq
  · rw [List.length_append, List.length_append, List.length_take, List.length_drop]; show _ + 1 + _ ≤ _; omega
  · intro c hc
    rcases List.mem_append.mp hc with h | h
    · rcases List.mem_append.mp h with h | h
      · exact hs.2.2 c (List.mem_of_mem_take h)
      · simp only [List.mem_singleton] at h; subst h; exact h3 _ (List.getElem_mem _)
    · exact hs.2.2 c (List.mem_of_mem_drop h)

theorem k_twin {n : Nat} {s : List Nat} {c : Int} {Q : MV → List MO → Prop} {X : XT} {h : List MO} (hs : Nm s) (hq : ∀ s' h', Nm s' → h <+: h' → Q (.str s') h') : K (n + 1) 8 [.str s, .int c] Q X h := by
  refine hK _ _ _ _ _ _ fn_law_twin rfl rfl ?_
  have hp : 0 < s.length := List.length_pos_iff.mpr hs.1
  conv => whnf
  refine ⟨by omega, ?_⟩
  conv => whnf
  have h0 : 0 ≤ c % (s.length : Int) := Int.emod_nonneg _ (by omega)
  have h1 : c % (s.length : Int) < s.length := Int.emod_lt_of_pos _ (by omega)
  by_cases q : 0 < c % (s.length : Int)
  · rw [decide_eq_true q]
    conv => whnf
    refine ⟨le_line (by decide), ?_⟩
    exact twin_rest hK (so := abc36) hs h0 h1 (by decide) (by decide) abc36_lt hq
  · rw [decide_eq_false q]
    exact twin_rest hK (so := abc) hs h0 h1 (by decide) (by decide) abc_lt hq
end Mine
end
section
set_option autoImplicit false
namespace Mine

noncomputable def lt26 (x : Int) : Nat := 97 + (x % 26).toNat
theorem abc_at (x : Int) : abc[(x % 26).toNat]? = some (lt26 x) := by
  have h : ∀ i, i < 26 → abc[i]? = some (97 + i) := by decide
  exact h _ (by omega)
theorem lt26_lt (x : Int) : lt26 x < 128 := by unfold lt26; omega
noncomputable def cand (p : List Nat) (o : Int) (j : Nat) : List Nat := p ++ [lt26 (o + 5 * j)]
theorem cand_ne {p : List Nat} {o : Int} {i j : Nat} (h : i < j) (hj : j ≤ 9) : cand p o i ≠ cand p o j := fun e => by
  unfold cand at e
  have := List.append_cancel_left e
  simp only [List.cons.injEq, and_true] at this
  unfold lt26 at this
  omega
theorem cand_in {p : List Nat} {o : Int} {ss : List (List Nat)} (hl : ss.length ≤ 9) (h : ∀ i, i ≤ 9 → cand p o i ∈ ss) : False := by
  have hn : ((List.range 10).map (cand p o)).Nodup := by
    refine List.pairwise_map.mpr ((List.pairwise_lt_range (n := 10)).imp_of_mem fun {a b} ha hb hlt => cand_ne hlt ?_)
    simp at hb; omega
  have := pigeon _ ss hn fun x hx => by
    obtain ⟨i, hi, rfl⟩ := List.mem_map.mp hx
    simp at hi
    exact h i (by omega)
  simp at this; omega

/-- how many turns are left -/
noncomputable def Ph (ss : List (List Nat)) (i : Int) (k : Nat) (s : List Nat) (u : Int) : Prop :=
  21 - s.length ≤ k ∨ ∃ p o j, p.length = 7 ∧ j ≤ 9 ∧ s = cand p o j ∧ (∀ i', i' < j → cand p o i' ∈ ss) ∧ u + 8 + i = o + 5 * ((j : Int) + 1) ∧ 11 - j ≤ k

theorem ph_step {ss : List (List Nat)} {i : Int} {k : Nat} {s : List Nat} {u : Int} (hs : Nm s) (hl : ss.length ≤ 9) (hin : s ∈ ss ∨ s ∈ kws) (h : Ph ss i (k + 1) s u) :
    Nm (s.take 7 ++ [lt26 (u + s.length + i)]) ∧ Ph ss i k (s.take 7 ++ [lt26 (u + s.length + i)]) (u + 5) := by
  have hlen := hs.2.1
  have hne : 0 < s.length := List.length_pos_iff.mpr hs.1
  refine ⟨⟨by simp, by simp; omega, fun c hc => ?_⟩, ?_⟩
  · rcases List.mem_append.mp hc with h | h
    · exact hs.2.2 c (List.mem_of_mem_take h)
    · simp only [List.mem_singleton] at h; subst h; exact lt26_lt _
  · rcases h with h | ⟨p, o, j, hp, hj, hc, hv, hu, hk⟩
    · by_cases q : s.length = 8
      · refine .inr ⟨s.take 7, u + s.length + i, 0, by rw [List.length_take]; omega, by omega, ?_, fun i' hi => by omega, by omega, by omega⟩
        unfold cand; simp
      · refine .inl ?_
        rw [List.length_append, List.length_take]
        show 21 - (min 7 s.length + 1) ≤ k
        omega
    · have h8 : s.length = 8 := by rw [hc]; unfold cand; rw [List.length_append, hp]; rfl
      have hss : s ∈ ss := hin.elim id fun q => by have := kws_len s q; omega
      by_cases q : j = 9
      · subst q
        exact (cand_in (p := p) (o := o) hl fun i' hi => by
          by_cases q : i' = 9
          · subst q; rw [← hc]; exact hss
          · exact hv i' (by omega)).elim
      · refine .inr ⟨p, o, j + 1, hp, by omega, ?_, fun i' hi => ?_, by omega, by omega⟩
        · have : s.take 7 = p := by rw [hc]; unfold cand; rw [← hp]; simp
          rw [this, h8]
          unfold cand
          congr 3
        · by_cases q : i' = j
          · subst q; rw [← hc]; exact hss
          · exact hv i' (by omega)

variable {K : KT} (hK : Closed (fnP tab) K)
include hK

theorem names_while {n : Nat} {s : List Nat} {o u i : Int} {r : Nat} {ss : List (List Nat)} {hp : List MO} {Q : Fl → MS → Prop} {X : XM} (hr : hp[r]? = some (.list (ss.map .str))) (hss : ∀ s ∈ ss, Nm s) (hl : ss.length ≤ 9) (hs : Nm s)
    (hq : ∀ s' u' hp', Nm s' → s' ∉ ss → s' ∉ kws → hp <+: hp' → Q .next ⟨[some (.int o), some (.int u'), some (.ref r), some (.int i), some (.str s')], hp'⟩) :
    wpS K n (.while_ (.or [.cmp .inn (.var 4) (.var 2), .cmp .inn (.var 4) (.list [.cst (.str [115, 101, 116]), .cst (.str [116, 101, 108, 108]), .cst (.str [115, 107, 105, 112]), .cst (.str [105, 102]), .cst (.str [101, 108, 115, 101]), .cst (.str [119, 104, 105, 108, 101]), .cst (.str [101, 110, 100])])])
      [.asg [4] false (.bin .add (.sl (.var 4) none (some (.cst (.int 7)))) (.idx (.cst (.str [97, 98, 99, 100, 101, 102, 103, 104, 105, 106, 107, 108, 109, 110, 111, 112, 113, 114, 115, 116, 117, 118, 119, 120, 121, 122])) (.bin .mod (.bin .add (.bin .add (.var 1) (.blt .len [.var 4])) (.var 3)) (.cst (.int 26))))), .asg [1] false (.bin .add (.var 1) (.cst (.int 5)))])
      Q X ⟨[some (.int o), some (.int u), some (.ref r), some (.int i), some (.str s)], hp⟩ := by
  unfold wpS
  refine ⟨30, while_inv (fun k m => ∃ s u hp', m = ⟨[some (.int o), some (.int u), some (.ref r), some (.int i), some (.str s)], hp'⟩ ∧ hp <+: hp' ∧ Nm s ∧ Ph ss i k s u) (fun m ⟨s, u, hp', _, _, hs, h⟩ => ?_) (fun k m W hI hW => ?_) 30 _ ⟨s, u, hp, rfl, pre_self _, hs, .inl (by omega)⟩⟩
  · have := hs.2.1
    rcases h with h | ⟨_, _, j, _, hj, _, _, _, h⟩ <;> omega
  · obtain ⟨s, u, hp', rfl, hpre, hs, hph⟩ := hI
    have body : ∀ hp'', hp <+: hp'' → (s ∈ ss ∨ s ∈ kws) → wpSs K n [.asg [4] false (.bin .add (.sl (.var 4) none (some (.cst (.int 7)))) (.idx (.cst (.str [97, 98, 99, 100, 101, 102, 103, 104, 105, 106, 107, 108, 109, 110, 111, 112, 113, 114, 115, 116, 117, 118, 119, 120, 121, 122])) (.bin .mod (.bin .add (.bin .add (.var 1) (.blt .len [.var 4])) (.var 3)) (.cst (.int 26))))), .asg [1] false (.bin .add (.var 1) (.cst (.int 5)))]
        (fun f m => match f with
        | .next => W m
        | .cont => W m
        | .brk => Q .next m
        | .ret r => Q (.ret r) m) X ⟨[some (.int o), some (.int u), some (.ref r), some (.int i), some (.str s)], hp''⟩ := fun hp'' hpre hin => by
      obtain ⟨g1, g2⟩ := ph_step hs hl hin hph
      conv => whnf
      refine ⟨by decide, ?_⟩
      conv => whnf
      rw [pidx_nat (by omega) (by show (_ : Int) < 26; omega)]
      dsimp only
      rw [abc_at]
      conv => whnf
      rw [pslice_to (by decide)]
      refine ⟨le_line (by have := hs.2.1; rw [List.length_take]; show _ + 1 ≤ _; omega), ?_⟩
      exact hW _ ⟨_, _, hp'', rfl, hpre, g1, g2⟩
    conv => whnf
    rw [pre_at hpre hr]
    dsimp only
    refine in_strs hs.ok (fun t ht => (hss t ht).ok) ?_
    cases hc : ss.contains s with
    | true => exact body hp' hpre (.inl (by simpa using hc))
    | false =>
      conv => whnf
      rw [get_push]
      show InP _ _ (kws.map .str) _
      refine in_strs hs.ok kws_ok ?_
      cases hc' : kws.contains s with
      | true => exact body _ (pre_push hpre) (.inr (by simpa using hc'))
      | false => exact hq s u _ hs (by simpa using hc) (by simpa using hc') (pre_push hpre)

theorem k_names {n : Nat} {a b : Int} {Q : MV → List MO → Prop} {X : XT} {h : List MO} (hq : ∀ (h' : List MO) (r : Nat) (ss : List (List Nat)), h <+: h' → h.length ≤ r → h'[r]? = some (.list (ss.map .str)) → ss.length = 10 → (∀ s ∈ ss, Nm s) → ss.Nodup → (∀ s ∈ ss, s ∉ kws) → Q (.ref r) h') :
    K (n + 3) 9 [.int a, .int b] Q X h := by
  refine hK _ _ _ _ _ _ fn_law_names rfl rfl ?_
  conv => whnf
  refine forL_inv (fun i m => ∃ (o u : Int) (ss : List (List Nat)) (w3 w4 : Option MV) (hp : List MO), m = ⟨[some (.int o), some (.int u), some (.ref h.length), w3, w4], hp⟩ ∧ h <+: hp ∧ hp[h.length]? = some (.list (ss.map .str)) ∧ ss.length = i ∧ (∀ s ∈ ss, Nm s) ∧ ss.Nodup ∧ (∀ s ∈ ss, s ∉ kws)) (fun _ _ => False)
    ⟨a, b, [], none, none, _, rfl, pre_push (pre_self _), get_last _ _, rfl, by simp, List.nodup_nil, by simp⟩ (fun _ _ _ => trivial) (fun i y m P hy hI hn _ _ => ?_) (fun m hI => ?_) (fun _ _ h => h.elim)
  · obtain ⟨hi, rfl⟩ := range_at hy
    obtain ⟨o, u, ss, w3, w4, hp, rfl, hpre, hr, hl, hss, hnd, hkw⟩ := hI
    have hi : i < 10 := hi
    have rest : ∀ s hp', Nm s → hp <+: hp' → wpSs K (n + 2) (match fn_law_names.body with
      | [_, .for_ _ _ _ _ b, _] => b.drop 3
      | _ => []) P (fun c m => X c m.heap) ⟨[some (.int (mix o)), some (.int u), some (.ref h.length), some (.int i), some (.str s)], hp'⟩ := fun s hp' hs hpre' => by
      unfold wpSs
      refine names_while hK (pre_at hpre' hr) hss (by omega) hs fun s' u' hp'' hs' h1 h2 hpre'' => ?_
      have hr' := pre_at (hpre'.trans hpre'') hr
      conv => whnf
      rw [ok_append hr']
      conv => whnf
      rw [hr']
      refine ⟨by simp only [List.length_map]; unfold line; omega, ?_⟩
      refine hn _ ⟨_, _, ss ++ [s'], _, _, _, rfl, pre_set ((hpre.trans hpre').trans hpre'') (Nat.le_refl _), ?_, by simp [hl], ?_, ?_, ?_⟩
      · rw [get_set hr']; simp
      · intro t ht
        rcases List.mem_append.mp ht with ht | ht
        · exact hss t ht
        · simp at ht; subst ht; exact hs'
      · rw [List.nodup_append]
        exact ⟨hnd, by simp, fun t ht t' ht' => by simp at ht'; subst ht'; exact fun q => h1 (q ▸ ht)⟩
      · intro t ht
        rcases List.mem_append.mp ht with ht | ht
        · exact hkw t ht
        · simp at ht; subst ht; exact h2
    conv => whnf
    refine k_mixed hK ?_
    conv => whnf
    refine ⟨by decide, ?_⟩
    conv => whnf
    refine k_name_by hK fun s h' hs hpre' => ?_
    conv => whnf
    refine ⟨by decide, ?_⟩
    conv => whnf
    have hpre' : hp <+: h' := hpre'
    cases hodd : ((i : Int) % 2 == 1) with
    | false => exact rest s h' hs hpre'
    | true =>
      have hodd : (i : Int) % 2 = 1 := by simpa using hodd
      conv => whnf
      refine ⟨by decide, ?_⟩
      conv => whnf
      refine ⟨by decide, ?_⟩
      conv => whnf
      cases hu : (u / 4 % 2 == 1) with
      | false => exact rest s h' hs hpre'
      | true =>
        conv => whnf
        dsimp only [MS.set, List.set]
        rw [pre_at hpre' hr]
        dsimp only
        have hlt : i - 1 < ss.length := by omega
        rw [pidx_nat (by omega) (by rw [List.length_map]; omega)]
        dsimp only
        have e1 : ((i : Int) - 1).toNat = i - 1 := by omega
        rw [e1, List.getElem?_map, get_some hlt]
        conv => whnf
        refine k_mixed hK ?_
        conv => whnf
        refine k_twin hK (hss _ (List.getElem_mem _)) fun s' h'' hs' hpre'' => ?_
        exact rest s' h'' hs' (hpre'.trans hpre'')
  · obtain ⟨o, u, ss, w3, w4, hp, rfl, hpre, hr, hl, hss, hnd, hkw⟩ := hI
    exact hq hp h.length ss hpre (Nat.le_refl _) hr hl hss hnd hkw
end Mine
end
section
set_option autoImplicit false
namespace Mine

inductive Tm where
  | num (k : Int) | nm (s : List Nat) | op (c : Nat) (a b : Tm)
noncomputable abbrev sNum : List Nat := [110, 117, 109, 98, 101, 114]
noncomputable abbrev sName : List Nat := [110, 97, 109, 101]
noncomputable def Tm.mv : Tm → MV
  | .num k => .tup [.str sNum, .int k]
  | .nm s => .tup [.str sName, .str s]
  | .op c a b => .tup [.str [c], a.mv, b.mv]
noncomputable def Tm.deep : Tm → Nat
  | .op _ a b => max a.deep b.deep + 1
  | _ => 0
/-- how many ends -/
noncomputable def Tm.lv : Tm → Nat
  | .num _ | .nm _ => 1
  | .op _ a b => a.lv + b.lv
theorem Tm.lv_le : ∀ t : Tm, t.lv ≤ 2 ^ t.deep
  | .num _ => Nat.le_refl _
  | .nm _ => Nat.le_refl _
  | .op _ a b => by
    have ha := Tm.lv_le a
    have hb := Tm.lv_le b
    have h1 : 2 ^ a.deep ≤ 2 ^ max a.deep b.deep := Nat.pow_le_pow_right (by decide) (Nat.le_max_left ..)
    have h2 : 2 ^ b.deep ≤ 2 ^ max a.deep b.deep := Nat.pow_le_pow_right (by decide) (Nat.le_max_right ..)
    show a.lv + b.lv ≤ 2 ^ (max a.deep b.deep + 1)
    rw [Nat.pow_succ]; omega
noncomputable def isSign (c : Nat) : Prop := c = 43 ∨ c = 45 ∨ c = 42 ∨ c = 60 ∨ c = 61 ∨ c = 47
noncomputable def Tm.ok (p : List Nat → Prop) : Tm → Prop
  | .num k => 0 ≤ k ∧ k < 1000000
  | .nm s => p s
  | .op c a b => isSign c ∧ a.ok p ∧ b.ok p
theorem Tm.ok.mono {p q : List Nat → Prop} (h : ∀ s, p s → q s) : ∀ {t : Tm}, t.ok p → t.ok q
  | .num _, x => x
  | .nm s, x => h s x
  | .op _ _ _, ⟨x, y, z⟩ => ⟨x, y.mono h, z.mono h⟩

theorem deeps_strs : ∀ (ss : List (List Nat)), D.deeps (ss.map .str) = 0
  | [] => rfl
  | s :: ss => by simp only [List.map_cons, D.deeps, D.deep, deeps_strs ss]; rfl
theorem ne_nil {hp : List MO} {r r' : Nat} {ss : List (List Nat)} {Q : Bool → Prop} (h1 : hp[r]? = some (.list (ss.map .str))) (h2 : hp[r']? = some (.list [])) (hs : ∀ s ∈ ss, okS s) (hq : Q (decide (ss = []))) : EqP hp (.ref r) (.ref r') Q := by
  refine .mk (.list (ss.map .str)) (.list []) (.list h1 (rds_strs ss)) (.list h2 .nil) ?_ (oks_strs hs) rfl ?_
  · show D.deeps _ + 1 ≤ 1000
    rw [deeps_strs]; decide
  · cases ss <;> exact hq

variable {K : KT} (hK : Closed (fnP tab) K)
include hK

theorem k_end_by {n : Nat} {x : Int} {r : Nat} {ss : List (List Nat)} {Q : MV → List MO → Prop} {X : XT} {h : List MO} (hr : h[r]? = some (.list (ss.map .str))) (hs : ∀ s ∈ ss, okS s) (hq : ∀ t h', Tm.ok (· ∈ ss) t → t.deep = 0 → h <+: h' → Q t.mv h') :
    K (n + 1) 10 [.int x, .ref r] Q X h := by
  refine hK _ _ _ _ _ _ fn_law_end_by rfl rfl ?_
  have rest : ∀ h', h <+: h' → wpSs K n (fn_law_end_by.body.drop 1) (fin Q) (fun c m => X c m.heap) ⟨[some (.int x), some (.ref r)], h'⟩ := fun h' hpre => by
    conv => whnf
    refine ⟨by decide, ?_⟩
    conv => whnf
    refine ⟨by decide, ?_⟩
    conv => whnf
    cases hc : (x / 3 % 4 == 0) with
    | true =>
      conv => whnf
      refine ⟨by decide, ?_⟩
      conv => whnf
      refine ⟨by decide, ?_⟩
      conv => whnf
      refine ⟨by decide, ?_⟩
      exact hq (.num (x / 12 % 10 ^ (6 : Int).toNat)) h' (by show _ ∧ _; have : (10 : Int) ^ (6 : Int).toNat = 1000000 := by decide
                                                             rw [this]; omega) rfl hpre
    | false =>
      conv => whnf
      refine ⟨by decide, ?_⟩
      conv => whnf
      refine ⟨by decide, ?_⟩
      exact hq (.num (x / 12 % 5)) h' (by show _ ∧ _; omega) rfl hpre
  conv => whnf
  refine ne_nil (ss := ss) (get_push_old hr) get_push hs ?_
  by_cases hn : ss = []
  · rw [decide_eq_true hn]
    exact rest _ (pre_push (pre_self _))
  · rw [decide_eq_false hn]
    conv => whnf
    refine ⟨by decide, ?_⟩
    conv => whnf
    have hpos : 0 < ss.length := List.length_pos_iff.mpr hn
    by_cases hc : 0 < x % 3
    · rw [decide_eq_true hc]
      conv => whnf
      refine ⟨by decide, ?_⟩
      conv => whnf
      rw [get_push_old hr]
      conv => whnf
      rw [List.length_map]
      refine ⟨by omega, ?_⟩
      conv => whnf
      rw [get_push_old hr]
      dsimp only
      have h1 : 0 ≤ x / 3 % (ss.length : Int) := Int.emod_nonneg _ (by omega)
      have h2 : x / 3 % (ss.length : Int) < ss.length := Int.emod_lt_of_pos _ (by omega)
      rw [pidx_nat h1 (by rw [List.length_map]; exact h2)]
      dsimp only
      rw [List.getElem?_map, get_some (by omega)]
      exact hq (.nm _) _ (List.getElem_mem _) rfl (pre_push (pre_self _))
    · rw [decide_eq_false hc]
      exact rest _ (pre_push (pre_self _))
end Mine
end
section
set_option autoImplicit false
namespace Mine

theorem signs10_at : ∀ j, j < 10 → ∃ c, isSign c ∧ [MV.str [43], MV.str [45], MV.str [42], MV.str [60], MV.str [61], MV.str [43], MV.str [45], MV.str [60], MV.str [47], MV.str [47]][j]? = some (.str [c])
  | 0, _ => ⟨43, by unfold isSign; omega, rfl⟩
  | 1, _ => ⟨45, by unfold isSign; omega, rfl⟩
  | 2, _ => ⟨42, by unfold isSign; omega, rfl⟩
  | 3, _ => ⟨60, by unfold isSign; omega, rfl⟩
  | 4, _ => ⟨61, by unfold isSign; omega, rfl⟩
  | 5, _ => ⟨43, by unfold isSign; omega, rfl⟩
  | 6, _ => ⟨45, by unfold isSign; omega, rfl⟩
  | 7, _ => ⟨60, by unfold isSign; omega, rfl⟩
  | 8, _ => ⟨47, by unfold isSign; omega, rfl⟩
  | 9, _ => ⟨47, by unfold isSign; omega, rfl⟩
  | _ + 10, h => by omega
theorem signs6_at : ∀ j, j < 6 → ∃ c, isSign c ∧ [MV.str [43], MV.str [45], MV.str [42], MV.str [47], MV.str [60], MV.str [61]][j]? = some (.str [c])
  | 0, _ => ⟨43, by unfold isSign; omega, rfl⟩
  | 1, _ => ⟨45, by unfold isSign; omega, rfl⟩
  | 2, _ => ⟨42, by unfold isSign; omega, rfl⟩
  | 3, _ => ⟨47, by unfold isSign; omega, rfl⟩
  | 4, _ => ⟨60, by unfold isSign; omega, rfl⟩
  | 5, _ => ⟨61, by unfold isSign; omega, rfl⟩
  | _ + 6, h => by omega

variable {K : KT} (hK : Closed (fnP tab) K)
include hK

theorem k_formula : ∀ (L : Nat) {n : Nat} {x l : Int} {r rl : Nat} {d : Bool} {ss sl : List (List Nat)} {Q : MV → List MO → Prop} {X : XT} {h : List MO}, l = (L : Int) + 1 → h[r]? = some (.list (ss.map .str)) → h[rl]? = some (.list (sl.map .str)) → (∀ s ∈ ss, okS s) → (∀ s ∈ sl, okS s) →
    (∀ t h', Tm.ok (fun s => s ∈ ss ∨ s ∈ sl) t → t.deep ≤ L → h <+: h' → Q t.mv h') → K (n + L + 2) 11 [.int x, .ref r, .ref rl, .bool d, .int l] Q X h := by
  intro L
  induction L with
  | zero =>
    intro n x l r rl d ss sl Q X h hl hr hrl hs hsl hq
    refine hK _ _ _ _ _ _ fn_law_formula_by rfl rfl ?_
    conv => whnf
    refine k_mixed hK ?_
    conv => whnf
    have e : (l == 1) = true := by simp [hl]
    rw [e]
    conv => whnf
    refine ⟨by decide, ?_⟩
    conv => whnf
    refine k_end_by hK hr hs fun t h' ht hd hpre => ?_
    exact hq t h' (ht.mono fun s => .inl) (by omega) hpre
  | succ L ih =>
    intro n x l r rl d ss sl Q X h hl hr hrl hs hsl hq
    refine hK _ _ _ _ _ _ fn_law_formula_by rfl rfl ?_
    conv => whnf
    refine k_mixed hK ?_
    conv => whnf
    have e : (l == 1) = false := by simp [hl]; omega
    rw [e]
    conv => whnf
    refine ⟨by decide, ?_⟩
    conv => whnf
    by_cases hc : mix x % 8 < 3
    · rw [decide_eq_true hc]
      conv => whnf
      refine ⟨by decide, ?_⟩
      conv => whnf
      refine k_end_by hK hr hs fun t h' ht hd hpre => ?_
      exact hq t h' (ht.mono fun s => .inl) (by omega) hpre
    · rw [decide_eq_false hc]
      conv => whnf
      refine ⟨by decide, ?_⟩
      conv => whnf
      rw [get_push]
      dsimp only
      rw [pidx_b2i]
      dsimp only
      rw [get_b2n]
      have hj : ∃ j : Int, (j = 8 ∨ j = 10) ∧ sel d (MV.int 8) (.int 10) = .int j := by
        cases d
        · exact ⟨8, .inl rfl, rfl⟩
        · exact ⟨10, .inr rfl, rfl⟩
      obtain ⟨j, hj, e1⟩ := hj
      rw [e1]
      conv => whnf
      refine ⟨by omega, ?_⟩
      conv => whnf
      rw [get_push2]
      dsimp only
      have h1 : 0 ≤ mix x / 8 % j := Int.emod_nonneg _ (by omega)
      have h2 : mix x / 8 % j < j := Int.emod_lt_of_pos _ (by omega)
      rw [pidx_nat h1 (by show _ < (10 : Int); omega)]
      dsimp only
      obtain ⟨c, hcs, e3⟩ := signs10_at (mix x / 8 % j).toNat (by omega)
      rw [e3]
      conv => whnf
      refine ⟨.inr (by unfold small; decide), ?_⟩
      conv => whnf
      have er : n + (L + 1) + 1 = n + L + 2 := by omega
      rw [er]
      have hp0 : ∀ o o', h <+: (h ++ [o]) ++ [o'] := fun o o' => pre_push (pre_push (pre_self _))
      refine ih (by omega) (pre_at (hp0 _ _) hr) (pre_at (hp0 _ _) hrl) hs hsl fun t h₁ ht hd hpre0 => ?_
      have hpre : h <+: h₁ := (hp0 _ _).trans hpre0
      clear hpre0
      have last : ∀ {h₂ : List MO} {rr : Nat} {sr : List (List Nat)} {V : List MO → List (Option MV)}, h₂[rr]? = some (.list (sr.map .str)) → h₂[rl]? = some (.list (sl.map .str)) → h <+: h₂ → (∀ s ∈ sr, okS s) → (∀ s, s ∈ sr ∨ s ∈ sl → s ∈ ss ∨ s ∈ sl) →
          K (n + L + 2) 11 [.int (mix x * 5 + 2), .ref rr, .ref rl, .bool d, .int (l - 1)] (fun v h' => Q (.tup [.str [c], t.mv, v]) h') (fun c h' => X c h') h₂ := fun {h₂ rr sr V} g1 g2 hp2 g3 g4 => by
        refine ih (by omega) g1 g2 g3 hsl fun t' h' ht' hd' hpre' => ?_
        refine hq (.op c t t') h' ⟨hcs, ht, ht'.mono g4⟩ ?_ (hp2.trans hpre')
        show max t.deep t'.deep + 1 ≤ _
        omega
      conv => whnf
      by_cases h47 : c = 47
      · subst h47
        conv => whnf
        refine ⟨by decide, ?_⟩
        conv => whnf
        refine ⟨by decide, ?_⟩
        conv => whnf
        by_cases h3 : mix x / 80 % 4 < 3
        · rw [decide_eq_true h3]
          conv => whnf
          refine ⟨by decide, ?_⟩
          conv => whnf
          refine ⟨by decide, ?_⟩
          refine hq (.op 47 t (.num (1 + mix x / 320 % 9))) h₁ ⟨hcs, ht, by show _ ∧ _; omega⟩ ?_ hpre
          show max t.deep 0 + 1 ≤ _
          omega
        · rw [decide_eq_false h3]
          conv => whnf
          refine ⟨.inr (by unfold small; decide), ?_⟩
          conv => whnf
          exact last (V := fun _ => []) (pre_at hpre hrl) (pre_at hpre hrl) hpre hsl fun s hs => hs.elim .inr .inr
      · have e47 : ([c] == [47]) = false := by simpa using h47
        rw [e47]
        conv => whnf
        rw [e47]
        conv => whnf
        refine ⟨.inr (by unfold small; decide), ?_⟩
        conv => whnf
        exact last (V := fun _ => []) (pre_at hpre hr) (pre_at hpre hrl) hpre hs fun s hs => hs
end Mine
end
section
set_option autoImplicit false
namespace Mine
variable {K : KT} (hK : Closed (fnP tab) K)
include hK

theorem k_deep {n : Nat} {x : Int} {r : Nat} {ss : List (List Nat)} {Q : MV → List MO → Prop} {X : XT} {h : List MO} (hr : h[r]? = some (.list (ss.map .str))) (hs : ∀ s ∈ ss, okS s)
    (hq : ∀ t h', Tm.ok (· ∈ ss) t → t.deep ≤ 11 → t.lv ≤ 16 → h <+: h' → Q t.mv h') : K (n + 8) 12 [.int x, .ref r] Q X h := by
  refine hK _ _ _ _ _ _ fn_law_deep_formula rfl rfl ?_
  conv => whnf
  refine ⟨by decide, ?_⟩
  conv => whnf
  cases hc : (x % 8 == 1) with
  | false =>
    conv => whnf
    refine ⟨by decide, ?_⟩
    conv => whnf
    refine ⟨by decide, ?_⟩
    conv => whnf
    have e : (n + 7) = (n + 5 - (x / 8 % 5).toNat) + (x / 8 % 5).toNat + 2 := by omega
    rw [e]
    refine k_formula hK (x / 8 % 5).toNat (by omega) hr hr hs hs fun t h' ht hd hpre => ?_
    refine hq t h' (ht.mono fun s h => h.elim id id) (by omega) (Nat.le_trans t.lv_le ?_) hpre
    exact Nat.pow_le_pow_right (by decide) (by omega : t.deep ≤ 4)
  | true =>
    conv => whnf
    refine k_end_by hK hr hs fun t h₁ ht hd hpre => ?_
    have hpre : h <+: h₁ := hpre
    conv => whnf
    refine ⟨by decide, ?_⟩
    conv => whnf
    refine ⟨by decide, ?_⟩
    conv => whnf
    rw [iter_range1 (by omega) (by omega)]
    dsimp only
    refine forL_inv (fun i m => ∃ (t : Tm) (z : Int) (w4 w5 w6 : Option MV) (hp : List MO), m = ⟨[some (.int x), some (.ref r), some t.mv, some (.int z), w4, w5, w6], hp⟩ ∧ t.ok (· ∈ ss) ∧ t.deep ≤ i ∧ t.lv ≤ i + 1 ∧ h <+: hp) (fun _ _ => False)
      ⟨t, x, none, none, none, _, rfl, ht, by omega, by have := t.lv_le; rw [hd] at this; exact this, hpre⟩ (fun _ _ _ => trivial) (fun i y m P hy hI hn _ _ => ?_) (fun m hI => ?_) (fun _ _ h => h.elim)
    · obtain ⟨hi, rfl⟩ := range_at hy
      obtain ⟨t, z, w4, w5, w6, hp, rfl, ht, hd, hlv, hpre⟩ := hI
      conv => whnf
      refine k_mixed hK ?_
      conv => whnf
      refine ⟨by decide, ?_⟩
      conv => whnf
      refine k_end_by hK (pre_at hpre hr) hs fun t' h₂ ht' hd' hpre' => ?_
      have hpre' : hp <+: h₂ := hpre'
      conv => whnf
      refine ⟨by decide, ?_⟩
      conv => whnf
      rw [get_push]
      dsimp only
      rw [pidx_nat (by omega) (by show _ < (6 : Int); omega)]
      dsimp only
      obtain ⟨c, hcs, e3⟩ := signs6_at (mix z % 6).toNat (by omega)
      rw [e3]
      conv => whnf
      refine ⟨by decide, ?_⟩
      conv => whnf
      refine ⟨by decide, ?_⟩
      conv => whnf
      rw [get_push]
      dsimp only
      rw [pidx_nat (by omega) (by show _ < (2 : Int); omega)]
      dsimp only
      have hpp : ∀ o o', h <+: (h₂ ++ [o]) ++ [o'] := fun o o' => pre_push (pre_push (hpre.trans hpre'))
      by_cases h0 : mix z / 6 % 2 = 0
      · have e0 : (mix z / 6 % 2).toNat = 0 := by omega
        rw [e0]
        refine hn _ ⟨.op c t t', mix z, _, _, _, _, rfl, ⟨hcs, ht, ht'⟩, ?_, ?_, hpp _ _⟩
        · show max t.deep t'.deep + 1 ≤ _
          omega
        · show t.lv + t'.lv ≤ _
          have := t'.lv_le; rw [hd'] at this; omega
      · have e0 : (mix z / 6 % 2).toNat = 1 := by omega
        rw [e0]
        refine hn _ ⟨.op c t' t, mix z, _, _, _, _, rfl, ⟨hcs, ht', ht⟩, ?_, ?_, hpp _ _⟩
        · show max t'.deep t.deep + 1 ≤ _
          omega
        · show t'.lv + t.lv ≤ _
          have := t'.lv_le; rw [hd'] at this; omega
    · obtain ⟨t, z, w4, w5, w6, hp, rfl, ht, hd, hlv, hpre⟩ := hI
      rw [range_len] at hd hlv
      exact hq t hp ht (by omega) (by omega) hpre
end Mine
end
section
set_option autoImplicit false
namespace Mine

noncomputable def an : Tm → List (List Nat)
  | .num _ => []
  | .nm s => [s]
  | .op _ a b => an a ++ an b
noncomputable def arn : Tm → List (List Nat)
  | .num _ => []
  | .nm _ => []
  | .op c a b => match c == 47 with
    | true => arn a ++ arn b ++ an b
    | false => arn a ++ arn b
noncomputable def nof : Tm → Bool → List (List Nat)
  | .num _, _ => []
  | .nm s, r => match r with
    | true => [s]
    | false => []
  | .op c a b, r => nof a r ++ nof b (r || c == 47)
noncomputable def dvs : Tm → Bool
  | .num _ => false
  | .nm _ => false
  | .op c a b => c == 47 || dvs a || dvs b
theorem nof_true : ∀ t, nof t true = an t
  | .num _ => rfl
  | .nm _ => rfl
  | .op c a b => by simp only [nof, Bool.true_or, nof_true a, nof_true b, an]
theorem arn_an : ∀ (t : Tm) (x : List Nat), x ∈ arn t → x ∈ an t
  | .num _, x, h => h
  | .nm _, x, h => by cases h
  | .op c a b, x, h => by
    unfold arn at h
    unfold an
    have ha := arn_an a x
    have hb := arn_an b x
    split at h <;> simp only [List.mem_append] at h ⊢
    · rcases h with (h | h) | h
      · exact .inl (ha h)
      · exact .inr (hb h)
      · exact .inr h
    · rcases h with h | h
      · exact .inl (ha h)
      · exact .inr (hb h)
theorem arn_nof : ∀ (t : Tm) (x : List Nat), x ∈ arn t ↔ x ∈ nof t false
  | .num _, x => Iff.rfl
  | .nm _, x => Iff.rfl
  | .op c a b, x => by
    have ha := arn_nof a x
    have hb := arn_nof b x
    unfold arn nof
    cases hc : c == 47 with
    | true =>
      simp only [Bool.false_or, nof_true, List.mem_append]
      rw [← ha]
      constructor
      · rintro ((h | h) | h)
        · exact .inl h
        · exact .inr (arn_an b x h)
        · exact .inr h
      · rintro (h | h)
        · exact .inl (.inl h)
        · exact .inr h
    | false =>
      simp only [Bool.false_or, List.mem_append]
      rw [ha, hb]
theorem an_ok {p : List Nat → Prop} : ∀ {t : Tm}, t.ok p → ∀ x ∈ an t, p x
  | .num _, _, x, h => by cases h
  | .nm s, ht, x, h => by
    have : x = s := by simpa [an] using h
    subst this; exact ht
  | .op c a b, ht, x, h => by
    unfold an at h
    rcases List.mem_append.mp h with h | h
    · exact an_ok ht.2.1 x h
    · exact an_ok ht.2.2 x h
theorem an_len : ∀ t : Tm, (an t).length ≤ t.lv
  | .num _ => Nat.zero_le _
  | .nm _ => Nat.le_refl _
  | .op c a b => by
    have := an_len a; have := an_len b
    simp only [an, List.length_append, Tm.lv]; omega
theorem nof_len : ∀ (t : Tm) (r : Bool), (nof t r).length ≤ t.lv
  | .num _, _ => Nat.zero_le _
  | .nm _, r => by cases r <;> simp [nof, Tm.lv]
  | .op c a b, r => by
    have := nof_len a r; have := nof_len b (r || c == 47)
    simp only [nof, List.length_append, Tm.lv]; omega
theorem arn_len : ∀ t : Tm, (arn t).length ≤ t.deep * t.lv
  | .num _ => Nat.zero_le _
  | .nm _ => Nat.zero_le _
  | .op c a b => by
    have ha := arn_len a
    have hb := arn_len b
    have hc := an_len b
    have h1 : a.deep * a.lv ≤ max a.deep b.deep * a.lv := Nat.mul_le_mul_right _ (Nat.le_max_left ..)
    have h2 : b.deep * b.lv ≤ max a.deep b.deep * b.lv := Nat.mul_le_mul_right _ (Nat.le_max_right ..)
    have h3 : (max a.deep b.deep + 1) * (a.lv + b.lv) = max a.deep b.deep * a.lv + max a.deep b.deep * b.lv + (a.lv + b.lv) := by
      rw [Nat.add_mul, Nat.mul_add]; omega
    show (arn (.op c a b)).length ≤ (max a.deep b.deep + 1) * (a.lv + b.lv)
    rw [h3]
    unfold arn
    split <;> simp only [List.length_append] <;> omega
theorem sset_eq {l m : List (List Nat)} (h : ∀ x, x ∈ l ↔ x ∈ m) : sset l = sset m := pw_eq (sset_pw l) (sset_pw m) fun x => by rw [sset_mem, sset_mem, h]
theorem sset_le {l t : List (List Nat)} (h : ∀ x ∈ l, x ∈ t) : (sset l).length ≤ t.length :=
  pigeon _ _ ((sset_pw l).imp fun h q => by subst q; exact List.lt_irrefl _ h) fun x hx => h x (sset_mem.mp hx)

variable {K : KT} (hK : Closed (fnP tab) K)
include hK

theorem k_an {p : List Nat → Prop} : ∀ (t : Tm) {N : Nat} {Q : MV → List MO → Prop} {X : XT} {h : List MO}, t.deep + 1 ≤ N → t.ok p → t.lv ≤ 1000 →
    (∀ r h', h <+: h' → h'[r]? = some (.list ((an t).map .str)) → Q (.ref r) h') → K N 0 [t.mv] Q X h := by
  intro t
  induction t with
  | num k =>
    intro N Q X h hN ht hl hq
    obtain ⟨n, rfl⟩ : ∃ n, N = n + 1 := ⟨N - 1, by omega⟩
    refine hK _ _ _ _ _ _ fn_all_names rfl rfl ?_
    conv => whnf
    exact hq _ _ (pre_push (pre_self _)) (get_last _ _)
  | nm s =>
    intro N Q X h hN ht hl hq
    obtain ⟨n, rfl⟩ : ∃ n, N = n + 1 := ⟨N - 1, by omega⟩
    refine hK _ _ _ _ _ _ fn_all_names rfl rfl ?_
    conv => whnf
    exact hq _ _ (pre_push (pre_self _)) (get_last _ _)
  | op c a b iha ihb =>
    intro N Q X h hN ht hl hq
    obtain ⟨n, rfl⟩ : ∃ n, N = n + 1 := ⟨N - 1, by omega⟩
    have hN : max a.deep b.deep + 1 + 1 ≤ n + 1 := hN
    have hl : a.lv + b.lv ≤ 1000 := hl
    refine hK _ _ _ _ _ _ fn_all_names rfl rfl ?_
    obtain ⟨hc, ha, hb⟩ := ht
    have na : a.deep + 1 ≤ n := Nat.le_trans (Nat.succ_le_succ (Nat.le_max_left ..)) (Nat.le_of_succ_le_succ hN)
    have nb : b.deep + 1 ≤ n := Nat.le_trans (Nat.succ_le_succ (Nat.le_max_right ..)) (Nat.le_of_succ_le_succ hN)
    have key : wpE K n (.bin .add (.call 0 [.idx (.var 0) (.cst (.int 1))]) (.call 0 [.idx (.var 0) (.cst (.int 2))])) (fun v m => fin Q (.ret v) m) (fun c m => X c m.heap) ⟨[some (Tm.op c a b).mv], h⟩ := by
      conv => whnf
      refine iha na ha (Nat.le_trans (Nat.le_add_right ..) hl) fun r1 h1 p1 e1 => ?_
      conv => whnf
      refine ihb nb hb (Nat.le_trans (Nat.le_add_left ..) hl) fun r2 h2 p2 e2 => ?_
      conv => whnf
      dsimp only
      rw [pre_at p2 e1, e2]
      dsimp only
      refine ⟨le_line ?_, ?_⟩
      · simp only [List.length_map]
        exact Nat.le_trans (Nat.add_le_add (an_len a) (an_len b)) (Nat.le_trans hl (by decide))
      · rw [← List.map_append]
        exact hq _ _ (pre_push (List.IsPrefix.trans p1 p2)) (get_last _ _)
    rcases hc with rfl | rfl | rfl | rfl | rfl | rfl <;> exact key
end Mine
end
section
set_option autoImplicit false
namespace Mine
variable {K : KT} (hK : Closed (fnP tab) K)
include hK

theorem k_arn {p : List Nat → Prop} : ∀ (t : Tm) {N : Nat} {Q : MV → List MO → Prop} {X : XT} {h : List MO}, t.deep + 2 ≤ N → t.ok p → t.lv ≤ 1000 → t.deep ≤ 11 →
    (∀ r h', h <+: h' → h'[r]? = some (.list ((arn t).map .str)) → Q (.ref r) h') → K N 2 [t.mv] Q X h := by
  intro t
  induction t with
  | num k =>
    intro N Q X h hN ht hl hd hq
    obtain ⟨n, rfl⟩ : ∃ n, N = n + 1 := ⟨N - 1, by omega⟩
    refine hK _ _ _ _ _ _ fn_all_right_names rfl rfl ?_
    conv => whnf
    exact hq _ _ (pre_push (pre_self _)) (get_last _ _)
  | nm s =>
    intro N Q X h hN ht hl hd hq
    obtain ⟨n, rfl⟩ : ∃ n, N = n + 1 := ⟨N - 1, by omega⟩
    refine hK _ _ _ _ _ _ fn_all_right_names rfl rfl ?_
    conv => whnf
    exact hq _ _ (pre_push (pre_self _)) (get_last _ _)
  | op c a b iha ihb =>
    intro N Q X h hN ht hl hd hq
    obtain ⟨n, rfl⟩ : ∃ n, N = n + 1 := ⟨N - 1, by omega⟩
    have hN : max a.deep b.deep + 1 + 2 ≤ n + 1 := hN
    have hd' : max a.deep b.deep + 1 ≤ 11 := hd
    have hl : a.lv + b.lv ≤ 1000 := hl
    have la := arn_len a
    have lb := arn_len b
    have lc := an_len b
    have da : a.deep ≤ 11 := by omega
    have db : b.deep ≤ 11 := by omega
    have na : a.deep + 2 ≤ n := by omega
    have nb : b.deep + 2 ≤ n := by omega
    have va : a.lv ≤ 1000 := Nat.le_trans (Nat.le_add_right ..) hl
    have vb : b.lv ≤ 1000 := Nat.le_trans (Nat.le_add_left ..) hl
    have l1 := Nat.mul_le_mul da va
    have l2 := Nat.mul_le_mul db vb
    refine hK _ _ _ _ _ _ fn_all_right_names rfl rfl ?_
    obtain ⟨hc, ha, hb⟩ := ht
    conv => whnf
    refine iha na ha va da fun r1 h1 p1 e1 => ?_
    conv => whnf
    refine ihb nb hb vb db fun r2 h2 p2 e2 => ?_
    have p1 : h <+: h1 := p1
    have p2 : h1 <+: h2 := p2
    conv => whnf
    dsimp only
    rw [pre_at p2 e1, e2]
    dsimp only
    refine ⟨le_line (by simp only [List.length_map]; omega), ?_⟩
    rw [← List.map_append]
    rcases hc with rfl | rfl | rfl | rfl | rfl | rfl
    all_goals
      first
      | (conv => whnf
         exact hq _ _ (pre_push (p1.trans p2)) (get_last _ _))
      | (conv => whnf
         refine k_an hK b (Nat.le_of_succ_le nb) hb vb fun r3 h3 p3 e3 => ?_
         have p3 : h2 ++ [MO.list ((arn a ++ arn b).map .str)] <+: h3 := p3
         conv => whnf
         dsimp only
         rw [pre_at p3 (get_last _ _), e3]
         dsimp only
         refine ⟨le_line (by simp only [List.length_map, List.length_append]; omega), ?_⟩
         rw [← List.map_append]
         exact hq _ _ (pre_push ((pre_push (p1.trans p2)).trans p3)) (get_last _ _))

theorem k_nof {p : List Nat → Prop} : ∀ (t : Tm) {N : Nat} {d : Bool} {Q : MV → List MO → Prop} {X : XT} {h : List MO}, t.deep + 1 ≤ N → t.ok p → t.lv ≤ 1000 →
    (∀ r h', h <+: h' → h'[r]? = some (.list ((nof t d).map .str)) → Q (.ref r) h') → K N 13 [t.mv, .bool d] Q X h := by
  intro t
  induction t with
  | num k =>
    intro N d Q X h hN ht hl hq
    obtain ⟨n, rfl⟩ : ∃ n, N = n + 1 := ⟨N - 1, by omega⟩
    refine hK _ _ _ _ _ _ fn_law_names_of rfl rfl ?_
    conv => whnf
    exact hq _ _ (pre_push (pre_self _)) (get_last _ _)
  | nm s =>
    intro N d Q X h hN ht hl hq
    obtain ⟨n, rfl⟩ : ∃ n, N = n + 1 := ⟨N - 1, by omega⟩
    refine hK _ _ _ _ _ _ fn_law_names_of rfl rfl ?_
    cases d
    · conv => whnf
      exact hq _ _ (pre_push (pre_self _)) (get_last _ _)
    · conv => whnf
      exact hq _ _ (pre_push (pre_self _)) (get_last _ _)
  | op c a b iha ihb =>
    intro N d Q X h hN ht hl hq
    obtain ⟨n, rfl⟩ : ∃ n, N = n + 1 := ⟨N - 1, by omega⟩
    have hN : max a.deep b.deep + 1 + 1 ≤ n + 1 := hN
    have hl : a.lv + b.lv ≤ 1000 := hl
    refine hK _ _ _ _ _ _ fn_law_names_of rfl rfl ?_
    obtain ⟨hc, ha, hb⟩ := ht
    have na : a.deep + 1 ≤ n := Nat.le_trans (Nat.succ_le_succ (Nat.le_max_left ..)) (Nat.le_of_succ_le_succ hN)
    have nb : b.deep + 1 ≤ n := Nat.le_trans (Nat.succ_le_succ (Nat.le_max_right ..)) (Nat.le_of_succ_le_succ hN)
    have key : ∀ d', nof (.op c a b) d = nof a d ++ nof b d' → wpE K n (.bin .add (.call 13 [.idx (.var 0) (.cst (.int 1)), .var 1]) (.call 13 [.idx (.var 0) (.cst (.int 2)), .var 2])) (fun v m => fin Q (.ret v) m) (fun c m => X c m.heap) ⟨[some (Tm.op c a b).mv, some (.bool d), some (.bool d')], h⟩ := by
      intro d' hd'
      rw [hd'] at hq
      conv => whnf
      refine iha na ha (Nat.le_trans (Nat.le_add_right ..) hl) fun r1 h1 p1 e1 => ?_
      conv => whnf
      refine ihb nb hb (Nat.le_trans (Nat.le_add_left ..) hl) fun r2 h2 p2 e2 => ?_
      conv => whnf
      dsimp only
      rw [pre_at p2 e1, e2]
      dsimp only
      refine ⟨le_line ?_, ?_⟩
      · simp only [List.length_map]
        exact Nat.le_trans (Nat.add_le_add (nof_len a _) (nof_len b _)) (Nat.le_trans hl (by decide))
      · rw [← List.map_append]
        exact hq _ _ (pre_push (List.IsPrefix.trans p1 p2)) (get_last _ _)
    rcases hc with rfl | rfl | rfl | rfl | rfl | rfl <;> cases d <;> exact key _ rfl

theorem k_div {p : List Nat → Prop} : ∀ (t : Tm) {N : Nat} {Q : MV → List MO → Prop} {X : XT} {h : List MO}, t.deep + 1 ≤ N → t.ok p → Q (.bool (dvs t)) h → K N 4 [t.mv] Q X h := by
  intro t
  induction t with
  | num k =>
    intro N Q X h hN ht hq
    obtain ⟨n, rfl⟩ : ∃ n, N = n + 1 := ⟨N - 1, by omega⟩
    refine hK _ _ _ _ _ _ fn_divides rfl rfl ?_
    conv => whnf
    exact hq
  | nm s =>
    intro N Q X h hN ht hq
    obtain ⟨n, rfl⟩ : ∃ n, N = n + 1 := ⟨N - 1, by omega⟩
    refine hK _ _ _ _ _ _ fn_divides rfl rfl ?_
    conv => whnf
    exact hq
  | op c a b iha ihb =>
    intro N Q X h hN ht hq
    obtain ⟨n, rfl⟩ : ∃ n, N = n + 1 := ⟨N - 1, by omega⟩
    have hN : max a.deep b.deep + 1 + 1 ≤ n + 1 := hN
    refine hK _ _ _ _ _ _ fn_divides rfl rfl ?_
    obtain ⟨hc, ha, hb⟩ := ht
    have na : a.deep + 1 ≤ n := Nat.le_trans (Nat.succ_le_succ (Nat.le_max_left ..)) (Nat.le_of_succ_le_succ hN)
    have nb : b.deep + 1 ≤ n := Nat.le_trans (Nat.succ_le_succ (Nat.le_max_right ..)) (Nat.le_of_succ_le_succ hN)
    have fin' : ∀ x, dvs (.op c a b) = (x || dvs a || dvs b) → wpE K n (.or [.cst (.bool x), .call 4 [.idx (.var 0) (.cst (.int 1))], .call 4 [.idx (.var 0) (.cst (.int 2))]]) (fun v m => fin Q (.ret v) m) (fun c m => X c m.heap) ⟨[some (Tm.op c a b).mv], h⟩ := fun x hx => by
      cases x with
      | true =>
        conv => whnf
        rw [hx] at hq
        exact hq
      | false =>
        conv => whnf
        refine iha na ha ?_
        cases hda : dvs a with
        | true =>
          conv => whnf
          rw [hx, hda] at hq
          exact hq
        | false =>
          conv => whnf
          refine ihb nb hb ?_
          conv => whnf
          rw [hx, hda] at hq
          exact hq
    rcases hc with rfl | rfl | rfl | rfl | rfl | rfl
    · exact fin' false rfl
    · exact fin' false rfl
    · exact fin' false rfl
    · exact fin' false rfl
    · exact fin' false rfl
    · exact fin' true rfl
theorem k_ldiv {p : List Nat → Prop} : ∀ (t : Tm) {N : Nat} {Q : MV → List MO → Prop} {X : XT} {h : List MO}, t.deep + 1 ≤ N → t.ok p → Q (.bool (dvs t)) h → K N 14 [t.mv] Q X h := by
  intro t
  induction t with
  | num k =>
    intro N Q X h hN ht hq
    obtain ⟨n, rfl⟩ : ∃ n, N = n + 1 := ⟨N - 1, by omega⟩
    refine hK _ _ _ _ _ _ fn_law_divides rfl rfl ?_
    conv => whnf
    exact hq
  | nm s =>
    intro N Q X h hN ht hq
    obtain ⟨n, rfl⟩ : ∃ n, N = n + 1 := ⟨N - 1, by omega⟩
    refine hK _ _ _ _ _ _ fn_law_divides rfl rfl ?_
    conv => whnf
    exact hq
  | op c a b iha ihb =>
    intro N Q X h hN ht hq
    obtain ⟨n, rfl⟩ : ∃ n, N = n + 1 := ⟨N - 1, by omega⟩
    have hN : max a.deep b.deep + 1 + 1 ≤ n + 1 := hN
    refine hK _ _ _ _ _ _ fn_law_divides rfl rfl ?_
    obtain ⟨hc, ha, hb⟩ := ht
    have na : a.deep + 1 ≤ n := Nat.le_trans (Nat.succ_le_succ (Nat.le_max_left ..)) (Nat.le_of_succ_le_succ hN)
    have nb : b.deep + 1 ≤ n := Nat.le_trans (Nat.succ_le_succ (Nat.le_max_right ..)) (Nat.le_of_succ_le_succ hN)
    have fin' : ∀ x, dvs (.op c a b) = (x || dvs a || dvs b) → wpE K n (.or [.cst (.bool x), .call 14 [.idx (.var 0) (.cst (.int 1))], .call 14 [.idx (.var 0) (.cst (.int 2))]]) (fun v m => fin Q (.ret v) m) (fun c m => X c m.heap) ⟨[some (Tm.op c a b).mv], h⟩ := fun x hx => by
      cases x with
      | true =>
        conv => whnf
        rw [hx] at hq
        exact hq
      | false =>
        conv => whnf
        refine iha na ha ?_
        cases hda : dvs a with
        | true =>
          conv => whnf
          rw [hx, hda] at hq
          exact hq
        | false =>
          conv => whnf
          refine ihb nb hb ?_
          conv => whnf
          rw [hx, hda] at hq
          exact hq
    rcases hc with rfl | rfl | rfl | rfl | rfl | rfl
    · exact fin' false rfl
    · exact fin' false rfl
    · exact fin' false rfl
    · exact fin' false rfl
    · exact fin' false rfl
    · exact fin' true rfl

theorem k_names_in {ss : List (List Nat)} {t : Tm} {N : Nat} {Q : MV → List MO → Prop} {X : XT} {h : List MO} (hN : 14 ≤ N) (ht : t.ok (· ∈ ss)) (hl : t.lv ≤ 16) (hd : t.deep ≤ 11) (hss : ss.length ≤ 10)
    (hq : ∀ r h', h <+: h' → h.length ≤ r → h'[r]? = some (.list ((sset (an t)).map .str)) → Q (.ref r) h') : K N 1 [t.mv] Q X h := by
  obtain ⟨n, rfl⟩ : ∃ n, N = n + 1 := ⟨N - 1, by omega⟩
  refine hK _ _ _ _ _ _ fn_names_in rfl rfl ?_
  conv => whnf
  refine k_an hK t (by omega) ht (by omega) fun r1 h1 p1 e1 => ?_
  have p1 : h <+: h1 := p1
  conv => whnf
  dsimp only
  rw [e1]
  dsimp only
  have hlen := an_len t
  have hsl : (sset (an t)).length ≤ ss.length := sset_le (an_ok ht)
  refine .mk (an t) rfl (by omega) (by omega) ?_
  exact hq _ _ (pre_push p1) p1.length_le (get_last _ _)
theorem k_right {ss : List (List Nat)} {t : Tm} {N : Nat} {Q : MV → List MO → Prop} {X : XT} {h : List MO} (hN : 14 ≤ N) (ht : t.ok (· ∈ ss)) (hl : t.lv ≤ 16) (hd : t.deep ≤ 11) (hss : ss.length ≤ 10)
    (hq : ∀ r h', h <+: h' → h.length ≤ r → h'[r]? = some (.list ((sset (arn t)).map .str)) → Q (.ref r) h') : K N 3 [t.mv] Q X h := by
  obtain ⟨n, rfl⟩ : ∃ n, N = n + 1 := ⟨N - 1, by omega⟩
  refine hK _ _ _ _ _ _ fn_right_names rfl rfl ?_
  conv => whnf
  refine k_arn hK t (by omega) ht (by omega) hd fun r1 h1 p1 e1 => ?_
  have p1 : h <+: h1 := p1
  conv => whnf
  dsimp only
  rw [e1]
  dsimp only
  have hlen : (arn t).length ≤ 11 * 16 := Nat.le_trans (arn_len t) (Nat.mul_le_mul hd hl)
  have hsl : (sset (arn t)).length ≤ ss.length := sset_le fun x hx => an_ok ht x (arn_an t x hx)
  refine .mk (arn t) rfl (by omega) (by omega) ?_
  exact hq _ _ (pre_push p1) p1.length_le (get_last _ _)
end Mine
end
section
set_option autoImplicit false
namespace Mine

theorem deqs_strs : ∀ (ss : List (List Nat)), D.deqs (ss.map .str) (ss.map .str) = true
  | [] => rfl
  | s :: ss => by simp only [List.map_cons, D.deqs, D.deq, beq_self_eq_true, deqs_strs ss, Bool.and_self]
theorem ty_list {hp : List MO} {r : Nat} {xs : List MV} (e : hp[r]? = some (.list xs)) : tyOf hp (.ref r) .list = some true := by
  show tyO hp[r]? .list = _
  rw [e]; rfl
/-- two lists of two lists of texts that are alike -/
theorem eq_two {hp : List MO} {r r' a b a' b' : Nat} {x y : List (List Nat)} {Q : Bool → Prop} (hr : hp[r]? = some (.list [.ref a, .ref b])) (hr' : hp[r']? = some (.list [.ref a', .ref b'])) (ha : hp[a]? = some (.list (x.map .str))) (hb : hp[b]? = some (.list (y.map .str)))
    (ha' : hp[a']? = some (.list (x.map .str))) (hb' : hp[b']? = some (.list (y.map .str))) (hx : ∀ s ∈ x, okS s) (hy : ∀ s ∈ y, okS s) (hq : Q true) : EqP hp (.ref r) (.ref r') Q := by
  have e : D.ok (.list [.list (x.map .str), .list (y.map .str)]) = true := by simp only [D.ok, D.oks, oks_strs hx, oks_strs hy, Bool.and_self]
  refine .mk (.list [.list (x.map .str), .list (y.map .str)]) (.list [.list (x.map .str), .list (y.map .str)]) (.list hr (.cons (.list ha (rds_strs x)) (.cons (.list hb (rds_strs y)) .nil))) (.list hr' (.cons (.list ha' (rds_strs x)) (.cons (.list hb' (rds_strs y)) .nil))) ?_ e e ?_
  · simp only [D.deep, D.deeps, deeps_strs]; decide
  · simp only [D.deq, D.deqs, deqs_strs, Bool.and_self]; exact hq

variable {K : KT} (hK : Closed (fnP tab) K)
include hK

theorem k_asked {ss : List (List Nat)} {t : Tm} {N : Nat} {Q : MV → List MO → Prop} {X : XT} {h : List MO} (hN : 15 ≤ N) (ht : t.ok (· ∈ ss)) (hl : t.lv ≤ 16) (hd : t.deep ≤ 11) (hss : ss.length ≤ 10) (hs : ∀ s ∈ ss, okS s)
    (hq : ∀ r a b h', h <+: h' → h.length ≤ a → a < b → b < r → h'[r]? = some (.list [.ref a, .ref b]) → h'[a]? = some (.list ((sset (an t)).map .str)) → h'[b]? = some (.list ((sset (arn t)).map .str)) → Q (.ref r) h') : K N 15 [t.mv] Q X h := by
  obtain ⟨n, rfl⟩ : ∃ n, N = n + 1 := ⟨N - 1, by omega⟩
  refine hK _ _ _ _ _ _ fn_law_asked rfl rfl ?_
  conv => whnf
  refine k_names_in hK (by omega) ht hl hd hss fun a h1 p1 l1 e1 => ?_
  have p1 : h <+: h1 := p1
  have l1 : h.length ≤ a := l1
  conv => whnf
  refine k_right hK (by omega) ht hl hd hss fun b h2 p2 l2 e2 => ?_
  have p2 : h1 <+: h2 := p2
  have l2 : h1.length ≤ b := l2
  conv => whnf
  dsimp only [MS.set, MS.push, List.set]
  rw [iter_list (get_last _ _)]
  dsimp only
  rw [compL_cons]
  refine ⟨get_last _ _, ?_⟩
  conv => whnf
  refine k_nof hK t (by omega) ht (by omega) fun c1 h3 p3 e3 => ?_
  have p3 : h2 ++ [MO.list [.ref a, .ref b]] ++ [MO.list [.bool true, .bool false]] <+: h3 := p3
  conv => whnf
  dsimp only
  rw [e3]
  dsimp only
  have hln : ∀ d, (nof t d).length ≤ 16 := fun d => Nat.le_trans (nof_len t d) hl
  have hst : (sset (nof t true)).length ≤ ss.length := by rw [nof_true]; exact sset_le (an_ok ht)
  have hsf : (sset (nof t false)).length ≤ ss.length := sset_le fun x hx => an_ok ht x (arn_an t x ((arn_nof t x).mpr hx))
  refine .mk (nof t true) rfl (by omega) (by have := hln true; omega) ?_
  dsimp only [MS.set, MS.push, List.set]
  rw [compL_cons]
  refine ⟨get_old (pre_at p3 (get_last _ _)), ?_⟩
  conv => whnf
  refine k_nof hK t (by omega) ht (by omega) fun c2 h4 p4 e4 => ?_
  have p4 : h3 ++ [MO.list ((sset (nof t true)).map .str)] <+: h4 := p4
  conv => whnf
  dsimp only
  rw [e4]
  dsimp only
  refine .mk (nof t false) rfl (by omega) (by have := hln false; omega) ?_
  dsimp only [MS.set, MS.push, List.set]
  rw [compL_nil]
  have q3 : h2 ++ [MO.list [.ref a, .ref b]] <+: h3 := (pre_push (pre_self _)).trans p3
  have q4 : h3 <+: h4 := (pre_push (pre_self _)).trans p4
  refine ⟨get_old (pre_at q4 (pre_at p3 (get_last _ _))), ?_⟩
  conv => whnf
  dsimp only [MS.set, MS.push, List.set]
  have er : h4[h2.length]? = some (.list [.ref a, .ref b]) := pre_at q4 (pre_at q3 (get_last _ _))
  have ea : h4[a]? = some (.list ((sset (an t)).map .str)) := pre_at q4 (pre_at q3 (get_old (pre_at p2 e1)))
  have eb : h4[b]? = some (.list ((sset (arn t)).map .str)) := pre_at q4 (pre_at q3 (get_old e2))
  rw [iter_list (get_old (get_old er))]
  dsimp only
  rw [compL_cons]
  refine ⟨get_old (get_old er), ?_⟩
  conv => whnf
  dsimp only [MS.set, MS.push, List.set]
  rw [ty_list (get_old (get_old ea))]
  dsimp only
  rw [compL_cons]
  refine ⟨get_old (get_old er), ?_⟩
  conv => whnf
  dsimp only [MS.set, MS.push, List.set]
  rw [ty_list (get_old (get_old eb))]
  dsimp only
  rw [compL_nil]
  refine ⟨get_old (get_old er), ?_⟩
  conv => whnf
  dsimp only [MS.set, MS.push, List.set, List.nil_append, List.cons_append]
  refine .mk (.list [.bool true, .bool true]) (.list [.bool true, .bool true]) (.list (get_old (get_last _ _)) (.cons (.bool _) (.cons (.bool _) .nil))) (.list (get_last _ _) (.cons (.bool _) (.cons (.bool _) .nil))) (by decide) (by decide) (by decide) ?_
  have hx : ∀ s ∈ sset (an t), okS s := fun s h => hs s (an_ok ht s (sset_mem.mp h))
  have hy : ∀ s ∈ sset (arn t), okS s := fun s h => hs s (an_ok ht s (arn_an t s (sset_mem.mp h)))
  have ex : sset (nof t true) = sset (an t) := by rw [nof_true]
  have ey : sset (nof t false) = sset (arn t) := sset_eq fun x => (arn_nof t x).symm
  conv => whnf
  refine eq_two (get_old (get_old (get_old (get_old er)))) (get_old (get_old (get_last _ _))) (get_old (get_old (get_old (get_old ea)))) (get_old (get_old (get_old (get_old eb))))
    (get_old (get_old (get_old (get_old (pre_at p4 (by rw [← ex]; exact get_last _ _)))))) (get_old (get_old (get_old (by rw [← ey]; exact get_last _ _)))) hx hy ?_
  conv => whnf
  refine k_div hK t (by omega) ht ?_
  conv => whnf
  refine k_ldiv hK t (by omega) ht ?_
  have hb : a < b := Nat.lt_of_lt_of_le (List.getElem?_eq_some_iff.mp e1).1 l2
  have hr : b < h2.length := (List.getElem?_eq_some_iff.mp e2).1
  have fin' : ∀ H, h4 <+: H → Q (.ref h2.length) H := fun H hp => hq _ a b _ ((((p1.trans p2).trans (pre_push (pre_self _))).trans q3).trans (q4.trans hp)) l1 hb hr (pre_at hp er) (pre_at hp ea) (pre_at hp eb)
  cases dvs t
  · conv => whnf
    exact fin' _ (pre_push (pre_push (pre_push (pre_push (pre_self _)))))
  · conv => whnf
    exact fin' _ (pre_push (pre_push (pre_push (pre_push (pre_self _)))))
end Mine
end
section
set_option autoImplicit false
namespace Mine
variable {K : KT} (hK : Closed (fnP tab) K)
include hK

theorem law_ok (is : List Int) : wpSs K 600 fn_law.body (fin fun v _ => v = .bool true) (fun _ _ => False) (start fn_law [.scr is] []) := by
  conv => whnf
  refine k_cell hK (by decide) ?_
  conv => whnf
  refine k_cell hK (by decide) ?_
  conv => whnf
  refine k_names hK fun h₁ r ss hpre hlen hr hl hs hnd hkw => ?_
  have hok : ∀ s ∈ ss, okS s := fun s h => (hs s h).ok
  conv => whnf
  refine k_cell hK (by decide) ?_
  conv => whnf
  refine k_deep hK hr hok fun t h₂ ht hd hlv hpre2 => ?_
  have hr2 : h₂[r]? = some (.list (ss.map .str)) := pre_at hpre2 hr
  conv => whnf
  refine k_cell hK (by decide) ?_
  conv => whnf
  refine k_mixed hK ?_
  conv => whnf
  refine k_deep hK hr2 hok fun t' h₃ ht' hd' hlv' hpre3 => ?_
  conv => whnf
  refine k_asked hK (by decide) ht hlv hd (by omega) hok fun q a b h₄ p4 la lb lq eq ea eb => ?_
  conv => whnf
  dsimp only [MS.set, MS.push, List.set]
  rw [iter_list eq]
  dsimp only
  rw [compL_cons]
  refine ⟨eq, ?_⟩
  conv => whnf
  dsimp only [MS.set, MS.push, List.set]
  rw [ea]
  dsimp only [MS.set, MS.push, List.set]
  rw [compL_cons]
  refine ⟨get_old eq, ?_⟩
  conv => whnf
  dsimp only [MS.set, MS.push, List.set]
  rw [get_old eb]
  dsimp only [MS.set, MS.push, List.set]
  rw [compL_nil]
  refine ⟨get_old (get_old eq), ?_⟩
  dsimp only [MS.set, MS.push, List.set, List.nil_append, List.cons_append]
  conv => whnf
  refine k_asked hK (by decide) ht' hlv' hd' (by omega) hok fun q' a' b' h₅ p5 la' lb' lq' eq' ea' eb' => ?_
  have hx : ∀ s ∈ sset (an t), okS s := fun s h => hok s (an_ok ht s (sset_mem.mp h))
  have hy : ∀ s ∈ sset (arn t), okS s := fun s h => hok s (an_ok ht s (arn_an t s (sset_mem.mp h)))
  have hxl : (sset (an t)).length ≤ 10 := by rw [← hl]; exact sset_le (an_ok ht)
  have hyl : (sset (arn t)).length ≤ 10 := by rw [← hl]; exact sset_le fun s h => an_ok ht s (arn_an t s h)
  generalize hX : sset (an t) = x at *
  generalize hY : sset (arn t) = y at *
  have p5 : h₄ ++ [MO.list (x.map .str)] ++ [MO.list (y.map .str)] ++ [MO.list [.ref h₄.length, .ref (h₄ ++ [MO.list (x.map .str)]).length]] <+: h₅ := p5
  generalize hc2 : (h₄ ++ [MO.list (x.map .str)]).length = c2 at *
  have ec2 : (h₄ ++ [MO.list (x.map .str)] ++ [MO.list (y.map .str)])[c2]? = some (.list (y.map .str)) := by rw [← hc2]; exact get_last _ _
  have eq5 : h₅[q]? = some (.list [.ref a, .ref b]) := pre_at p5 (get_old (get_old (get_old eq)))
  have ea5 : h₅[a]? = some (.list (x.map .str)) := pre_at p5 (get_old (get_old (get_old ea)))
  have eb5 : h₅[b]? = some (.list (y.map .str)) := pre_at p5 (get_old (get_old (get_old eb)))
  have e15 : h₅[h₄.length]? = some (.list (x.map .str)) := pre_at p5 (get_old (get_old (get_last _ _)))
  have e25 : h₅[c2]? = some (.list (y.map .str)) := pre_at p5 (get_old ec2)
  generalize hch : (h₄ ++ [MO.list (x.map .str)] ++ [MO.list (y.map .str)]).length = ch at *
  have eh5 : h₅[ch]? = some (.list [.ref h₄.length, .ref c2]) := pre_at p5 (by rw [← hch]; exact get_last _ _)
  have lq4 : q < h₄.length := (List.getElem?_eq_some_iff.mp eq).1
  have lc2 : c2 = h₄.length + 1 := by rw [← hc2]; simp
  have lch : ch = h₄.length + 2 := by rw [← hch]; simp
  conv => whnf
  refine eq_two eq5 eh5 ea5 eb5 e15 e25 hx hy ?_
  conv => whnf
  dsimp only
  rw [eq5]
  conv => whnf
  rw [ok_append ea5]
  conv => whnf
  dsimp only
  rw [ea5]
  dsimp only
  refine ⟨by simp only [List.length_map]; unfold line; omega, ?_⟩
  dsimp only [MS.put]
  have nqa : a ≠ q := by omega
  have nqb : b ≠ q := by omega
  have nab : a ≠ b := by omega
  generalize hZ : h₅.set a (MO.list (x.map .str ++ [MV.str [122, 122]])) = h₆ at *
  have keep6 : ∀ i o, i ≠ a → h₅[i]? = some o → h₆[i]? = some o := fun i o hi e => by rw [← hZ, List.getElem?_set_ne (Ne.symm hi)]; exact e
  have ea6 : h₆[a]? = some (.list (x.map .str ++ [MV.str [122, 122]])) := by rw [← hZ]; exact get_set ea5
  conv => whnf
  dsimp only
  rw [keep6 _ _ (Ne.symm nqa) eq5]
  conv => whnf
  rw [ok_append (keep6 _ _ (Ne.symm nab) eb5)]
  conv => whnf
  dsimp only
  rw [keep6 _ _ (Ne.symm nab) eb5]
  dsimp only
  refine ⟨by simp only [List.length_map]; unfold line; omega, ?_⟩
  dsimp only [MS.put]
  generalize hZ' : h₆.set b (MO.list (y.map .str ++ [MV.str [122, 122]])) = h₇ at *
  have keep7 : ∀ i o, i ≠ b → h₆[i]? = some o → h₇[i]? = some o := fun i o hi e => by rw [← hZ', List.getElem?_set_ne (Ne.symm hi)]; exact e
  have eb7 : h₇[b]? = some (.list (y.map .str ++ [MV.str [122, 122]])) := by rw [← hZ']; exact get_set (keep6 _ _ (Ne.symm nab) eb5)
  have ea7 := keep7 _ _ nab ea6
  have keep : ∀ i o, i ≠ a → i ≠ b → h₅[i]? = some o → h₇[i]? = some o := fun i o h1 h2 e => keep7 i o h2 (keep6 i o h1 e)
  have eq7 := keep _ _ (Ne.symm nqa) (Ne.symm nqb) eq5
  have e17 := keep _ _ (by omega) (by omega) e15
  have e27 := keep _ _ (by omega) (by omega) e25
  have eh7 := keep _ _ (by omega) (by omega) eh5
  conv => whnf
  refine k_asked hK (by decide) ht hlv hd (by omega) hok fun q2 a2 b2 h₈ p8 _ _ _ _ _ _ => ?_
  have p8 : h₇ <+: h₈ := p8
  conv => whnf
  dsimp only
  rw [pre_at p8 eh7]
  conv => whnf
  dsimp only [MS.push, MS.set]
  rw [get_old (pre_at p8 e17), get_last]
  dsimp only
  refine ⟨le_line (by simp only [List.length_map, List.length_cons, List.length_nil]; omega), ?_⟩
  conv => whnf
  dsimp only [MS.push, MS.set]
  rw [get_old (get_old (pre_at p8 eh7))]
  conv => whnf
  dsimp only [MS.push, MS.set]
  rw [get_old (get_old (get_old (pre_at p8 e27))), get_last]
  dsimp only
  refine ⟨le_line (by simp only [List.length_map, List.length_cons, List.length_nil]; omega), ?_⟩
  conv => whnf
  dsimp only [MS.push, MS.set]
  have ex : x.map MV.str ++ [MV.str [122, 122]] = (x ++ [[122, 122]]).map MV.str := by simp
  have ey : y.map MV.str ++ [MV.str [122, 122]] = (y ++ [[122, 122]]).map MV.str := by simp
  have hzz : okS [122, 122] := by unfold okS; decide
  have hx' : ∀ s ∈ x ++ [[122, 122]], okS s := fun s h => (List.mem_append.mp h).elim (hx s) fun h => by
    have : s = [122, 122] := by simpa using h
    subst this; exact hzz
  have hy' : ∀ s ∈ y ++ [[122, 122]], okS s := fun s h => (List.mem_append.mp h).elim (hy s) fun h => by
    have : s = [122, 122] := by simpa using h
    subst this; exact hzz
  rw [ex] at ea7 ⊢
  rw [ey] at eb7 ⊢
  refine eq_two (get_old (get_old (get_old (get_old (get_old (pre_at p8 eq7)))))) (get_last _ _) (get_old (get_old (get_old (get_old (get_old (pre_at p8 ea7)))))) (get_old (get_old (get_old (get_old (get_old (pre_at p8 eb7)))))) (get_old (get_old (get_old (get_last _ _)))) (get_old (get_last _ _)) hx' hy' ?_
  rfl
end Mine
end
open PySem PySem.W PyProof.Rows Mine
set_option Elab.async false
set_option maxRecDepth 100000
set_option maxHeartbeats 8000000
theorem PySem.Challenge.cw_uf010009_01_holds : PySem.Challenge.rw_uf010009_01.Holds := by
  w_on; o_law; o_head Hook.none; (case hw => w_witness2)
  intro w s₀ s₁ mg mb G Y fa o pm cd doc dV kV ho hd hcd hD hmg hg args vals as hpre hlay hrd hwl hlo
  have V := (Ground.X G).2
  have T := G.T
  clear hd hcd hD
  wrow_args hpre hlay hrd hwl hlo
  rename Well _ _ _ _ => hW
  rename IntsAre _ _ => hI
  rename Heap.IsList _ _ _ => hL
  rename (¬ _ < _) => hc
  refine law_call T (tab := Mine.tab) (gl := Mine.gl) (f := 16) (x := "law") (d := fn_law) ?zzimp ?zzchk ?zzblt ?zzhgl rfl hg rfl rfl hmg rfl (scr_of hW hL hI ?zzhz) (fun K hK => law_ok hK _) ?zzhQ
  case zzimp => decide +kernel
  case zzchk => decide +kernel
  case zzblt => decide +kernel
  case zzhz => unfold line; omega
  case zzhgl =>
    intro g x v e
    unfold Mine.gl at e
    cases e
  case zzhQ =>
    intro s' h1 h2 h3
    refine GoodW.toG ⟨.inl ⟨_, .bool true, [], rfl, ?_, ?_, ?_, ?_⟩, h1, h2, h3⟩
    · exact fun _ => rfl
    · exact .bool _
    · exact post_true _ _ _
    · exact fun _ => ⟨List.nodup_nil, fun _ h => by cases h⟩
