import PyProof.Rows.All
import PyProof.Rules2
import PyProof.FactsAll.dict_1
import PyProof.FactsAll.dict_2
import PyProof.TupleIter
import PyProof.FactsAll.subtypes_5
import PyProof.Rules3
import PyProof.SliceSyntax
import PyProof.ForAny
import PyProof.CallRoads
import PyProof.CallType
import PyProof.CallStr
import PyProof.Cells
import PyProof.StrLoop
import PyProof.CompFree
import PyProof.Conv_int_bool
import PyProof.DictKinds
import PyProof.DictRoads
import PyProof.DictTruth
import PyProof.DictStraight
import PyProof.DictCopy
import PyProof.DictIter
import PyProof.EnumStmt
import PyProof.P3Eq
import PyProof.NeData
import PyProof.StrLawsIn
import PyProof.SliceStr2
import PyProof.StrOps
import PyProof.StrBlock
import PyProof.WalksMore
import PyProof.RangeFor
import PyProof.IsiHeapPairs
import PyProof.IsiNone
import PyProof.IsiPairs
import PyProof.IsiSeqPairs
import PyProof.ListCopy
import PyProof.ListIndexNeg
import PyProof.Rows.TupAssign
import PyProof.Rows.TupSub
import PyProof.Rows.TupIn
import PyProof.WalksPairs
import PyProof.Rows.Many
import PyProof.Rows.Exc
import PyProof.Rows.RuleU_int
import PyProof.Rows.RuleB_mul
import PyProof.Rows.RuleB_sub
import PyProof.Rows.RuleB_pow
import PyProof.Rows.FactsT1
import PyProof.WalksEnum
import PyProof.Rows.RuleB_floordiv
import PyProof.Rows.RuleB_mod
import PyProof.StrCalls3
import PyProof.Rows.StrTemp
import PyProof.Rows.RuleB_small
import PyProof.Rows.RuleC_int
import PyProof.TupleOps
import PyProof.SliceMore
import PyProof.Rows.SeqMore
import PyProof.Rows.TupAdd
import PyProof.TupleOfSeq
import PyProof.Rows.SortStr
import Wide.Well
import Wide.Loose
import Open.Row
import Open.Line
import KE.KDictOf
import PySem.Challenge.RW_uf010009_02
set_option Elab.async false
section
set_option genSizeOf false
set_option genInjectivity false
namespace Mine

/-! The small language: values, objects, expressions, statements, and what must hold ahead of them. -/

inductive MV where
  | none | bool (b : Bool) | int (i : Int) | str (s : List Nat) | tup (xs : List MV) | ref (i : Nat) | inst (c i : Nat) | exc (c : Nat) | scr (is : List Int)

inductive MO where
  | list (xs : List MV) | dict (es : List (List Nat × MV))

structure MS where
  vars : List (Option MV)
  heap : List MO

inductive Fl where
  | next | brk | cont | ret (v : MV)

noncomputable abbrev XT := Nat → List MO → Prop
noncomputable abbrev XM := Nat → MS → Prop
/-- room, function, arguments, what is wanted, what is wanted of a raise, the heap -/
noncomputable abbrev KT := Nat → Nat → List MV → (MV → List MO → Prop) → XT → List MO → Prop

inductive Op where
  | add | sub | mul | fdiv | mod | pow
inductive Cmp where
  | eq | ne | lt | le | gt | ge | inn | nin
inductive Bi where
  | len | int | str | list | tuple | dict | sortedSet | sorted | sum | min | max | all | listRev
inductive Me where
  | append | extend | insert | pop | clear | count | index | find | split | join | get
inductive TS where
  | int | bool | str | list | tuple | dict | cls (c : Nat)
inductive IK where
  | val | range1 | range2 | enum

inductive ME where
  | cst (v : MV)
  | var (i : Nat)
  | glob (g : Nat) (v : MV)
  | bin (op : Op) (a b : ME)
  | neg (a : ME)
  | not (a : ME)
  | and (es : List ME)
  | or (es : List ME)
  | cmp (op : Cmp) (a b : ME)
  | cmp2 (op op' : Cmp) (a b c : ME)
  | isN (pos : Bool) (a : ME)
  | call (f : Nat) (args : List ME)
  | blt (b : Bi) (args : List ME)
  | mth (k : Me) (o : ME) (args : List ME)
  | umth (f : Nat) (o : ME) (args : List ME)
  | new (c f : Nat) (args : List ME)
  | attr (o : ME) (x : List Nat)
  | idx (o i : ME)
  | sl (o : ME) (lo hi : Option ME)
  | list (es : List ME)
  | tup (es : List ME)
  | dict0
  | comp (elt : ME) (t : List Nat) (many : Bool) (k : IK) (src : List ME) (ifs : List ME)
  | isi (a : ME) (ts : List TS)

inductive MSt where
  | asg (t : List Nat) (many : Bool) (e : ME)
  | setAttr (o : ME) (x : List Nat) (e : ME)
  | setIdx (o i e : ME)
  | expr (e : ME)
  | ite (c : ME) (a b : List MSt)
  | for_ (t : List Nat) (many : Bool) (k : IK) (src : List ME) (body : List MSt)
  | while_ (c : ME) (body : List MSt)
  | ret (e : ME)
  | cont
  | raise (c : Nat)
  | try_ (body : List MSt) (c : Nat) (v : Nat) (h : List MSt)

noncomputable def MS.set (m : MS) (i : Nat) (v : MV) : MS := ⟨m.vars.set i (some v), m.heap⟩
noncomputable def MS.get (m : MS) (i : Nat) : Option MV := match m.vars[i]? with
  | some (some v) => some v
  | _ => none
noncomputable def MS.push (m : MS) (o : MO) : MS := ⟨m.vars, m.heap ++ [o]⟩
noncomputable def MS.put (m : MS) (i : Nat) (o : MO) : MS := ⟨m.vars, m.heap.set i o⟩

noncomputable def small (x : Int) : Prop := x.natAbs < 2 ^ 63
noncomputable def line : Nat := 2 ^ 24

noncomputable abbrev PQ := MV → MS → Prop

/-- data read out of the heap -/
inductive D where
  | none | bool (b : Bool) | int (i : Int) | str (s : List Nat) | list (xs : List D) | tup (xs : List D)

mutual
noncomputable def D.deq : D → D → Bool
  | .none, .none => true
  | .bool a, .bool b => a == b
  | .bool a, .int j => (if a then 1 else 0) == j
  | .int i, .bool b => i == (if b then 1 else 0)
  | .int i, .int j => i == j
  | .str x, .str y => x == y
  | .list xs, .list ys => D.deqs xs ys
  | .tup xs, .tup ys => D.deqs xs ys
  | _, _ => false
noncomputable def D.deqs : List D → List D → Bool
  | [], [] => true
  | x :: xs, y :: ys => D.deq x y && D.deqs xs ys
  | _, _ => false
end
mutual
noncomputable def D.deep : D → Nat
  | .list xs | .tup xs => D.deeps xs + 1
  | _ => 0
noncomputable def D.deeps : List D → Nat
  | [] => 0
  | x :: xs => max (D.deep x) (D.deeps xs)
end
mutual
noncomputable def D.ok : D → Bool
  | .list xs | .tup xs => D.oks xs
  | .str s => s.all (fun c => decide (c < 55296))
  | _ => true
noncomputable def D.oks : List D → Bool
  | [] => true
  | x :: xs => D.ok x && D.oks xs
end
mutual
inductive Rd (hp : List MO) : MV → D → Prop
  | none : Rd hp .none .none
  | bool (b) : Rd hp (.bool b) (.bool b)
  | int (i) : Rd hp (.int i) (.int i)
  | str (s) : Rd hp (.str s) (.str s)
  | tup {xs ds} : Rds hp xs ds → Rd hp (.tup xs) (.tup ds)
  | list {i xs ds} : hp[i]? = some (.list xs) → Rds hp xs ds → Rd hp (.ref i) (.list ds)
inductive Rds (hp : List MO) : List MV → List D → Prop
  | nil : Rds hp [] []
  | cons {x xs d ds} : Rd hp x d → Rds hp xs ds → Rds hp (x :: xs) (d :: ds)
end

noncomputable def aeq : MV → MV → Option Bool
  | .none, .none => some true
  | .bool a, .bool b => some (a == b)
  | .int i, .int j => some (i == j)
  | .str x, .str y => some (x == y)
  | .none, .int _ | .none, .str _ | .none, .bool _ | .int _, .none | .int _, .str _ | .str _, .none | .str _, .int _ | .bool _, .none | .str _, .bool _ | .bool _, .str _ => some false
  | _, _ => none

/-- two values compared, by what they hold -/
inductive EqP (hp : List MO) (x y : MV) (Q : Bool → Prop) : Prop
  | mk (d e : D) (hd : Rd hp x d) (he : Rd hp y e) (hk : d.deep ≤ 1000) (h1 : d.ok = true) (h2 : e.ok = true) (hq : Q (d.deq e))
  | dicts (i j : Nat) (es : List (List Nat × MV)) (hx : x = .ref i) (hy : y = .ref j) (hi : hp[i]? = some (.dict es)) (hj : hp[j]? = some (.dict es)) (hl : ∀ e ∈ es, ∃ k, e.2 = .int k) (hn : (es.map (·.1)).Nodup) (hq : Q true)

/-- a value among some values -/
inductive InP (hp : List MO) (x : MV) (ys : List MV) (Q : Bool → Prop) : Prop
  | mk (d : D) (es : List D) (hd : Rd hp x d) (he : Rds hp ys es) (hk : d.deep ≤ 1000) (h1 : d.ok = true) (h2 : D.oks es = true) (hq : Q (es.any (fun e => e.deq d)))

noncomputable def dget : List (List Nat × MV) → List Nat → Option MV
  | [], _ => none
  | (k, v) :: r, x => match k == x with
    | true => some v
    | false => dget r x
noncomputable def dset : List (List Nat × MV) → List Nat → MV → List (List Nat × MV)
  | [], x, v => [(x, v)]
  | (k, w) :: r, x, v => match k == x with
    | true => (k, v) :: r
    | false => (k, w) :: dset r x v
noncomputable def ddel : List (List Nat × MV) → List Nat → List (List Nat × MV)
  | [], _ => []
  | (k, w) :: r, x => match k == x with
    | true => r
    | false => (k, w) :: ddel r x

noncomputable def wpIn (x c : MV) (Q : Bool → Prop) (hp : List MO) : Prop :=
  match c, x with
  | .tup ys, x => InP hp x ys Q
  | .ref i, x => match hp[i]? with
    | some (.list ys) => InP hp x ys Q
    | some (.dict es) => match x with
      | .str s => Q (dget es s).isSome
      | _ => False
    | none => False
  | .str s, .str [a] => Q (s.contains a)
  | _, _ => False

noncomputable def wpCmp (op : Cmp) (x y : MV) (Q : Bool → MS → Prop) (m : MS) : Prop :=
  match op with
  | .eq => match aeq x y with
    | some b => Q b m
    | none => EqP m.heap x y (fun b => Q b m)
  | .ne => match aeq x y with
    | some b => Q (!b) m
    | none => EqP m.heap x y (fun b => Q (!b) m)
  | .lt => match x, y with
    | .int i, .int j => Q (decide (i < j)) m
    | _, _ => False
  | .le => match x, y with
    | .int i, .int j => Q (decide (i ≤ j)) m
    | _, _ => False
  | .gt => match x, y with
    | .int i, .int j => Q (decide (j < i)) m
    | _, _ => False
  | .ge => match x, y with
    | .int i, .int j => Q (decide (j ≤ i)) m
    | _, _ => False
  | .inn => wpIn x y (fun b => Q b m) m.heap
  | .nin => wpIn x y (fun b => Q (!b) m) m.heap

noncomputable def wpBin (op : Op) (a b : MV) (Q : PQ) (m : MS) : Prop :=
  match op, a, b with
  | .add, .int x, .int y => Q (.int (x + y)) m
  | .add, .str x, .str y => x.length + y.length ≤ line ∧ Q (.str (x ++ y)) m
  | .add, .tup x, .tup y => x.length + y.length ≤ line ∧ Q (.tup (x ++ y)) m
  | .add, .ref i, .ref j => match m.heap[i]?, m.heap[j]? with
    | some (.list x), some (.list y) => x.length + y.length ≤ line ∧ Q (.ref m.heap.length) (m.push (.list (x ++ y)))
    | _, _ => False
  | .sub, .int x, .int y => Q (.int (x - y)) m
  | .mul, .int x, .int y => (small x ∨ small y) ∧ Q (.int (x * y)) m
  | .fdiv, .int x, .int y => (0 < y ∧ y < 2 ^ 30) ∧ Q (.int (x / y)) m
  | .mod, .int x, .int y => 0 < y ∧ Q (.int (x % y)) m
  | .pow, .int x, .int y => (x = 10 ∧ (y = 6 ∨ y = 9)) ∧ Q (.int (x ^ y.toNat)) m
  | _, _, _ => False

/-- a place counted as Python counts it -/
noncomputable def pidx (k : Int) (n : Nat) : Option Nat :=
  match decide (0 ≤ k), decide (k < (n : Int)), decide (-(n : Int) ≤ k) with
  | true, true, _ => some k.toNat
  | false, _, true => some (k + n).toNat
  | _, _, _ => none
/-- a slice's end counted as Python counts it -/
noncomputable def pend (k : Int) (n : Nat) : Nat :=
  match decide (0 ≤ k) with
  | true => min k.toNat n
  | false => (k + n).toNat
noncomputable def pslice {α : Type} (xs : List α) (lo hi : Option Int) : List α :=
  let a := match lo with
    | none => 0
    | some k => pend k xs.length
  let b := match hi with
    | none => xs.length
    | some k => pend k xs.length
  (xs.take b).drop a

noncomputable def wpIdx (x i : MV) (Q : PQ) (m : MS) : Prop :=
  match x, i with
  | .tup xs, .int k => match pidx k xs.length with
    | some j => match xs[j]? with
      | some v => Q v m
      | none => False
    | none => False
  | .str s, .int k => match pidx k s.length with
    | some j => match s[j]? with
      | some c => Q (.str [c]) m
      | none => False
    | none => False
  | .ref r, .int k => match m.heap[r]? with
    | some (.list xs) => match pidx k xs.length with
      | some j => match xs[j]? with
        | some v => Q v m
        | none => False
      | none => False
    | _ => False
  | .scr xs, .int k => match pidx k xs.length with
    | some j => match xs[j]? with
      | some v => Q (.int v) m
      | none => False
    | none => False
  | .ref r, .str s => match m.heap[r]? with
    | some (.dict es) => match dget es s with
      | some v => Q v m
      | none => False
    | _ => False
  | _, _ => False

noncomputable def optInt : Option MV → Option (Option Int)
  | none => some none
  | some (.int k) => some (some k)
  | some _ => none
noncomputable def wpSl (x : MV) (lo hi : Option MV) (Q : PQ) (m : MS) : Prop :=
  match optInt lo, optInt hi with
  | some lo, some hi => match x with
    | .str s => Q (.str (pslice s lo hi)) m
    | .tup _ => False
    | .scr xs => Q (.ref m.heap.length) (m.push (.list (pslice (xs.map .int) lo hi)))
    | .ref r => match m.heap[r]? with
      | some (.list xs) => Q (.ref m.heap.length) (m.push (.list (pslice xs lo hi)))
      | _ => False
    | _ => False
  | _, _ => False

/-- texts, by Python's order -/
noncomputable def slt : List Nat → List Nat → Bool
  | [], [] => false
  | [], _ :: _ => true
  | _ :: _, [] => false
  | a :: x, b :: y => match decide (a < b), a == b with
    | true, _ => true
    | false, true => slt x y
    | false, false => false
noncomputable def sins (s : List Nat) : List (List Nat) → List (List Nat)
  | [] => [s]
  | t :: r => match slt s t, s == t with
    | true, _ => s :: t :: r
    | false, true => t :: r
    | false, false => t :: sins s r
/-- sorted, each once -/
noncomputable def sset : List (List Nat) → List (List Nat)
  | [] => []
  | s :: r => sins s (sset r)

/-- figures of a number -/
noncomputable def figs : Nat → Nat → List Nat
  | 0, _ => []
  | f + 1, n => match decide (n < 10) with
    | true => [48 + n]
    | false => figs f (n / 10) ++ [48 + n % 10]

noncomputable def b2i : Bool → Int
  | true => 1
  | false => 0

inductive SortP (xs : List MV) (Q : List (List Nat) → Prop) : Prop
  | mk (ss : List (List Nat)) (he : xs = ss.map .str) (hl : (sset ss).length < 64) (hz : ss.length < 4000) (hq : Q (sset ss))

inductive SumP (xs : List MV) (Q : Int → Prop) : Prop
  | mk (is : List Int) (he : xs = is.map .int) (hb : ∀ i ∈ is, 0 ≤ i ∧ i ≤ 1000000) (hl : is.length ≤ 1000000) (hq : Q is.sum)

noncomputable def wpLen (x : MV) (Q : PQ) (m : MS) : Prop := match x with
  | .tup xs => Q (.int xs.length) m
  | .str xs => Q (.int xs.length) m
  | .scr xs => Q (.int xs.length) m
  | .ref r => match m.heap[r]? with
    | some (.list xs) => Q (.int xs.length) m
    | some (.dict xs) => Q (.int xs.length) m
    | none => False
  | _ => False
noncomputable def wpListOf (x : MV) (Q : PQ) (m : MS) : Prop := match x with
  | .ref r => match m.heap[r]? with
    | some (.list xs) => Q (.ref m.heap.length) (m.push (.list xs))
    | _ => False
  | .tup xs => Q (.ref m.heap.length) (m.push (.list xs))
  | _ => False
noncomputable def wpBlt1 (b : Bi) (x : MV) (Q : PQ) (m : MS) : Prop := match b with
  | .len => wpLen x Q m
  | .int => match x with
    | .bool b => Q (.int (b2i b)) m
    | _ => False
  | .str => match x with
    | .str s => Q (.str s) m
    | _ => False
  | .list => wpListOf x Q m
  | .tuple => match x with
    | .ref r => match m.heap[r]? with
      | some (.list xs) => Q (.tup xs) m
      | _ => False
    | _ => False
  | .dict => match x with
    | .ref r => match m.heap[r]? with
      | some (.dict es) => Q (.ref m.heap.length) (m.push (.dict es))
      | _ => False
    | _ => False
  | _ => False
noncomputable def wpBlt (b : Bi) (vs : List MV) (Q : PQ) (m : MS) : Prop := match vs with
  | [x] => wpBlt1 b x Q m
  | _ => False

noncomputable def wpMth (k : Me) (o : MV) (vs : List MV) (Q : PQ) (m : MS) : Prop :=
  match k, o, vs with
  | .append, .ref r, [v] => match m.heap[r]? with
    | some (.list xs) => xs.length < line ∧ Q .none (m.put r (.list (xs ++ [v])))
    | _ => False
  | .find, .str _, [.str _] => ∀ k : Int, -1 ≤ k → Q (.int k) m
  | _, _, _ => False

/-- the method is there -/
noncomputable def mthOk (k : Me) (x : MV) (hp : List MO) : Bool :=
  match k, x with
  | .append, .ref r => match hp[r]? with
    | some (.list _) => true
    | _ => false
  | .find, .str _ => true
  | _, _ => false

noncomputable def tyOf (hp : List MO) : MV → TS → Option Bool
  | .none, _ => some false
  | .bool _, .bool => some true
  | .bool _, .int => some true
  | .bool _, _ => some false
  | .int _, .int => some true
  | .int _, _ => some false
  | .str _, .str => some true
  | .str _, _ => some false
  | .tup _, .tuple => some true
  | .tup _, _ => some false
  | .ref r, t => match hp[r]?, t with
    | some (.list _), .list => some true
    | some (.list _), _ => some false
    | some (.dict _), .dict => some true
    | some (.dict _), _ => some false
    | none, _ => none
  | _, _ => none

/-- what a loop goes over, and the list that must stay -/
noncomputable def iterOf (k : IK) (vs : List MV) (hp : List MO) : Option (List MV × Option (Nat × List MV)) :=
  match k, vs with
  | .val, [.ref r] => match hp[r]? with
    | some (.list xs) => some (xs, some (r, xs))
    | _ => none
  | .val, [.tup xs] => some (xs, none)
  | .val, [.str s] => match s.all (fun c => decide (c < 128)) with
    | true => some (s.map (fun c => .str [c]), none)
    | false => none
  | .range1, [.int n] => match decide (-16777216 ≤ n), decide (n ≤ 16777216) with
    | true, true => some ((List.range n.toNat).map (fun (i : Nat) => .int i), none)
    | _, _ => none
  | .range2, [.int a, .int b] => match decide (0 ≤ a), decide (a ≤ 16777216), decide (0 ≤ b), decide (b ≤ 16777216) with
    | true, true, true, true => some ((List.range (b - a).toNat).map (fun (i : Nat) => .int (a + i)), none)
    | _, _, _, _ => none
  | .enum, [.ref r] => match hp[r]? with
    | some (.list xs) => some (xs.zipIdx.map (fun p => .tup [.int p.2, p.1]), some (r, xs))
    | _ => none
  | _, _ => none

noncomputable def guardOk (g : Option (Nat × List MV)) (hp : List MO) : Prop := match g with
  | none => True
  | some (r, xs) => hp[r]? = some (.list xs)

noncomputable def setAll (t : List Nat) (xs : List MV) (m : MS) : MS := match t, xs with
  | i :: t, x :: xs => setAll t xs (m.set i x)
  | _, _ => m

noncomputable def asg (t : List Nat) (many : Bool) (v : MV) (Q : MS → Prop) (m : MS) : Prop :=
  match many, t, v with
  | false, [i], v => Q (m.set i v)
  | true, t, .tup xs => t.length = xs.length ∧ Q (setAll t xs m)
  | _, _, _ => False

noncomputable def forLr (g : Option (Nat × List MV)) (step : MV → (Fl → MS → Prop) → MS → Prop) (Q : Fl → MS → Prop) : List MV → MS → Prop
  | [], m => guardOk g m.heap ∧ Q .next m
  | v :: vs, m => guardOk g m.heap ∧ step v (fun f m => match f with
    | .next => forLr g step Q vs m
    | .cont => forLr g step Q vs m
    | .brk => Q .next m
    | .ret r => Q (.ret r) m) m
@[irreducible] noncomputable def forL (g : Option (Nat × List MV)) (step : MV → (Fl → MS → Prop) → MS → Prop) (Q : Fl → MS → Prop) : List MV → MS → Prop := forLr g step Q

noncomputable def compLr (g : Option (Nat × List MV)) (step : MV → (Option MV → MS → Prop) → MS → Prop) (Q : List MV → MS → Prop) : List MV → List MV → MS → Prop
  | [], acc, m => guardOk g m.heap ∧ Q acc m
  | v :: vs, acc, m => guardOk g m.heap ∧ step v (fun r m => match r with
    | some x => compLr g step Q vs (acc ++ [x]) m
    | none => compLr g step Q vs acc m) m
@[irreducible] noncomputable def compL (g : Option (Nat × List MV)) (step : MV → (Option MV → MS → Prop) → MS → Prop) (Q : List MV → MS → Prop) : List MV → List MV → MS → Prop := compLr g step Q

noncomputable def whileNr (c : (Bool → MS → Prop) → MS → Prop) (b : (Fl → MS → Prop) → MS → Prop) (Q : Fl → MS → Prop) : Nat → MS → Prop
  | 0, _ => False
  | k + 1, m => c (fun t m => match t with
    | true => b (fun f m => match f with
      | .next => whileNr c b Q k m
      | .cont => whileNr c b Q k m
      | .brk => Q .next m
      | .ret r => Q (.ret r) m) m
    | false => Q .next m) m
@[irreducible] noncomputable def whileN (c : (Bool → MS → Prop) → MS → Prop) (b : (Fl → MS → Prop) → MS → Prop) (Q : Fl → MS → Prop) : Nat → MS → Prop := whileNr c b Q

theorem forL_nil {g : Option (Nat × List MV)} {step : MV → (Fl → MS → Prop) → MS → Prop} {Q : Fl → MS → Prop} {m : MS} : forL g step Q [] m = (guardOk g m.heap ∧ Q .next m) := by unfold forL; rfl
theorem forL_cons {g : Option (Nat × List MV)} {step : MV → (Fl → MS → Prop) → MS → Prop} {Q : Fl → MS → Prop} {v : MV} {vs : List MV} {m : MS} : forL g step Q (v :: vs) m = (guardOk g m.heap ∧ step v (fun f m => match f with
    | .next => forL g step Q vs m
    | .cont => forL g step Q vs m
    | .brk => Q .next m
    | .ret r => Q (.ret r) m) m) := by unfold forL; rfl
theorem compL_nil {g : Option (Nat × List MV)} {step : MV → (Option MV → MS → Prop) → MS → Prop} {Q : List MV → MS → Prop} {acc : List MV} {m : MS} : compL g step Q [] acc m = (guardOk g m.heap ∧ Q acc m) := by unfold compL; rfl
theorem compL_cons {g : Option (Nat × List MV)} {step : MV → (Option MV → MS → Prop) → MS → Prop} {Q : List MV → MS → Prop} {v : MV} {vs acc : List MV} {m : MS} : compL g step Q (v :: vs) acc m = (guardOk g m.heap ∧ step v (fun r m => match r with
    | some x => compL g step Q vs (acc ++ [x]) m
    | none => compL g step Q vs acc m) m) := by unfold compL; rfl
theorem whileN_zero {c : (Bool → MS → Prop) → MS → Prop} {b : (Fl → MS → Prop) → MS → Prop} {Q : Fl → MS → Prop} {m : MS} : whileN c b Q 0 m = False := by unfold whileN; rfl
theorem whileN_succ {c : (Bool → MS → Prop) → MS → Prop} {b : (Fl → MS → Prop) → MS → Prop} {Q : Fl → MS → Prop} {k : Nat} {m : MS} : whileN c b Q (k + 1) m = c (fun t m => match t with
    | true => b (fun f m => match f with
      | .next => whileN c b Q k m
      | .cont => whileN c b Q k m
      | .brk => Q .next m
      | .ret r => Q (.ret r) m) m
    | false => Q .next m) m := by unfold whileN; rfl

noncomputable def ofBool (Q : Bool → MS → Prop) : PQ := fun v m => match v with
  | .bool b => Q b m
  | _ => False

mutual
noncomputable def wpE (K : KT) (n : Nat) : ME → PQ → XM → MS → Prop
  | .cst v, Q, _, m => Q v m
  | .glob _ v, Q, _, m => Q v m
  | .var i, Q, _, m => match m.get i with
    | some v => Q v m
    | none => False
  | .bin op a b, Q, X, m => wpE K n a (fun x m => wpE K n b (fun y m => wpBin op x y Q m) X m) X m
  | .neg a, Q, X, m => wpE K n a (fun x m => match x with
    | .int i => Q (.int (-i)) m
    | _ => False) X m
  | .not a, Q, X, m => wpE K n a (ofBool fun b m => Q (.bool (!b)) m) X m
  | .and es, Q, X, m => wpAnd K n es Q X m
  | .or es, Q, X, m => wpOr K n es Q X m
  | .cmp op a b, Q, X, m => wpE K n a (fun x m => wpE K n b (fun y m => wpCmp op x y (fun b m => Q (.bool b) m) m) X m) X m
  | .cmp2 op op' a b c, Q, X, m => wpE K n a (fun x m => wpE K n b (fun y m => wpCmp op x y (fun t m => match t with
    | true => wpE K n c (fun z m => wpCmp op' y z (fun b m => Q (.bool b) m) m) X m
    | false => Q (.bool false) m) m) X m) X m
  | .isN p a, Q, X, m => wpE K n a (fun x m => match x with
    | .none => Q (.bool p) m
    | _ => Q (.bool (!p)) m) X m
  | .call f args, Q, X, m => wpEs K n args (fun vs m => K n f vs (fun v h => Q v ⟨m.vars, h⟩) (fun c h => X c ⟨m.vars, h⟩) m.heap) X m
  | .blt b args, Q, X, m => wpEs K n args (fun vs m => wpBlt b vs Q m) X m
  | .mth k o args, Q, X, m => wpE K n o (fun x m => match mthOk k x m.heap with
    | true => wpEs K n args (fun vs m => wpMth k x vs Q m) X m
    | false => False) X m
  | .umth _ _ _, _, _, _ => False
  | .new _ _ _, _, _, _ => False
  | .attr _ _, _, _, _ => False
  | .idx o i, Q, X, m => wpE K n o (fun x m => wpE K n i (fun y m => wpIdx x y Q m) X m) X m
  | .sl o lo hi, Q, X, m => wpE K n o (fun x m => wpO K n lo (fun l m => wpO K n hi (fun h m => wpSl x l h Q m) X m) X m) X m
  | .list es, Q, X, m => wpEs K n es (fun vs m => Q (.ref m.heap.length) (m.push (.list vs))) X m
  | .tup es, Q, X, m => wpEs K n es (fun vs m => Q (.tup vs) m) X m
  | .dict0, Q, _, m => Q (.ref m.heap.length) (m.push (.dict []))
  | .comp elt t many k src ifs, Q, X, m => wpEs K n src (fun vs m => match iterOf k vs m.heap with
    | some (items, g) => compL g (fun v P m => asg t many v (fun m => wpIfs K n ifs (fun b m => match b with
        | true => wpE K n elt (fun x m => P (some x) m) X m
        | false => P none m) X m) m) (fun acc m' => Q (.ref m'.heap.length) ⟨m.vars, m'.heap ++ [.list acc]⟩) items [] m
    | none => False) X m
  | .isi a ts, Q, X, m => wpE K n a (fun x m => match ts with
    | [t] => match tyOf m.heap x t with
      | some b => Q (.bool b) m
      | none => False
    | [t, u] => match tyOf m.heap x t, tyOf m.heap x u with
      | some b, some c => Q (.bool (b || c)) m
      | _, _ => False
    | _ => False) X m
noncomputable def wpEs (K : KT) (n : Nat) : List ME → (List MV → MS → Prop) → XM → MS → Prop
  | [], Q, _, m => Q [] m
  | e :: r, Q, X, m => wpE K n e (fun v m => wpEs K n r (fun vs m => Q (v :: vs) m) X m) X m
noncomputable def wpO (K : KT) (n : Nat) : Option ME → (Option MV → MS → Prop) → XM → MS → Prop
  | none, Q, _, m => Q none m
  | some e, Q, X, m => wpE K n e (fun v m => Q (some v) m) X m
noncomputable def wpAnd (K : KT) (n : Nat) : List ME → PQ → XM → MS → Prop
  | [], _, _, _ => False
  | [e], Q, X, m => wpE K n e Q X m
  | e :: r, Q, X, m => wpE K n e (ofBool fun b m => match b with
    | true => wpAnd K n r Q X m
    | false => Q (.bool false) m) X m
noncomputable def wpOr (K : KT) (n : Nat) : List ME → PQ → XM → MS → Prop
  | [], _, _, _ => False
  | [e], Q, X, m => wpE K n e Q X m
  | e :: r, Q, X, m => wpE K n e (ofBool fun b m => match b with
    | true => Q (.bool true) m
    | false => wpOr K n r Q X m) X m
noncomputable def wpIfs (K : KT) (n : Nat) : List ME → (Bool → MS → Prop) → XM → MS → Prop
  | [], Q, _, m => Q true m
  | e :: r, Q, X, m => wpE K n e (ofBool fun b m => match b with
    | true => wpIfs K n r Q X m
    | false => Q false m) X m
end

mutual
noncomputable def wpS (K : KT) (n : Nat) : MSt → (Fl → MS → Prop) → XM → MS → Prop
  | .asg t many e, Q, X, m => wpE K n e (fun v m => asg t many v (fun m => Q .next m) m) X m
  | .setAttr _ _ _, _, _, _ => False
  | .setIdx o i e, Q, X, m => wpE K n e (fun v m => wpE K n o (fun x m => wpE K n i (fun y m => match x, y with
    | .ref r, .str s => match m.heap[r]? with
      | some (.dict es) => es.length < line ∧ Q .next (m.put r (.dict (dset es s v)))
      | _ => False
    | _, _ => False) X m) X m) X m
  | .expr e, Q, X, m => wpE K n e (fun v m => match v with
    | .none => Q .next m
    | .bool _ => Q .next m
    | .int _ => Q .next m
    | .str _ => Q .next m
    | _ => False) X m
  | .ite c a b, Q, X, m => wpE K n c (ofBool fun t m => match t with
    | true => wpSs K n a Q X m
    | false => wpSs K n b Q X m) X m
  | .for_ t many k src body, Q, X, m => wpEs K n src (fun vs m => match iterOf k vs m.heap with
    | some (items, g) => forL g (fun v P m => asg t many v (fun m => wpSs K n body P X m) m) Q items m
    | none => False) X m
  | .while_ c body, Q, X, m => ∃ k, whileN (fun P m => wpE K n c (ofBool P) X m) (fun P m => wpSs K n body P X m) Q k m
  | .ret e, Q, X, m => wpE K n e (fun v m => Q (.ret v) m) X m
  | .cont, Q, _, m => Q .cont m
  | .raise c, _, X, m => X c m
  | .try_ _ _ _ _, _, _, _ => False
noncomputable def wpSs (K : KT) (n : Nat) : List MSt → (Fl → MS → Prop) → XM → MS → Prop
  | [], Q, _, m => Q .next m
  | s :: r, Q, X, m => wpS K n s (fun f m => match f with
    | .next => wpSs K n r Q X m
    | f => Q f m) X m
end

/-- a function's end -/
noncomputable def fin (Q : MV → List MO → Prop) : Fl → MS → Prop := fun f m => match f with
  | .ret v => Q v m.heap
  | .next => Q .none m.heap
  | _ => False

structure Fn where
  args : Nat
  slots : Nat
  body : List MSt

noncomputable def start (d : Fn) (vs : List MV) (h : List MO) : MS := ⟨vs.map some ++ List.replicate (d.slots - d.args) none, h⟩

/-- what calls mean -/
noncomputable def Closed (P : Nat → Option Fn) (K : KT) : Prop :=
  ∀ n f vs Q X h d, P f = some d → vs.length = d.args → wpSs K n d.body (fin Q) (fun c m => X c m.heap) (start d vs h) → K (n + 1) f vs Q X h

end Mine
end
section
set_option autoImplicit false
set_option linter.unusedVariables false
namespace Mine
open PySem PyProof.Rows

noncomputable abbrev tupO (items : List Value) (n : Nat) : Obj := { cls := .type "tuple", dict := none, data := .seq items.toArray n, slots := #[] }
noncomputable abbrev listO (items : List Value) (n : Nat) : Obj := { cls := .type "list", dict := none, data := .seq items.toArray n, slots := #[] }
noncomputable abbrev dictO (es : List DictEntry) (n : Nat) : Obj := { cls := .type "dict", dict := none, data := .dict es.toArray n, slots := #[] }
noncomputable abbrev instO (C : Addr) (d : Addr) : Obj := { cls := .ref C, dict := some d, data := .plain, slots := #[] }
noncomputable abbrev str (s : List Nat) : Str := ⟨s.toArray⟩

/-- what is fixed while the law runs -/
structure Glo where
  prog : Program
  w : World
  base : Heap
  fa : Nat → Option Addr
  ca : Nat → Option Addr

/-- objects that nothing changes -/
noncomputable def Solid (o : Obj) : Prop := (o.cls = .type "tuple" ∧ ∃ xs n, o.data = .seq xs n) ∨ ((∃ c, o.cls = .ref c) ∧ (o.data = .plain ∨ ∃ vs, o.data = .fields vs))
noncomputable def Solids (h h' : Heap) : Prop := ∀ a o, h.get? a = some o → Solid o → h'.get? a = some o

mutual
inductive Rep (C : Glo) (ρ : List Addr) (h : Heap) : MV → Value → Prop
  | none : Rep C ρ h .none .none
  | bool (b) : Rep C ρ h (.bool b) (.bool b)
  | int (i t) : Rep C ρ h (.int i) (.int i t)
  | str (s t) : s.length ≤ line → Rep C ρ h (.str s) (.str (str s) t)
  | tup {a n xs items} : h.get? a = some (tupO items n) → RepL C ρ h xs items → xs.length ≤ line → Rep C ρ h (.tup xs) (.ref a)
  | ref {i a} : ρ[i]? = some a → Rep C ρ h (.ref i) (.ref a)
  | scr {is a items n} : C.base.get? a = some (listO items n) → IntsAre items is → is.length ≤ line → Rep C ρ h (.scr is) (.ref a)
  | inst {c i a k d} : C.ca c = some k → ρ[i]? = some d → h.get? a = some (instO k d) → Rep C ρ h (.inst c i) (.ref a)
inductive RepL (C : Glo) (ρ : List Addr) (h : Heap) : List MV → List Value → Prop
  | nil : RepL C ρ h [] []
  | cons {x v xs vs} : Rep C ρ h x v → RepL C ρ h xs vs → RepL C ρ h (x :: xs) (v :: vs)
end

theorem solid_tup {items : List Value} {n : Nat} : Solid (tupO items n) := .inl ⟨rfl, _, _, rfl⟩
theorem solid_inst {C d : Addr} : Solid (instO C d) := .inr ⟨⟨_, rfl⟩, .inl rfl⟩
theorem pre_get {ρ ρ' : List Addr} (hp : ρ <+: ρ') {i : Nat} {a : Addr} (h : ρ[i]? = some a) : ρ'[i]? = some a := by
  obtain ⟨t, rfl⟩ := hp
  rw [List.getElem?_append_left (List.getElem?_eq_some_iff.mp h).1]; exact h

section
variable {C : Glo} {ρ ρ' : List Addr} {h h' : Heap}
mutual
theorem Rep.up (hs : Solids h h') (hp : ρ <+: ρ') : ∀ {x : MV} {v : Value}, Rep C ρ h x v → Rep C ρ' h' x v
  | _, _, .none => .none
  | _, _, .bool b => .bool b
  | _, _, .int i t => .int i t
  | _, _, .str s t z => .str s t z
  | _, _, .tup e l z => .tup (hs _ _ e solid_tup) (RepL.up hs hp l) z
  | _, _, .ref e => .ref (pre_get hp e)
  | _, _, .scr e l z => .scr e l z
  | _, _, .inst e1 e2 e3 => .inst e1 (pre_get hp e2) (hs _ _ e3 solid_inst)
theorem RepL.up (hs : Solids h h') (hp : ρ <+: ρ') : ∀ {x : List MV} {v : List Value}, RepL C ρ h x v → RepL C ρ' h' x v
  | _, _, .nil => .nil
  | _, _, .cons a b => .cons (Rep.up hs hp a) (RepL.up hs hp b)
end

theorem ints_rep : ∀ {is : List Int} {items : List Value}, IntsAre items is → RepL C ρ h (is.map .int) items
  | _, _, .nil => .nil
  | _, _, .cons n t r => .cons (.int n t) (ints_rep r)
theorem RepL.length : ∀ {xs : List MV} {vs : List Value}, RepL C ρ h xs vs → vs.length = xs.length
  | _, _, .nil => rfl
  | _, _, .cons _ b => by simp only [List.length_cons, b.length]
theorem RepL.get : ∀ {xs : List MV} {vs : List Value}, RepL C ρ h xs vs → ∀ {i : Nat} {x : MV}, xs[i]? = some x → ∃ v, vs[i]? = some v ∧ Rep C ρ h x v
  | _, _, .nil, _, _, e => by simp at e
  | _, _, .cons a b, 0, _, e => by simp at e; subst e; exact ⟨_, rfl, a⟩
  | _, _, .cons a b, i + 1, x, e => by
    simp only [List.getElem?_cons_succ] at e ⊢
    exact b.get e
theorem RepL.append : ∀ {xs : List MV} {vs : List Value} {ys : List MV} {ws : List Value}, RepL C ρ h xs vs → RepL C ρ h ys ws → RepL C ρ h (xs ++ ys) (vs ++ ws)
  | _, _, _, _, .nil, l => l
  | _, _, _, _, .cons a b, l => .cons a (b.append l)
theorem RepL.take : ∀ {xs : List MV} {vs : List Value} (k : Nat), RepL C ρ h xs vs → RepL C ρ h (xs.take k) (vs.take k)
  | _, _, _, .nil => by simp only [List.take_nil]; exact .nil
  | _, _, 0, .cons a b => by simp only [List.take_zero]; exact .nil
  | _, _, k + 1, .cons a b => by simp only [List.take_succ_cons]; exact .cons a (b.take k)
theorem RepL.drop : ∀ {xs : List MV} {vs : List Value} (k : Nat), RepL C ρ h xs vs → RepL C ρ h (xs.drop k) (vs.drop k)
  | _, _, _, .nil => by simp only [List.drop_nil]; exact .nil
  | _, _, 0, .cons a b => by simp only [List.drop_zero]; exact .cons a b
  | _, _, k + 1, .cons a b => by simp only [List.drop_succ_cons]; exact b.drop k
theorem RepL.set : ∀ {xs : List MV} {vs : List Value} (k : Nat) {x : MV} {v : Value}, RepL C ρ h xs vs → Rep C ρ h x v → RepL C ρ h (xs.set k x) (vs.set k v)
  | _, _, _, _, _, .nil, _ => by simp only [List.set_nil]; exact .nil
  | _, _, 0, _, _, .cons a b, r => by simp only [List.set_cons_zero]; exact .cons r b
  | _, _, k + 1, _, _, .cons a b, r => by simp only [List.set_cons_succ]; exact .cons a (b.set k r)
end

/-- a dict's rows -/
inductive RepK (C : Glo) (ρ : List Addr) (h : Heap) : List (List Nat × MV) → List (Str × Value) → Prop
  | nil : RepK C ρ h [] []
  | cons {k x v es ds} : Rep C ρ h x v → RepK C ρ h es ds → RepK C ρ h ((k, x) :: es) ((str k, v) :: ds)
theorem RepK.up {C : Glo} {ρ ρ' : List Addr} {h h' : Heap} (hs : Solids h h') (hp : ρ <+: ρ') : ∀ {x v}, RepK C ρ h x v → RepK C ρ' h' x v
  | _, _, .nil => .nil
  | _, _, .cons a b => .cons (a.up hs hp) (b.up hs hp)

noncomputable def RepO (C : Glo) (ρ : List Addr) (h : Heap) : MO → Addr → Prop
  | .list xs, a => ∃ items n, h.get? a = some (listO items n) ∧ RepL C ρ h xs items ∧ xs.length ≤ line
  | .dict es, a => ∃ kvs, h.DictOf (strKind C.prog C.w) a kvs ∧ RepK C ρ h es kvs ∧ es.length ≤ line

/-- the small heap stands in the heap -/
structure Hp (C : Glo) (ρ : List Addr) (hp : List MO) (h : Heap) : Prop where
  base : C.base.StaysIn h
  len : ρ.length = hp.length
  nodup : ρ.Nodup
  fresh : ∀ a ∈ ρ, C.base.get? a = none
  objs : ∀ (i : Nat) (o : MO) (a : Addr), hp[i]? = some o → ρ[i]? = some a → RepO C ρ h o a

inductive Loc where
  | nm (L : Addr) (x : Str)
  | cl (c : Addr)

structure Fm where
  env : Env
  A : Around
  W : List Addr
  lay : Nat → Option Loc
  outer : List Env

noncomputable def Holds (C : Glo) (ρ : List Addr) (h : Heap) : Loc → MV → Prop
  | .nm L x, v => ∃ f w, h.Ns L f ∧ f x = some w ∧ Rep C ρ h v w
  | .cl c, v => ∃ w, h.IsCell c (some w) ∧ Rep C ρ h v w

noncomputable def WOk (h : Heap) (a : Addr) : Prop := ∃ o, h.get? a = some o ∧ ((∃ es n, o.data = .dict es n) ∨ ∃ v, o.data = .cell v)

/-- a frame of a caller -/
noncomputable def OutOk (C : Glo) (ρ W : List Addr) (h : Heap) (env : Env) : Prop :=
  env.scope.kind ≠ .module ∧ ∃ L o es n, env.frame = some L ∧ C.base.get? L = none ∧ L ∉ ρ ∧ L ∉ W ∧ h.get? L = some o ∧ o.cls = .type "frame" ∧ o.data = .dict es n

structure Rel (C : Glo) (F : Fm) (ρ : List Addr) (m : MS) (s : Shared) : Prop where
  hp : Hp C ρ m.heap s.heap
  ns : ∃ f, s.heap.Ns F.env.locals f
  w : ∀ a ∈ F.W, a ∉ ρ ∧ C.base.get? a = none ∧ WOk s.heap a
  vars : ∀ i v, m.get i = some v → ∃ l, F.lay i = some l ∧ Holds C ρ s.heap l v
  cells : ∀ i c, F.lay i = some (.cl c) → ∃ v, s.heap.IsCell c v
  out : ∀ e ∈ F.outer, OutOk C ρ F.W s.heap e
  gens : s.gens = #[]

/-- what a step may do -/
structure Step (W : List Addr) (ρ : List Addr) (s : Shared) (ρ' : List Addr) (s' : Shared) : Prop where
  pre : ρ <+: ρ'
  new : ∀ a ∈ ρ', a ∈ ρ ∨ s.heap.get? a = none
  keep : ∀ a o, s.heap.get? a = some o → a ∉ ρ → a ∉ W → s'.heap.get? a = some o ∨ (o.cls = .type "frame" ∧ ∃ sl, s'.heap.get? a = some { o with slots := sl })
  solid : Solids s.heap s'.heap
  alive : ∀ a o, s.heap.get? a = some o → ∃ o', s'.heap.get? a = some o'
  gens : s'.gens = s.gens
  os : s'.os = s.os

theorem Step.refl (W ρ : List Addr) (s : Shared) : Step W ρ s ρ s := ⟨List.prefix_refl _, fun _ h => .inl h, fun _ _ e _ _ => .inl e, fun _ _ e _ => e, fun _ o e => ⟨o, e⟩, rfl, rfl⟩
theorem Step.trans {W ρ ρ₁ ρ₂ : List Addr} {s s₁ s₂ : Shared} (x : Step W ρ s ρ₁ s₁) (y : Step W ρ₁ s₁ ρ₂ s₂) : Step W ρ s ρ₂ s₂ where
  pre := x.pre.trans y.pre
  new := fun a h => (y.new a h).elim (fun h => x.new a h) fun h => .inr (by
    cases e : s.heap.get? a with
    | none => rfl
    | some o => obtain ⟨o', e'⟩ := x.alive a o e; rw [h] at e'; cases e')
  keep := fun a o e h1 h2 => by
    have h1' : a ∉ ρ₁ := fun h => (x.new a h).elim h1 fun h => by rw [h] at e; cases e
    rcases x.keep a o e h1 h2 with e1 | ⟨hc, sl, e1⟩
    · exact y.keep a o e1 h1' h2
    · rcases y.keep a _ e1 h1' h2 with e2 | ⟨_, sl2, e2⟩
      · exact .inr ⟨hc, sl, e2⟩
      · exact .inr ⟨hc, sl2, e2⟩
  solid := fun a o e h => y.solid a o (x.solid a o e h) h
  alive := fun a o e => let ⟨o', e'⟩ := x.alive a o e; y.alive a o' e'
  gens := y.gens.trans x.gens
  os := y.os.trans x.os

theorem Rep.step {C : Glo} {W ρ ρ' : List Addr} {s s' : Shared} {x : MV} {v : Value} (r : Rep C ρ s.heap x v) (st : Step W ρ s ρ' s') : Rep C ρ' s'.heap x v := r.up st.solid st.pre
theorem RepL.step {C : Glo} {W ρ ρ' : List Addr} {s s' : Shared} {x : List MV} {v : List Value} (r : RepL C ρ s.heap x v) (st : Step W ρ s ρ' s') : RepL C ρ' s'.heap x v := r.up st.solid st.pre

/-- what a raise leaves (none yet) -/
noncomputable def Er (C : Glo) (F : Fm) (X : XM) (ρ : List Addr) (s : Shared) : Value → Shared → Prop := fun _ _ => False
theorem Er.back {C : Glo} {F : Fm} {X : XM} {ρ ρ₁ : List Addr} {s s₁ : Shared} (_st : Step F.W ρ s ρ₁ s₁) : ∀ e s', Er C F X ρ₁ s₁ e s' → Er C F X ρ s e s' := fun _ _ h => h

noncomputable abbrev mod (C : Glo) : Model := model C.prog C.w

/-- what a tree's end is to be -/
noncomputable def Out (C : Glo) (F : Fm) (ρ : List Addr) (s : Shared) (Q : PQ) : Value → Shared → Prop :=
  fun v s' => ∃ ρ' m' x, Step F.W ρ s ρ' s' ∧ Rel C F ρ' m' s' ∧ Rep C ρ' s'.heap x v ∧ Q x m'
theorem Out.back {C : Glo} {F : Fm} {Q : PQ} {ρ ρ₁ : List Addr} {s s₁ : Shared} (st : Step F.W ρ s ρ₁ s₁) : ∀ v s', Out C F ρ₁ s₁ Q v s' → Out C F ρ s Q v s' :=
  fun _ _ ⟨ρ', m', x, a, b⟩ => ⟨ρ', m', x, st.trans a, b⟩
/-- a tree that yields a value -/
noncomputable def WPv (C : Glo) (F : Fm) (X : XM) (t : Sem Value) (Q : PQ) (m : MS) : Prop :=
  ∀ s ρ, Rel C F ρ m s → wpAny (mod C) F.A t (Out C F ρ s Q) (Er C F X ρ s) s
theorem WPv.then {C : Glo} {F : Fm} {X : XM} {t : Sem Value} {Q : PQ} {m : MS} {s : Shared} {ρ : List Addr} {P : Value → Shared → Prop} (h : WPv C F X t Q m) (R : Rel C F ρ m s)
    (k : ∀ ρ₁ s₁ m₁ x v, Step F.W ρ s ρ₁ s₁ → Rel C F ρ₁ m₁ s₁ → Rep C ρ₁ s₁.heap x v → Q x m₁ → P v s₁) : wpAny (mod C) F.A t P (Er C F X ρ s) s :=
  wpAny_mono (h s ρ R) (fun v s₁ ⟨ρ₁, m₁, x, a, b, c, d⟩ => k ρ₁ s₁ m₁ x v a b c d) fun _ _ e => e
theorem backV {C : Glo} {F : Fm} {X : XM} {A : Around} {t : Sem Value} {Q : PQ} {ρ ρ₁ : List Addr} {s s₁ s₂ : Shared} (st : Step F.W ρ s ρ₁ s₁) (h : wpAny (mod C) A t (Out C F ρ₁ s₁ Q) (Er C F X ρ₁ s₁) s₂) :
    wpAny (mod C) A t (Out C F ρ s Q) (Er C F X ρ s) s₂ := wpAny_mono h (Out.back st) (Er.back st)

end Mine
end
section
set_option autoImplicit false
set_option linter.unusedVariables false
namespace Mine
open PySem

noncomputable def Loc.addr : Loc → Addr
  | .nm L _ => L
  | .cl c => c

theorem ns_unique {h : Heap} {a : Addr} {f g : Str → Option Value} (x : h.Ns a f) (y : h.Ns a g) : f = g := by
  obtain ⟨o, es, ep, ho, hd, _, hf⟩ := x
  obtain ⟨o', es', ep', ho', hd', _, hg⟩ := y
  rw [ho] at ho'; cases ho'
  rw [hd] at hd'; cases hd'
  funext n; rw [← hf, ← hg]

theorem ns_data {h h' : Heap} {a : Addr} {f : Str → Option Value} (x : h.Ns a f) (k : ∀ o, h.get? a = some o → ∃ o', h'.get? a = some o' ∧ o'.data = o.data) : h'.Ns a f := by
  obtain ⟨o, es, ep, ho, hd, r⟩ := x
  obtain ⟨o', ho', hd'⟩ := k o ho
  exact ⟨o', es, ep, ho', hd'.trans hd, r⟩
theorem cell_data {h h' : Heap} {a : Addr} {v : Option Value} (x : h.IsCell a v) (k : ∀ o, h.get? a = some o → ∃ o', h'.get? a = some o' ∧ o'.data = o.data) : h'.IsCell a v := by
  obtain ⟨o, ho, hd⟩ := x
  obtain ⟨o', ho', hd'⟩ := k o ho
  exact ⟨o', ho', hd'.trans hd⟩

section
variable {C : Glo} {F : Fm} {ρ ρ' : List Addr} {h h' : Heap} {m : MS} {s s' : Shared}

noncomputable def KeepD (h h' : Heap) (a : Addr) : Prop := ∀ o, h.get? a = some o → ∃ o', h'.get? a = some o' ∧ o'.data = o.data ∧ o'.cls = o.cls
noncomputable def KeepX (h h' : Heap) (a : Addr) : Prop := ∀ o, h.get? a = some o → h'.get? a = some o
theorem KeepX.d {h h' : Heap} {a : Addr} (k : KeepX h h' a) : KeepD h h' a := fun o e => ⟨o, k o e, rfl, rfl⟩
theorem KeepD.e {h h' : Heap} {a : Addr} (k : KeepD h h' a) : ∀ o, h.get? a = some o → ∃ o', h'.get? a = some o' ∧ o'.data = o.data := fun o e => let ⟨o', x, y, _⟩ := k o e; ⟨o', x, y⟩

theorem Holds.up {l : Loc} {v : MV} (x : Holds C ρ h l v) (hs : Solids h h') (hp : ρ <+: ρ') (k : KeepD h h' l.addr) : Holds C ρ' h' l v := by
  cases l with
  | nm L x' => obtain ⟨f, w, hn, e, r⟩ := x; exact ⟨f, w, ns_data hn k.e, e, r.up hs hp⟩
  | cl c => obtain ⟨w, hc, r⟩ := x; exact ⟨w, cell_data hc k.e, r.up hs hp⟩

theorem RepO.up {o : MO} {a : Addr} (x : RepO C ρ h o a) (hs : Solids h h') (hp : ρ <+: ρ') (k : KeepX h h' a) : RepO C ρ' h' o a := by
  cases o with
  | list xs => obtain ⟨items, n, e, l, z⟩ := x; exact ⟨items, n, k _ e, l.up hs hp, z⟩
  | dict es =>
    obtain ⟨kvs, ⟨o, ds, ep, e, r⟩, l, z⟩ := x
    exact ⟨kvs, ⟨o, ds, ep, k _ e, r⟩, l.up hs hp, z⟩

theorem Hp.up {hp : List MO} (x : Hp C ρ hp h) (hs : Solids h h') (k : ∀ a ∈ ρ, KeepX h h' a) (hb : C.base.StaysIn h') : Hp C ρ hp h' :=
  ⟨hb, x.len, x.nodup, x.fresh, fun i o a e1 e2 => (x.objs i o a e1 e2).up hs (List.prefix_refl _) (k a (List.mem_of_getElem? e2))⟩

theorem Hp.alloc {hp : List MO} (x : Hp C ρ hp h) (hs : Solids h h') (k : ∀ a ∈ ρ, KeepX h h' a) (hb : C.base.StaysIn h') {o : MO} {a : Addr} (ha : a ∉ ρ) (hf : C.base.get? a = none)
    (hr : RepO C (ρ ++ [a]) h' o a) : Hp C (ρ ++ [a]) (hp ++ [o]) h' := by
  refine ⟨hb, by simp [x.len], ?_, ?_, ?_⟩
  · exact List.nodup_append.mpr ⟨x.nodup, by simp, fun b hb c hc => by simp at hc; subst hc; exact fun e => ha (e ▸ hb)⟩
  · intro b hb
    rcases List.mem_append.mp hb with hb | hb
    · exact x.fresh b hb
    · simp at hb; subst hb; exact hf
  · intro i o' b e1 e2
    rcases Nat.lt_trichotomy i hp.length with hi | hi | hi
    · rw [List.getElem?_append_left hi] at e1
      rw [List.getElem?_append_left (by rw [x.len]; exact hi)] at e2
      exact (x.objs i o' b e1 e2).up hs (List.prefix_append _ _) (k b (List.mem_of_getElem? e2))
    · subst hi
      rw [List.getElem?_append_right (Nat.le_refl _)] at e1
      rw [← x.len, List.getElem?_append_right (Nat.le_refl _)] at e2
      simp at e1 e2; subst e1; subst e2; exact hr
    · rw [List.getElem?_eq_none (by simp; omega)] at e1; cases e1

theorem Hp.put {hp : List MO} (x : Hp C ρ hp h) (hs : Solids h h') {i : Nat} {a : Addr} (hi : ρ[i]? = some a) (k : ∀ b ∈ ρ, b ≠ a → KeepX h h' b) (hb : C.base.StaysIn h') {o : MO}
    (hr : RepO C ρ h' o a) : Hp C ρ (hp.set i o) h' := by
  refine ⟨hb, by simp [x.len], x.nodup, x.fresh, fun j o' b e1 e2 => ?_⟩
  by_cases e : i = j
  · subst e
    rw [hi] at e2; cases e2
    have hlt : i < hp.length := by rw [← x.len]; exact (List.getElem?_eq_some_iff.mp hi).1
    rw [List.getElem?_set_self hlt] at e1; cases e1
    exact hr
  · rw [List.getElem?_set_ne e] at e1
    refine (x.objs j o' b e1 e2).up hs (List.prefix_refl _) (k b (List.mem_of_getElem? e2) fun q => ?_)
    subst q
    have h1 := (List.getElem?_eq_some_iff.mp hi)
    have h2 := (List.getElem?_eq_some_iff.mp e2)
    exact e ((List.getElem_inj x.nodup).mp (h1.2.trans h2.2.symm))

/-- the frame is well made -/
structure FmOk (F : Fm) : Prop where
  loc : F.env.locals ∈ F.W
  lay : ∀ i l, F.lay i = some l → l.addr ∈ F.W
  inj : ∀ i j l, F.lay i = some l → F.lay j = some l → i = j
  kind : F.env.scope.kind = .function
  hn : F.A.handled = none

theorem Rel.up {hpN : List MO} (x : Rel C F ρ m s) (ok : FmOk F) (hs : Solids s.heap s'.heap) (hpre : ρ <+: ρ') (hH : Hp C ρ' hpN s'.heap) (hnew : ∀ a ∈ ρ', a ∈ ρ ∨ s.heap.get? a = none)
    (hW : ∀ a ∈ F.W, KeepD s.heap s'.heap a) (ho : ∀ e ∈ F.outer, ∀ L, e.frame = some L → KeepD s.heap s'.heap L) (hg : s'.gens = s.gens) : Rel C F ρ' ⟨m.vars, hpN⟩ s' where
  hp := hH
  ns := let ⟨f, hf⟩ := x.ns; ⟨f, ns_data hf (hW _ ok.loc).e⟩
  w := fun a ha => by
    obtain ⟨h1, h2, o, h3, h4⟩ := x.w a ha
    obtain ⟨o', e', d', _⟩ := hW a ha o h3
    refine ⟨fun hm => (hnew a hm).elim h1 fun q => (by rw [q] at h3; cases h3), h2, o', e', by rw [d']; exact h4⟩
  vars := fun i v e => let ⟨l, h1, h2⟩ := x.vars i v e; ⟨l, h1, h2.up hs hpre (hW _ (ok.lay i l h1))⟩
  cells := fun i c e => let ⟨v, h1⟩ := x.cells i c e; ⟨v, cell_data h1 (hW c (ok.lay i _ e)).e⟩
  out := fun e he => by
    obtain ⟨k, L, o, es, n, h1, h2, h3, h4, h5, h6, h7⟩ := x.out e he
    obtain ⟨o', e', d', c'⟩ := ho e he L h1 o h5
    exact ⟨k, L, o', es, n, h1, h2, fun hm => (hnew L hm).elim h3 fun q => (by rw [q] at h5; cases h5), h4, e', c'.trans h6, d'.trans h7⟩
  gens := hg.trans x.gens

/-- all that was there stays -/
theorem Rel.grow (x : Rel C F ρ m s) (ok : FmOk F) (hk : ∀ a o, s.heap.get? a = some o → s'.heap.get? a = some o) (hg : s'.gens = s.gens) (hos : s'.os = s.os) :
    Rel C F ρ m s' ∧ Step F.W ρ s ρ s' :=
  ⟨x.up ok (fun a o e _ => hk a o e) (List.prefix_refl _) (x.hp.up (fun a o e _ => hk a o e) (fun a _ o e => hk a o e) fun b o e => hk b o (x.hp.base b o e)) (fun a h => .inl h) (fun a _ o e => ⟨o, hk a o e, rfl, rfl⟩)
    (fun _ _ L _ o e => ⟨o, hk L o e, rfl, rfl⟩) hg,
   ⟨List.prefix_refl _, fun _ h => .inl h, fun a o e _ _ => .inl (hk a o e), fun a o e _ => hk a o e, fun a o e => ⟨o, hk a o e⟩, hg, hos⟩⟩
theorem Rel.tok (x : Rel C F ρ m s) (ok : FmOk F) (t : Nat) : Rel C F ρ m { s with toks := t } ∧ Step F.W ρ s ρ { s with toks := t } := x.grow ok (fun _ _ e => e) rfl rfl

theorem fresh_at {h : Heap} {a : Addr} (ha : h.objs.size ≤ a) : h.get? a = none := by
  cases e : h.get? a with
  | none => rfl
  | some o => exact absurd (Heap.lt_size e) (Nat.not_lt.mpr ha)

theorem base_fresh (x : Hp C ρ m.heap s.heap) {a : Addr} (ha : s.heap.get? a = none) : C.base.get? a = none := by
  cases e : C.base.get? a with
  | none => rfl
  | some o => have := x.base a o e; rw [ha] at this; cases this
theorem Hp.there (x : Hp C ρ m.heap s.heap) {a : Addr} (ha : a ∈ ρ) : ∃ o, s.heap.get? a = some o := by
  obtain ⟨i, hi, rfl⟩ := List.getElem_of_mem ha
  have hi' : i < m.heap.length := by rw [← x.len]; exact hi
  have := x.objs i m.heap[i] ρ[i] (List.getElem?_eq_getElem hi') (List.getElem?_eq_getElem hi)
  cases hm : m.heap[i] with
  | list xs => rw [hm] at this; obtain ⟨_, _, e, _⟩ := this; exact ⟨_, e⟩
  | dict es => rw [hm] at this; obtain ⟨_, ⟨_, _, _, e, _⟩, _⟩ := this; exact ⟨_, e⟩

/-- a new object of the small heap -/
theorem Rel.alloc (x : Rel C F ρ m s) (ok : FmOk F) (hk : ∀ a o, s.heap.get? a = some o → s'.heap.get? a = some o) (hg : s'.gens = s.gens) (hos : s'.os = s.os)
    {o : MO} {a : Addr} (ha : s.heap.get? a = none) (hr : RepO C (ρ ++ [a]) s'.heap o a) : Rel C F (ρ ++ [a]) (m.push o) s' ∧ Step F.W ρ s (ρ ++ [a]) s' := by
  have hn : ∀ b ∈ ρ ++ [a], b ∈ ρ ∨ s.heap.get? b = none := fun b hb => by
    rcases List.mem_append.mp hb with hb | hb
    · exact .inl hb
    · simp at hb; subst hb; exact .inr ha
  refine ⟨x.up ok (fun a o e _ => hk a o e) (List.prefix_append _ _) (x.hp.alloc (fun a o e _ => hk a o e) (fun a _ o e => hk a o e) (fun b o e => hk b o (x.hp.base b o e)) (fun hm => ?_) (base_fresh x.hp ha) hr) hn
    (fun a _ o e => ⟨o, hk a o e, rfl, rfl⟩) (fun _ _ L _ o e => ⟨o, hk L o e, rfl, rfl⟩) hg, ⟨List.prefix_append _ _, hn, fun a o e _ _ => .inl (hk a o e), fun a o e _ => hk a o e, fun a o e => ⟨o, hk a o e⟩, hg, hos⟩⟩
  obtain ⟨o', e⟩ := x.hp.there hm
  rw [ha] at e; cases e

theorem solids_but {a : Addr} (hk : ∀ b o, b ≠ a → h.get? b = some o → h'.get? b = some o) (ha : ∀ o, h.get? a = some o → ¬ Solid o) : Solids h h' := fun b o e hs => by
  by_cases q : b = a
  · subst q; exact absurd hs (ha o e)
  · exact hk b o q e
theorem repO_not_solid {o : MO} {a : Addr} (x : RepO C ρ h o a) : ∀ ob, h.get? a = some ob → ¬ Solid ob := fun ob e hs => by
  cases o with
  | list xs =>
    obtain ⟨items, n, e', _⟩ := x
    rw [e'] at e; cases e
    rcases hs with ⟨q, _⟩ | ⟨⟨c, q⟩, _⟩ <;> simp at q
  | dict es =>
    obtain ⟨kvs, ⟨o', ds, ep, e', ⟨hc, _⟩, _⟩, _⟩ := x
    rw [e'] at e; cases e
    rcases hs with ⟨q, _⟩ | ⟨⟨c, q⟩, _⟩ <;> rw [hc] at q <;> simp at q
theorem wok_not_solid {a : Addr} (x : WOk h a) : ∀ ob, h.get? a = some ob → ¬ Solid ob := fun ob e hs => by
  obtain ⟨o, e', d⟩ := x
  rw [e'] at e; cases e
  rcases hs with ⟨_, xs, n, q⟩ | ⟨_, q | ⟨vs, q⟩⟩ <;> rcases d with ⟨es, k, d⟩ | ⟨v, d⟩ <;> rw [d] at q <;> cases q

theorem RepO.there {o : MO} {a : Addr} (x : RepO C ρ h o a) : ∃ ob, h.get? a = some ob := by
  cases o with
  | list xs => obtain ⟨_, _, e, _⟩ := x; exact ⟨_, e⟩
  | dict es => obtain ⟨_, ⟨_, _, _, e, _⟩, _⟩ := x; exact ⟨_, e⟩

/-- an object of the small heap is changed -/
theorem Rel.put (x : Rel C F ρ m s) (ok : FmOk F) {i : Nat} {a : Addr} (hi : ρ[i]? = some a) {o₀ o : MO} (h0 : m.heap[i]? = some o₀) (hk : ∀ b ob, b ≠ a → s.heap.get? b = some ob → s'.heap.get? b = some ob) (hg : s'.gens = s.gens) (hos : s'.os = s.os)
    (hr : RepO C ρ s'.heap o a) : Rel C F ρ (m.put i o) s' ∧ Step F.W ρ s ρ s' := by
  have ham : a ∈ ρ := List.mem_of_getElem? hi
  have hs : Solids s.heap s'.heap := solids_but hk (repO_not_solid (x.hp.objs i o₀ a h0 hi))
  have hb : C.base.StaysIn s'.heap := fun b ob e => hk b ob (fun q => by rw [q, x.hp.fresh a ham] at e; cases e) (x.hp.base b ob e)
  refine ⟨x.up ok hs (List.prefix_refl _) (x.hp.put hs hi (fun b hb hne ob e => hk b ob hne e) hb hr) (fun b h => .inl h) (fun b hb ob e => ⟨ob, hk b ob (fun q => (x.w b hb).1 (q ▸ ham)) e, rfl, rfl⟩)
    (fun e he L hL ob eb => ⟨ob, hk L ob (fun q => ?_) eb, rfl, rfl⟩) hg, ⟨List.prefix_refl _, fun b h => .inl h, fun b ob e h1 _ => .inl (hk b ob (fun q => h1 (q ▸ ham)) e), hs, fun b ob e => ?_, hg, hos⟩⟩
  · obtain ⟨_, L', _, _, _, h1, _, h3, _⟩ := x.out e he
    rw [hL] at h1; cases h1
    exact h3 (q ▸ ham)
  · by_cases q : b = a
    · subst q; exact hr.there
    · exact ⟨ob, hk b ob q e⟩

theorem MS.get_set (m : MS) (i j : Nat) (v w : MV) (h : (m.set i v).get j = some w) : (j = i ∧ w = v) ∨ (j ≠ i ∧ m.get j = some w) := by
  unfold MS.get MS.set at h
  simp only at h
  by_cases e : i = j
  · subst e
    rw [List.getElem?_set] at h
    simp only [if_true] at h
    split at h
    · rename_i hh
      split at hh
      · cases hh; cases h; exact .inl ⟨rfl, rfl⟩
      · cases hh
    · cases h
  · rw [List.getElem?_set_ne e] at h
    exact .inr ⟨fun q => e q.symm, h⟩

/-- an object of the frame's own is changed -/
theorem Rel.own (x : Rel C F ρ m s) (ok : FmOk F) {a : Addr} (ha : a ∈ F.W) (hsb : Heap.SameBut a s.heap s'.heap) (hg : s'.gens = s.gens) (hos : s'.os = s.os) {m' : MS} (hm : m'.heap = m.heap)
    (hw : WOk s'.heap a) (hns : ∃ f, s'.heap.Ns F.env.locals f) (hcell : ∀ v, s.heap.IsCell a v → ∃ w, s'.heap.IsCell a w)
    (hv : Solids s.heap s'.heap → ∀ i v, m'.get i = some v → ∃ l, F.lay i = some l ∧ Holds C ρ s'.heap l v) : Rel C F ρ m' s' ∧ Step F.W ρ s ρ s' := by
  have hk : ∀ b ob, b ≠ a → s.heap.get? b = some ob → s'.heap.get? b = some ob := fun b ob q e => (hsb.2 b q).trans e
  have hL := x.w _ ha
  have hs : Solids s.heap s'.heap := solids_but hk (wok_not_solid hL.2.2)
  refine ⟨⟨?_, hns, fun b hb => ?_, hv hs, fun i c e => ?_, fun e he => ?_, hg.trans x.gens⟩, ⟨List.prefix_refl _, fun b h => .inl h, fun b ob e h1 h2 => .inl (hk b ob (fun q => h2 (q ▸ ha)) e), hs, fun b ob e => ?_, hg, hos⟩⟩
  · rw [hm]
    exact x.hp.up hs (fun b hb ob e => hk b ob (fun q => hL.1 (q ▸ hb)) e) fun b ob e => hk b ob (fun q => by rw [q, hL.2.1] at e; cases e) (x.hp.base b ob e)
  · obtain ⟨h1, h2, o, h3, h4⟩ := x.w b hb
    refine ⟨h1, h2, ?_⟩
    by_cases q : b = a
    · subst q; exact hw
    · exact ⟨o, hk b o q h3, h4⟩
  · obtain ⟨v, o, h1, h2⟩ := x.cells i c e
    by_cases q : c = a
    · subst q; exact hcell v ⟨o, h1, h2⟩
    · exact ⟨v, o, hk c o q h1, h2⟩
  · obtain ⟨k, L, o, es, n, h1, h2, h3, h4, h5, h6, h7⟩ := x.out e he
    exact ⟨k, L, o, es, n, h1, h2, h3, h4, hk L o (fun q => h4 (q ▸ ha)) h5, h6, h7⟩
  · by_cases q : b = a
    · subst q; obtain ⟨o, e, _⟩ := hw; exact ⟨o, e⟩
    · exact ⟨ob, hk b ob q e⟩

/-- a name is set -/
theorem Rel.setName (x : Rel C F ρ m s) (ok : FmOk F) {i : Nat} {n : Str} (hi : F.lay i = some (.nm F.env.locals n)) {f : Str → Option Value} {v : Value} {w : MV} (hf : s.heap.Ns F.env.locals f)
    (hn : s'.heap.Ns F.env.locals (fun y => if y = n then some v else f y)) (hsb : Heap.SameBut F.env.locals s.heap s'.heap) (hg : s'.gens = s.gens) (hos : s'.os = s.os) (hr : Rep C ρ s.heap w v) :
    Rel C F ρ (m.set i w) s' ∧ Step F.W ρ s ρ s' := by
  refine x.own ok ok.loc hsb hg hos rfl ?_ ⟨_, hn⟩ (fun v hc => ?_) fun hs j u e => ?_
  · obtain ⟨o, es, ep, ho, hd, _⟩ := hn
    exact ⟨o, ho, .inl ⟨es, ep, hd⟩⟩
  · exfalso
    obtain ⟨o', es, ep, ho, hd, _⟩ := hf
    obtain ⟨o, g1, g2⟩ := hc
    rw [ho] at g1; cases g1; rw [hd] at g2; cases g2
  · rcases MS.get_set m i j w u e with ⟨rfl, rfl⟩ | ⟨hne, e⟩
    · exact ⟨_, hi, _, v, hn, by simp, hr.up hs (List.prefix_refl _)⟩
    · obtain ⟨l, h1, h2⟩ := x.vars j u e
      refine ⟨l, h1, ?_⟩
      by_cases q : l.addr = F.env.locals
      · cases l with
        | nm L y =>
          simp only [Loc.addr] at q; subst q
          obtain ⟨g, z, g1, g2, g3⟩ := h2
          have := ns_unique g1 hf; subst this
          refine ⟨_, z, hn, ?_, g3.up hs (List.prefix_refl _)⟩
          have : y ≠ n := fun q => by subst q; exact hne (ok.inj j i _ h1 hi)
          simp [this, g2]
        | cl c =>
          simp only [Loc.addr] at q; subst q
          exfalso
          obtain ⟨z, ⟨o, g1, g2⟩, _⟩ := h2
          obtain ⟨o', es, ep, ho, hd, _⟩ := hf
          rw [ho] at g1; cases g1; rw [hd] at g2; cases g2
      · exact h2.up hs (List.prefix_refl _) fun o e => ⟨o, (hsb.2 _ q).trans e, rfl, rfl⟩

/-- a captured name is set -/
theorem Rel.setCell (x : Rel C F ρ m s) (ok : FmOk F) {i : Nat} {c : Addr} (hi : F.lay i = some (.cl c)) {v₀ : Option Value} {v : Value} {w : MV} (h0 : s.heap.IsCell c v₀)
    (hn : s'.heap.IsCell c (some v)) (hsb : Heap.SameBut c s.heap s'.heap) (hg : s'.gens = s.gens) (hos : s'.os = s.os) (hr : Rep C ρ s.heap w v) :
    Rel C F ρ (m.set i w) s' ∧ Step F.W ρ s ρ s' := by
  have hcm : c ∈ F.W := ok.lay i _ hi
  refine x.own ok hcm hsb hg hos rfl ?_ ?_ (fun _ _ => ⟨_, hn⟩) fun hs j u e => ?_
  · obtain ⟨o, ho, hd⟩ := hn
    exact ⟨o, ho, .inr ⟨_, hd⟩⟩
  · obtain ⟨f, hf⟩ := x.ns
    refine ⟨f, hf.sameBut hsb fun q => ?_⟩
    obtain ⟨o, es, ep, ho, hd, _⟩ := hf
    obtain ⟨o', g1, g2⟩ := h0
    rw [← q, ho] at g1; cases g1; rw [hd] at g2; cases g2
  · rcases MS.get_set m i j w u e with ⟨rfl, rfl⟩ | ⟨hne, e⟩
    · exact ⟨_, hi, v, hn, hr.up hs (List.prefix_refl _)⟩
    · obtain ⟨l, h1, h2⟩ := x.vars j u e
      refine ⟨l, h1, ?_⟩
      by_cases q : l.addr = c
      · cases l with
        | nm L y =>
          simp only [Loc.addr] at q; subst q
          exfalso
          obtain ⟨g, z, ⟨o, es, ep, ho, hd, _⟩, _⟩ := h2
          obtain ⟨o', g1, g2⟩ := h0
          rw [ho] at g1; cases g1; rw [hd] at g2; cases g2
        | cl c' =>
          simp only [Loc.addr] at q; subst q
          exact absurd (ok.inj j i _ h1 hi) hne
      · exact h2.up hs (List.prefix_refl _) fun o e => ⟨o, (hsb.2 _ q).trans e, rfl, rfl⟩
end
end Mine
end
section
set_option autoImplicit false
set_option linter.unusedVariables false
namespace Mine
open PySem

section
variable {C : Glo} {F : Fm} {X : XM} {ρ : List Addr} {m : MS} {s : Shared} {Q : PQ} {E : Value → Shared → Prop} {A : Around}

theorem small_bits {x : Int} (h : small x) : Builtin.Int.intBits x ≤ 64 := by
  unfold small at h
  refine intBits_le_64 ?_ ?_ <;> omega
theorem fdiv_pos' {x y : Int} (h : 0 < y) : x.fdiv y = x / y := Int.fdiv_eq_ediv_of_nonneg x (Int.le_of_lt h)
theorem fmod_pos' {x y : Int} (h : 0 < y) : x.fmod y = x % y := Int.fmod_eq_emod_of_nonneg x (Int.le_of_lt h)
theorem line_is : line = sizeLine := rfl

/-- an end without a change but for the counter -/
theorem outTok (R : Rel C F ρ m s) (ok : FmOk F) {x : MV} {v : Value} {t : Nat} (hr : Rep C ρ s.heap x v) (h : Q x m) : Out C F ρ s Q v { s with toks := t } :=
  let ⟨R', st⟩ := R.tok ok t; ⟨ρ, m, x, st, R', hr, h⟩
theorem outSame (R : Rel C F ρ m s) {x : MV} {v : Value} (hr : Rep C ρ s.heap x v) (h : Q x m) : Out C F ρ s Q v s := ⟨ρ, m, x, .refl _ _ _, R, hr, h⟩
/-- a new tuple -/
theorem outTup (R : Rel C F ρ m s) (ok : FmOk F) {xs : List MV} {vs : List Value} (hr : RepL C ρ s.heap xs vs) (hz : xs.length ≤ line) (h : Q (.tup xs) m) {t : Nat} :
    Out C F ρ s Q (.ref s.heap.objs.size) { s with heap := s.heap.push (tupO vs 0), toks := t } := by
  obtain ⟨R', st⟩ := R.grow (s' := { s with heap := s.heap.push (tupO vs 0), toks := t }) ok (fun a o e => Heap.get?_push_of_some _ e) rfl rfl
  exact ⟨ρ, m, _, st, R', .tup (Heap.get?_push_size _ rfl) (hr.step st) hz, h⟩
/-- a new list -/
theorem outList (R : Rel C F ρ m s) (ok : FmOk F) {xs : List MV} {vs : List Value} (hr : RepL C ρ s.heap xs vs) (hz : xs.length ≤ line) (h : Q (.ref m.heap.length) (m.push (.list xs))) {t : Nat} :
    Out C F ρ s Q (.ref s.heap.objs.size) { s with heap := s.heap.push (listO vs 0), toks := t } := by
  have hk : ∀ a o, s.heap.get? a = some o → (s.heap.push (listO vs 0)).get? a = some o := fun a o e => Heap.get?_push_of_some _ e
  obtain ⟨R', st⟩ := R.alloc (s' := { s with heap := s.heap.push (listO vs 0), toks := t }) ok hk rfl rfl (o := .list xs) (a := s.heap.objs.size) (fresh_at (Nat.le_refl _))
    ⟨vs, 0, Heap.get?_push_size _ rfl, hr.up (fun a o e _ => hk a o e) (List.prefix_append _ _), hz⟩
  refine ⟨_, _, _, st, R', .ref (i := m.heap.length) ?_, h⟩
  rw [← R.hp.len, List.getElem?_append_right (Nat.le_refl _)]; simp

theorem str_append (x y : List Nat) : str x ++ str y = str (x ++ y) := by
  show (⟨x.toArray ++ y.toArray⟩ : Str) = ⟨(x ++ y).toArray⟩
  simp
theorem str_length (x : List Nat) : (str x).length = x.length := by simp [Str.length]
theorem str_cps (x : List Nat) : (str x).cps.toList = x := by simp

noncomputable def opIs : Op → Operator
  | .add => .Add | .sub => .Sub | .mul => .Mult | .fdiv => .FloorDiv | .mod => .Mod | .pow => .Pow

theorem add_tup_ok (R : Rel C F ρ m s) (ok : FmOk F) {x y : List MV} {v w : Value} (hx : Rep C ρ s.heap (.tup x) v) (hy : Rep C ρ s.heap (.tup y) w) (h : x.length + y.length ≤ line ∧ Q (.tup (x ++ y)) m) :
    wpAny (mod C) A (binaryOp .Add v w) (Out C F ρ s Q) E s := by
  obtain ⟨hl, hq⟩ := h
  have hx' := hx
  have hy' := hy
  cases hx with | @tup t n _ vs gx lx zx => cases hy with | @tup b n2 _ ws gy ly zy =>
  have e : vs.toArray ++ ws.toArray = (vs ++ ws).toArray := by simp
  by_cases hv : vs = []
  · subst hv
    cases lx
    exact concat_meets ⟨_, gx, rfl⟩ ⟨_, gy, rfl⟩ noFill_tuple_add seq_tuple_add PySem.F.slot_tuple_add PySem.F.entry_tuple_add (PySem.F.args_tuple_add_2 _ _)
      (PyProof.Rows.tuple_addW0 t b ([] : List Value).toArray ws.toArray n n2 none none #[] #[] (by simp)) ⟨gx, gy, outSame R hy' hq⟩
  · by_cases hw : ws = []
    · subst hw
      cases ly
      exact concat_meets ⟨_, gx, rfl⟩ ⟨_, gy, rfl⟩ noFill_tuple_add seq_tuple_add PySem.F.slot_tuple_add PySem.F.entry_tuple_add (PySem.F.args_tuple_add_2 _ _)
        (PyProof.Rows.tuple_addW1 t b vs.toArray ([] : List Value).toArray n n2 none none #[] #[] (by simpa using hv) (by simp)) ⟨gx, gy, outSame R hx' (by simpa using hq)⟩
    · refine concat_meets ⟨_, gx, rfl⟩ ⟨_, gy, rfl⟩ noFill_tuple_add seq_tuple_add PySem.F.slot_tuple_add PySem.F.entry_tuple_add (PySem.F.args_tuple_add_2 _ _)
        (PyProof.Rows.tuple_addW2 t b vs.toArray ws.toArray n n2 none none #[] #[] (by simpa using hv) (by simpa using hw) (by rw [List.size_toArray, List.size_toArray, lx.length, ly.length]; exact hl)) ⟨gx, gy, ?_⟩
      rw [e]
      exact outTup R ok (lx.append ly) (by simpa using hl) hq

theorem bin_ok (R : Rel C F ρ m s) (ok : FmOk F) {op : Op} {x y : MV} {v w : Value} (hx : Rep C ρ s.heap x v) (hy : Rep C ρ s.heap y w) (h : wpBin op x y Q m) :
    wpAny (mod C) A (binaryOp (opIs op) v w) (Out C F ρ s Q) E s := by
  unfold wpBin at h
  split at h
  · cases hx; cases hy; exact wpAny_add_int (outTok R ok (.int _ _) h)
  · rename_i a b
    cases hx with | str _ t zx => cases hy with | str _ u zy =>
    refine P.add_str ?_
    rw [str_length, str_length]
    by_cases ea : a = []
    · subst ea; exact outSame R (.str b u zy) (by simpa using h.2)
    · by_cases eb : b = []
      · subst eb; rw [if_neg (by simpa using ea), if_pos (by simp)]; exact outSame R (.str a t zx) (by simpa using h.2)
      · rw [if_neg (by simpa using ea), if_neg (by simpa using eb), str_append]
        refine ⟨by rw [str_length, List.length_append]; exact h.1, outTok R ok (.str _ _ (by rw [List.length_append]; exact h.1)) h.2⟩
  · rename_i a b
    exact add_tup_ok R ok hx hy h
  · rename_i i j
    split at h
    · rename_i x y e1 e2
      cases hx with | ref ea => cases hy with | ref eb =>
      obtain ⟨ix, nx, gx, lx, zx⟩ := R.hp.objs _ _ _ e1 ea
      obtain ⟨iy, ny, gy, ly, zy⟩ := R.hp.objs _ _ _ e2 eb
      have e : ix.toArray ++ iy.toArray = (ix ++ iy).toArray := by simp
      refine P.add_list gx gy ?_ (by simp only [List.size_toArray, lx.length, ly.length]; exact h.1)
      rw [e]
      exact outList R ok (lx.append ly) (by rw [List.length_append]; exact h.1) h.2
    · exact h.elim
  · cases hx; cases hy; exact PyProof.Rows.sub_int' (outTok R ok (.int _ _) h)
  · cases hx; cases hy
    exact PyProof.Rows.mul_int (outTok R ok (.int _ _) h.2) (h.1.elim (fun h => .of_left (small_bits h)) fun h => .of_right (small_bits h))
  · cases hx; cases hy
    refine PyProof.Rows.floordiv_int (by omega) ?_ (.inl (PyProof.noPylong_small (by omega)))
    rw [fdiv_pos' h.1.1]; exact outTok R ok (.int _ _) h.2
  · cases hx; cases hy
    refine PyProof.Rows.mod_int' (by omega) ?_
    rw [fmod_pos' h.1]; exact outTok R ok (.int _ _) h.2
  · cases hx; cases hy
    obtain ⟨⟨rfl, hy⟩, hq⟩ := h
    refine PyProof.Rows.pow_int_small (by omega) (by omega) (by decide) (outTok R ok (.int _ _) hq)
  · exact h.elim
end
end Mine
end
section
set_option autoImplicit false
set_option linter.unusedVariables false
namespace Mine
open PySem

mutual
noncomputable def D.py : D → PyData
  | .none => .none
  | .bool b => .bool b
  | .int i => .int i
  | .str s => .str (Mine.str s)
  | .list xs => .list (D.pys xs)
  | .tup xs => .tuple (D.pys xs)
noncomputable def D.pys : List D → List PyData
  | [] => []
  | x :: xs => D.py x :: D.pys xs
end

theorem str_eq_iff {x y : List Nat} : (Mine.str x == Mine.str y) = (x == y) := by
  rw [Bool.eq_iff_iff]; simp
mutual
theorem D.eqv_py : ∀ (d e : D), PyData.eqv d.py e.py = d.deq e
  | .none, e => by cases e <;> simp [D.py, PyData.eqv, D.deq]
  | .bool b, e => by cases e <;> simp [D.py, PyData.eqv, D.deq]
  | .int b, e => by cases e <;> simp [D.py, PyData.eqv, D.deq]
  | .str b, e => by
    cases e with
    | str c => simp only [D.py, PyData.eqv, D.deq]; exact str_eq_iff
    | _ => simp [D.py, PyData.eqv, D.deq]
  | .list xs, e => by
    cases e with
    | list ys => simp only [D.py, PyData.eqv, D.deq]; exact D.eqvs_py xs ys
    | _ => simp [D.py, PyData.eqv, D.deq]
  | .tup xs, e => by
    cases e with
    | tup ys => simp only [D.py, PyData.eqv, D.deq]; exact D.eqvs_py xs ys
    | _ => simp [D.py, PyData.eqv, D.deq]
theorem D.eqvs_py : ∀ (d e : List D), PyData.eqvAll (D.pys d) (D.pys e) = D.deqs d e
  | [], [] => by simp [D.pys, PyData.eqvAll, D.deqs]
  | [], _ :: _ => by simp [D.pys, PyData.eqvAll, D.deqs]
  | _ :: _, [] => by simp [D.pys, PyData.eqvAll, D.deqs]
  | x :: xs, y :: ys => by simp only [D.pys, PyData.eqvAll, D.deqs]; rw [D.eqv_py x y, D.eqvs_py xs ys]
end
mutual
theorem D.lay_py : ∀ (d : D), d.ok = true → d.py.canLay0 = true
  | .none, _ => rfl
  | .bool b, _ => rfl
  | .int b, _ => rfl
  | .str b, h => by
    simp only [D.ok, List.all_eq_true, decide_eq_true_eq] at h
    simp only [D.py, PyData.canLay0, PyData.strOk, List.all_toArray, List.all_eq_true, decide_eq_true_eq]
    intro c hc; have := h c hc; omega
  | .list xs, h => by simp only [D.ok] at h; simp only [D.py, PyData.canLay0]; exact D.lays_py xs h
  | .tup xs, h => by simp only [D.ok] at h; simp only [D.py, PyData.canLay0]; exact D.lays_py xs h
theorem D.lays_py : ∀ (d : List D), D.oks d = true → PyData.canLayAll0 (D.pys d) = true
  | [], _ => rfl
  | x :: xs, h => by
    simp only [D.oks, Bool.and_eq_true] at h
    simp only [D.pys, PyData.canLayAll0, D.lay_py x h.1, D.lays_py xs h.2, Bool.and_self]
end
mutual
theorem D.depth_py : ∀ (d : D), d.py.depth = d.deep
  | .none => rfl
  | .bool b => rfl
  | .int b => rfl
  | .str b => rfl
  | .list xs => by simp only [D.py, PyData.depth, D.deep, D.depths_py xs]
  | .tup xs => by simp only [D.py, PyData.depth, D.deep, D.depths_py xs]
theorem D.depths_py : ∀ (d : List D), PyData.depthAll (D.pys d) = D.deeps d
  | [] => rfl
  | x :: xs => by simp only [D.pys, PyData.depthAll, D.deeps, D.depth_py x, D.depths_py xs]
end

section
variable {C : Glo} {F : Fm} {X : XM} {ρ : List Addr} {m : MS} {s : Shared} {E : Value → Shared → Prop} {A : Around} {h : Heap} {hp : List MO}

mutual
theorem Rd.reads (H : Hp C ρ hp h) : ∀ {x : MV} {d : D} {v : Value}, Rd hp x d → Rep C ρ h x v → ∃ as, Reads h v d.py as
  | _, _, _, .none, .none => ⟨_, .none⟩
  | _, _, _, .bool b, .bool _ => ⟨_, .bool b⟩
  | _, _, _, .int i, .int _ t => ⟨_, .int i t⟩
  | _, _, _, .str i, .str _ t _ => ⟨_, .str _ t⟩
  | _, _, _, .tup l, .tup e r _ => by
    obtain ⟨as, q⟩ := Rds.reads H l r
    exact ⟨_, .tuple e rfl rfl (by simpa using q)⟩
  | _, _, _, .list hi l, .ref e => by
    obtain ⟨items, n, g, r, _⟩ := H.objs _ _ _ hi e
    obtain ⟨as, q⟩ := Rds.reads H l r
    exact ⟨_, .list g rfl rfl (by simpa using q)⟩
theorem Rds.reads (H : Hp C ρ hp h) : ∀ {x : List MV} {d : List D} {v : List Value}, Rds hp x d → RepL C ρ h x v → ∃ as, ReadsAll h v (D.pys d) as
  | _, _, _, .nil, .nil => ⟨_, .nil⟩
  | _, _, _, .cons a b, .cons r l => by
    obtain ⟨as, q⟩ := Rd.reads H a r
    obtain ⟨bs, q'⟩ := Rds.reads H b l
    exact ⟨_, .cons q q'⟩
end

/-- a comparison's end -/
noncomputable def OutB (s : Shared) (P : Bool → Prop) : Value → Shared → Prop := fun r s' => ∃ b t, r = .bool b ∧ s' = { s with toks := t } ∧ P b

theorem eqP_ok (R : Hp C ρ hp s.heap) {x y : MV} {v w : Value} (hx : Rep C ρ s.heap x v) (hy : Rep C ρ s.heap y w) {d e : D} (hd : Rd hp x d) (he : Rd hp y e) (hk : d.deep ≤ 1000) (h1 : d.ok = true) (h2 : e.ok = true)
    (hu : A.units + 1000 < cLine) {P : Bool → Prop} (h : P (d.deq e)) : wpAny (mod C) A (compareOp .Eq v w) (OutB s P) E s := by
  obtain ⟨as, ra⟩ := hd.reads R hx
  obtain ⟨bs, rb⟩ := he.reads R hy
  refine SeqAt.compareEq_reads ra rb (d.lay_py h1) (e.lay_py h2) ?_ ⟨_, s.toks, rfl, rfl, ?_⟩
  · rw [D.depth_py, D.depth_py]; omega
  · rw [D.eqv_py]; exact h
theorem neP_ok (R : Hp C ρ hp s.heap) {x y : MV} {v w : Value} (hx : Rep C ρ s.heap x v) (hy : Rep C ρ s.heap y w) {d e : D} (hd : Rd hp x d) (he : Rd hp y e) (hk : d.deep ≤ 1000) (h1 : d.ok = true) (h2 : e.ok = true)
    (hu : A.units + 1000 < cLine) {P : Bool → Prop} (h : P (!d.deq e)) : wpAny (mod C) A (compareOp .NotEq v w) (OutB s P) E s := by
  obtain ⟨as, ra⟩ := hd.reads R hx
  obtain ⟨bs, rb⟩ := he.reads R hy
  refine SeqAt.compareNe_reads ra rb (d.lay_py h1) (e.lay_py h2) ?_ ⟨_, s.toks, rfl, rfl, ?_⟩
  · rw [D.depth_py, D.depth_py]; omega
  · rw [D.eqv_py]; exact h

open SeqAt in
theorem aeq_ok {x y : MV} {v w : Value} (hx : Rep C ρ s.heap x v) (hy : Rep C ρ s.heap y w) {b : Bool} (h : aeq x y = some b) : RcAt A s v w b ∧ RcNeAt A s v w (!b) := by
  cases hx with
  | none =>
    cases hy with
    | none => cases h; exact ⟨RcAt.none_none, RcNeAt.none_none⟩
    | bool q => cases h; exact ⟨RcAt.none_bool q, RcNeAt.none_bool q⟩
    | int q qt => cases h; exact ⟨RcAt.none_int q qt, RcNeAt.none_int q qt⟩
    | str q qt qz => cases h; exact ⟨RcAt.none_str (Mine.str q) qt, RcNeAt.none_str (Mine.str q) qt⟩
    | _ => cases h
  | bool p =>
    cases hy with
    | none => cases h; exact ⟨RcAt.bool_none p, RcNeAt.bool_none p⟩
    | bool q => cases h; exact ⟨RcAt.bool_bool p q, RcNeAt.bool_bool p q⟩
    | int q qt => cases h
    | str q qt qz => cases h; exact ⟨RcAt.bool_str p (Mine.str q) qt, RcNeAt.bool_str p (Mine.str q) qt⟩
    | _ => cases h
  | int p pt =>
    cases hy with
    | none => cases h; exact ⟨RcAt.int_none p pt, RcNeAt.int_none p pt⟩
    | bool q => cases h
    | int q qt => cases h; exact ⟨RcAt.int_int p pt q qt, RcNeAt.int_int p pt q qt⟩
    | str q qt qz => cases h; exact ⟨RcAt.int_str p pt (Mine.str q) qt, RcNeAt.int_str p pt (Mine.str q) qt⟩
    | _ => cases h
  | str p pt pz =>
    cases hy with
    | none => cases h; exact ⟨RcAt.str_none (Mine.str p) pt, RcNeAt.str_none (Mine.str p) pt⟩
    | bool q => cases h; exact ⟨RcAt.str_bool (Mine.str p) pt q, RcNeAt.str_bool (Mine.str p) pt q⟩
    | int q qt => cases h; exact ⟨RcAt.str_int (Mine.str p) pt q qt, RcNeAt.str_int (Mine.str p) pt q qt⟩
    | str q qt qz => cases h; rw [← str_eq_iff]; exact ⟨RcAt.str_str (Mine.str p) pt (Mine.str q) qt, RcNeAt.str_str (Mine.str p) pt (Mine.str q) qt⟩
    | _ => cases h
  | _ => cases hy <;> cases h

end
end Mine
end
section
set_option autoImplicit false
set_option linter.unusedVariables false
namespace Mine
open PySem PyProof.Rows

section
variable {prog : Program} {w : World} {K : Type} [DecidableEq K] {knd : KeyKind prog w K} {A : Around} {E : Value → Shared → Prop} {s : Shared}

theorem pairs_at {es : List DictEntry} {kvs : List (K × Value)} (h : Pairs knd es kvs) : ∀ {i : Nat} {e : DictEntry}, es[i]? = some e → ∃ kv, kvs[i]? = some kv ∧ knd.is kv.1 e.key = true ∧ e.val = kv.2 := by
  induction h with
  | nil => intro i e q; simp at q
  | cons h1 h2 _ ih =>
    intro i e q
    cases i with
    | zero => simp at q; subst q; exact ⟨_, rfl, h1, h2⟩
    | succ i => simp only [List.getElem?_cons_succ] at q ⊢; exact ih q

/-- two dicts with the same rows -/
theorem same_pairs {nm : String} {a b : Addr} {ka kb : List (K × Value)} {Q : Bool → Shared → Prop} (ha : (a == sysModules) = false) (hb : (b == sysModules) = false) (da : s.heap.DictOf knd a ka) (db : s.heap.DictOf knd b kb)
    (hl : ka.length = kb.length) (hv : ∀ p ∈ ka, ∃ y, valueAt kb p.1 = some y ∧ SeqAt.EqAt A s p.2 y true) (h : Q true s) : wpAny (model prog w) A (Builtin.Dict.samePairs nm a b) Q E s := by
  obtain ⟨oa, ea, epa, goa, _, gda, gka, gpa, _⟩ := da
  obtain ⟨ob, eb, epb, gob, _, gdb, gkb, gpb, _⟩ := db
  have la : ea.size = ka.length := by rw [← gpa.length, Array.length_toList]
  have lb : eb.size = kb.length := by rw [← gpb.length, Array.length_toList]
  unfold Builtin.Dict.samePairs Builtin.Dict.showsAll
  simp only [ha, hb, Bool.false_eq_true, if_false]
  refine wpAny_bind (wpAny_pure (wpAny_bind (wpAny_pure (wpAny_bind (wpAny_dictEntries goa gda (wpAny_bind (wpAny_dictEntries gob gdb ?_)))))))
  have hne : (ea.size != eb.size) = false := by simp [la, lb, hl]
  simp only [hne, Bool.false_eq_true, if_false]
  refine wpAny_bind (wpAny_dictEpoch goa gda (wpAny_bind ?_))
  rw [Std.Legacy.Range.forIn_eq_forIn_range']
  refine wpAny_forIn_list _ (fun rest q s' => s' = s ∧ q = (none, ()) ∧ ∀ i ∈ rest, i < ea.size) _ ?_ ?_ _ _ ⟨rfl, rfl, fun i hi => by simp [Std.Legacy.Range.size, List.mem_range'] at hi; omega⟩
  · intro x rest q s' hI
    obtain ⟨rfl, rfl, hlt⟩ := hI
    have hx : x < ea.size := hlt x (List.mem_cons_self ..)
    have hx' : x < ka.length := by rw [← la]; exact hx
    refine wpAny_bind (wpAny_dictEntries goa gda ?_)
    rw [Array.getElem?_eq_getElem hx]
    obtain ⟨⟨k, v⟩, e1, e2, e3⟩ := pairs_at gpa (i := x) (e := ea[x]) (by rw [Array.getElem?_toList]; exact Array.getElem?_eq_getElem hx)
    obtain ⟨y, hy, heq⟩ := hv (k, v) (List.mem_of_getElem? e1)
    obtain ⟨k', hk', hh⟩ := gka ea[x] (Array.getElem_mem hx)
    have hkk := knd.inj _ _ _ hk' e2
    dsimp only at e2 e3 hkk ⊢
    subst hkk
    rw [hh]
    refine wpAny_bind (wpAny_holding (wpAny_bind (wpAny_dictFind_of e2 gob gdb gkb ?_)))
    have hl2 : (eb.findIdx? fun e => knd.is k' e.key) = eb.toList.findIdx? fun e => knd.is k' e.key := by obtain ⟨l⟩ := eb; simp
    rw [hl2]
    cases hj : eb.toList.findIdx? fun e => knd.is k' e.key with
    | none =>
      exfalso
      have := gpb.find k'
      rw [List.findIdx?_eq_none_iff] at hj
      rw [List.find?_eq_none.mpr (fun e he => by simpa using hj e he), hy] at this
      cases this
    | some j =>
      obtain ⟨f, hf, _, hfv⟩ := gpb.at hj
      rw [hy] at hfv
      cases hfv
      refine wpAny_bind (wpAny_dictEntries gob gdb ?_)
      have hf' : eb[j]? = some f := by rw [← Array.getElem?_toList]; exact hf
      rw [hf']
      refine wpAny_holding ?_
      rw [e3]
      refine heq prog w _ _ ?_
      show wpAny _ _ (dictEpoch a >>= _) _ _ _
      refine wpAny_bind (wpAny_dictEpoch goa gda ?_)
      simp only [bne_self_eq_false, Bool.false_eq_true, if_false]
      exact wpAny_pure ⟨rfl, rfl, fun i hi => hlt i (List.mem_cons_of_mem _ hi)⟩
  · intro q s' hI
    obtain ⟨rfl, rfl, _⟩ := hI
    exact wpAny_pure h

theorem dict_eq {a b : Addr} {ka kb : List (K × Value)} {Q : Value → Shared → Prop} (ha : (a == sysModules) = false) (hb : (b == sysModules) = false) (da : s.heap.DictOf knd a ka) (db : s.heap.DictOf knd b kb) (hu : A.units < cLine)
    (hl : ka.length = kb.length) (hv : ∀ p ∈ ka, ∃ y, valueAt kb p.1 = some y ∧ SeqAt.EqAt A.in1 s p.2 y true) :
    (Q (.bool true) s → wpAny (model prog w) A (compareOp .Eq (.ref a) (.ref b)) Q E s) ∧ (Q (.bool false) s → wpAny (model prog w) A (compareOp .NotEq (.ref a) (.ref b)) Q E s) := by
  constructor
  · intro h
    refine wpAny_richCompare_same_room (op := .Eq) da.typeIs db.typeIs PySem.F.slot_dict_eq (wpAny_call_entry PySem.F.slot_dict_eq da.typeIs PySem.F.entry_dict_eq ?_ (PySem.F.args_dict_eq_2 _ _)) hu
    show wpAny _ _ (Builtin.Dict.dictSlotArgs "__eq__" ⟨[.ref a, .ref b], []⟩ >>= _) _ _ s
    unfold Builtin.Dict.dictSlotArgs
    refine wpAny_bind (wpAny_bind (wpAny_notOrdered_dict da.typeIs (wpAny_pure ?_)))
    refine wpAny_bind (wpAny_isInstance (T := "dict") db.typeIs PySem.F.sub_dict_dict ?_)
    simp only [Bool.not_true, Bool.false_eq_true, if_false]
    refine wpAny_bind (wpAny_pure (wpAny_bind (wpAny_pure (wpAny_bind (same_pairs ha hb da db hl hv ?_)))))
    exact wpAny_pure ⟨_, rfl, (fun q => nomatch q), h⟩
  · intro h
    refine wpAny_richCompare_same_room (op := .NotEq) da.typeIs db.typeIs PySem.F.slot_dict_ne (wpAny_call_entry PySem.F.slot_dict_ne da.typeIs PySem.F.entry_dict_ne ?_ (PySem.F.args_dict_ne_2 _ _)) hu
    show wpAny _ _ (Builtin.Dict.dictSlotArgs "__ne__" ⟨[.ref a, .ref b], []⟩ >>= _) _ _ s
    unfold Builtin.Dict.dictSlotArgs
    refine wpAny_bind (wpAny_bind (wpAny_notOrdered_dict da.typeIs (wpAny_pure ?_)))
    refine wpAny_bind (wpAny_isInstance (T := "dict") db.typeIs PySem.F.sub_dict_dict ?_)
    simp only [Bool.not_true, Bool.false_eq_true, if_false]
    refine wpAny_bind (wpAny_pure (wpAny_bind (wpAny_pure (wpAny_bind (same_pairs ha hb da db hl hv ?_)))))
    exact wpAny_pure ⟨_, rfl, (fun q => nomatch q), h⟩
end
end Mine
end
section
set_option autoImplicit false
set_option linter.unusedVariables false
namespace Mine
open PySem

/-- what the top gives -/
structure GOk (C : Glo) : Prop where
  sys : (C.base.get? sysModules).isSome = true
  nolimit : C.base.NoLimit
  fns : ∀ f a, C.fa f = some a → ∃ o fd, C.base.get? a = some o ∧ o.data = .func fd

section
variable {C : Glo} {F : Fm} {X : XM} {ρ : List Addr} {m : MS} {s : Shared} {E : Value → Shared → Prop} {A : Around} {h : Heap} {hp : List MO}

theorem not_sys (G : GOk C) (H : Hp C ρ hp h) {a : Addr} (ha : a ∈ ρ) : (a == sysModules) = false := by
  have := H.fresh a ha
  cases e : a == sysModules with
  | false => rfl
  | true =>
    have : a = sysModules := by simpa using e
    subst this
    have g := G.sys
    rw [H.fresh _ ha] at g
    cases g

theorem RepK.length : ∀ {es : List (List Nat × MV)} {kvs : List (Str × Value)}, RepK C ρ h es kvs → kvs.length = es.length
  | _, _, .nil => rfl
  | _, _, .cons _ b => by simp [b.length]
theorem str_inj {x y : List Nat} (e : str x = str y) : x = y := by
  have : (str x).cps.toList = (str y).cps.toList := by rw [e]
  simpa using this
theorem RepK.get : ∀ {es : List (List Nat × MV)} {kvs : List (Str × Value)}, RepK C ρ h es kvs → ∀ k : List Nat, match dget es k with
    | some x => ∃ v, valueAt kvs (str k) = some v ∧ Rep C ρ h x v
    | none => valueAt kvs (str k) = none
  | _, _, .nil, k => rfl
  | _, _, @RepK.cons _ _ _ k' x v es ds a b, k => by
    have ih := b.get k
    unfold dget
    by_cases e : k' = k
    · subst e
      simp only [beq_self_eq_true]
      exact ⟨v, by simp [valueAt], a⟩
    · have e2 : ¬ str k' = str k := fun q => e (str_inj q)
      have e1 : (k' == k) = false := by simpa using e
      have ev : valueAt ((str k', v) :: ds) (str k) = valueAt ds (str k) := by simp [valueAt, e2]
      simp only [e1, ev]
      exact ih

theorem rows_same {es : List (List Nat × MV)} {ka kb : List (Str × Value)} (r : RepK C ρ h es ka) (hi : ∀ e ∈ es, ∃ k, e.2 = .int k)
    (hv : ∀ p ∈ es, ∀ k, p.2 = .int k → ∃ t, valueAt kb (str p.1) = some (.int k t)) : ∀ p ∈ ka, ∃ y, valueAt kb p.1 = some y ∧ SeqAt.EqAt A s p.2 y true := by
  induction r with
  | nil => intro p hp; cases hp
  | @cons k x v es ds a b ih =>
    intro p hp
    rcases List.mem_cons.mp hp with rfl | hp
    · obtain ⟨i, hx⟩ := hi _ (List.mem_cons_self ..)
      simp only at hx
      subst hx
      cases a with
      | int _ t =>
        obtain ⟨t', e⟩ := hv _ (List.mem_cons_self ..) i rfl
        exact ⟨_, e, by have := SeqAt.EqAt.int_int (A := A) (s := s) i t i t'; simpa using this⟩
    · exact ih (fun p hp => hi p (List.mem_cons_of_mem _ hp)) (fun p hp => hv p (List.mem_cons_of_mem _ hp)) p hp

theorem dget_mem : ∀ {es : List (List Nat × MV)}, (es.map (·.1)).Nodup → ∀ p ∈ es, dget es p.1 = some p.2
  | [], _, p, hp => by simp at hp
  | (k, x) :: r, hn, p, hp => by
    simp only [List.map_cons, List.nodup_cons] at hn
    unfold dget
    rcases List.mem_cons.mp hp with rfl | hp
    · simp
    · have : (k == p.1) = false := by
        cases e : k == p.1 with
        | false => rfl
        | true => exact absurd (List.mem_map.mpr ⟨p, hp, (by simpa using e : k = p.1).symm⟩) hn.1
      simp only [this]
      exact dget_mem hn.2 p hp

theorem eqDict_ok (G : GOk C) (R : Hp C ρ hp s.heap) {i j : Nat} {v w : Value} (hx : Rep C ρ s.heap (.ref i) v) (hy : Rep C ρ s.heap (.ref j) w) {es : List (List Nat × MV)} (hi : hp[i]? = some (.dict es)) (hj : hp[j]? = some (.dict es))
    (hl : ∀ e ∈ es, ∃ k, e.2 = .int k) (hn : (es.map (·.1)).Nodup) (hu : A.units < cLine) {Q : Value → Shared → Prop} :
    (Q (.bool true) s → wpAny (mod C) A (compareOp .Eq v w) Q E s) ∧ (Q (.bool false) s → wpAny (mod C) A (compareOp .NotEq v w) Q E s) := by
  cases hx with | ref ex => cases hy with | ref ey =>
  obtain ⟨ka, da, ra, _⟩ := R.objs _ _ _ hi ex
  obtain ⟨kb, db, rb, _⟩ := R.objs _ _ _ hj ey
  have sa := not_sys G R (List.mem_of_getElem? ex)
  have sb := not_sys G R (List.mem_of_getElem? ey)
  have el : ka.length = kb.length := by rw [ra.length, rb.length]
  exact dict_eq sa sb da db hu el (rows_same (kb := kb) ra hl fun p hp k hk => by
    have := rb.get p.1
    rw [dget_mem hn p hp, hk] at this
    obtain ⟨v, e, r⟩ := this
    cases r with | int _ t => exact ⟨t, e⟩)
end
end Mine
end
section
set_option autoImplicit false
set_option linter.unusedVariables false
namespace Mine
open PySem

section
variable {C : Glo} {F : Fm} {X : XM} {ρ : List Addr} {m : MS} {s : Shared} {Q : PQ} {E : Value → Shared → Prop} {A : Around} {h : Heap} {hp : List MO}

theorem Rds.get : ∀ {xs : List MV} {ds : List D}, Rds hp xs ds → ∀ {j : Nat} {x : MV}, xs[j]? = some x → ∃ d, ds[j]? = some d ∧ Rd hp x d
  | _, _, .nil, _, _, e => by simp at e
  | _, _, .cons a b, 0, _, e => by simp at e; subst e; exact ⟨_, rfl, a⟩
  | _, _, .cons a b, i + 1, x, e => by
    simp only [List.getElem?_cons_succ] at e ⊢
    exact b.get e
theorem Rds.length : ∀ {xs : List MV} {ds : List D}, Rds hp xs ds → ds.length = xs.length
  | _, _, .nil => rfl
  | _, _, .cons a b => by simp [b.length]
theorem oks_get : ∀ {ds : List D}, D.oks ds = true → ∀ {j : Nat} {d : D}, ds[j]? = some d → d.ok = true
  | [], _, _, _, e => by simp at e
  | d :: ds, h, 0, _, e => by simp at e; subst e; simp only [D.oks, Bool.and_eq_true] at h; exact h.1
  | d :: ds, h, i + 1, _, e => by
    simp only [D.oks, Bool.and_eq_true] at h
    simp only [List.getElem?_cons_succ] at e
    exact oks_get h.2 e

/-- one item of a list asked -/
theorem eqItem (H : Hp C ρ hp s.heap) {x y : MV} {v w : Value} (hx : Rep C ρ s.heap x v) (hy : Rep C ρ s.heap y w) {d e : D} (hd : Rd hp x d) (he : Rd hp y e) (hk : e.deep ≤ 1000) (h1 : d.ok = true) (h2 : e.ok = true)
    (hu : A.units + 1000 < cLine) : SeqAt.EqAt A s v w (d.deq e) := by
  obtain ⟨as, ra⟩ := hd.reads H hx
  obtain ⟨bs, rb⟩ := he.reads H hy
  rw [← D.eqv_py]
  exact SeqAt.eqAt_reads _ _ A s v w _ _ ra rb (d.lay_py h1) (e.lay_py h2) (by rw [D.depth_py, D.depth_py]; omega)

open Classical in
theorem any_items (H : Hp C ρ hp s.heap) {x : MV} {v : Value} {ys : List MV} {ws : List Value} (hx : Rep C ρ s.heap x v) (hy : RepL C ρ s.heap ys ws) {d : D} {es : List D} (hd : Rd hp x d) (he : Rds hp ys es) (hk : d.deep ≤ 1000)
    (h1 : d.ok = true) (h2 : D.oks es = true) (hu : A.units + 1000 < cLine) :
    ∃ e : Value → Bool, (∀ y, y ∈ ws.toArray → SeqAt.EqAt A s y v (e y)) ∧ ws.toArray.any e = es.any (fun e => e.deq d) := by
  have item : ∀ j y, ws[j]? = some y → ∃ e : D, es[j]? = some e ∧ SeqAt.EqAt A s y v (e.deq d) := fun j y hj => by
    have hlt : j < ys.length := by rw [← hy.length]; exact (List.getElem?_eq_some_iff.mp hj).1
    obtain ⟨e, e1, e2⟩ := he.get (List.getElem?_eq_getElem hlt)
    obtain ⟨w, w1, w2⟩ := hy.get (List.getElem?_eq_getElem hlt)
    rw [hj] at w1; cases w1
    exact ⟨e, e1, eqItem H w2 hx e2 hd hk (oks_get h2 e1) h1 hu⟩
  refine ⟨fun y => decide (∃ (j : Nat) (e : D), ws[j]? = some y ∧ es[j]? = some e ∧ e.deq d = true), fun y hy' => ?_, ?_⟩
  · obtain ⟨j, hj⟩ := List.mem_iff_getElem?.mp (by simpa using hy' : y ∈ ws)
    obtain ⟨e, e1, e2⟩ := item j y hj
    show SeqAt.EqAt A s y v (decide (∃ (j : Nat) (e : D), ws[j]? = some y ∧ es[j]? = some e ∧ e.deq d = true))
    by_cases q : ∃ (j : Nat) (e : D), ws[j]? = some y ∧ es[j]? = some e ∧ e.deq d = true
    · rw [decide_eq_true q]
      obtain ⟨k, e', k1, k2, k3⟩ := q
      obtain ⟨e'', e3, e4⟩ := item k y k1
      rw [k2] at e3; cases e3
      rw [k3] at e4; exact e4
    · rw [decide_eq_false q]
      cases b : e.deq d with
      | false => rw [b] at e2; exact e2
      | true => exact absurd ⟨j, e, hj, e1, b⟩ q
  · rw [Bool.eq_iff_iff]
    simp only [List.any_toArray, List.any_eq_true, decide_eq_true_eq]
    constructor
    · rintro ⟨y, _, j, e, _, h4, h5⟩
      exact ⟨e, List.mem_of_getElem? h4, h5⟩
    · rintro ⟨e, he', h5⟩
      obtain ⟨j, hj⟩ := List.mem_iff_getElem?.mp he'
      have hlt : j < ws.length := by rw [hy.length, ← he.length]; exact (List.getElem?_eq_some_iff.mp hj).1
      exact ⟨ws[j], List.getElem_mem hlt, j, e, List.getElem?_eq_getElem hlt, hj, h5⟩

theorem in_ok (G : GOk C) (H : Hp C ρ hp s.heap) {x c : MV} {v w : Value} (hx : Rep C ρ s.heap x v) (hc : Rep C ρ s.heap c w) {P : Bool → Prop} (hu : A.units + 1001 < cLine) (h : wpIn x c P hp) :
    wpAny (mod C) A (compareOp .In v w) (OutB s P) E s := by
  unfold wpIn at h
  split at h
  · rename_i ys x'
    obtain ⟨d, es, hd, he, hk, h1, h2, hq⟩ := h
    cases hc with | tup g l _ =>
    obtain ⟨e, e1, e2⟩ := any_items (A := A.in1) H hx l hd he hk h1 h2 (by simp; omega)
    exact SeqAt.in_tupleAt e ⟨_, g, rfl, _, rfl⟩ e1 ⟨_, s.toks, rfl, rfl, by rw [e2]; exact hq⟩
  · rename_i i x'
    split at h
    · rename_i ys hi
      obtain ⟨d, es, hd, he, hk, h1, h2, hq⟩ := h
      cases hc with | ref g =>
      obtain ⟨items, n, gi, l, _⟩ := H.objs _ _ _ hi g
      obtain ⟨e, e1, e2⟩ := any_items (A := A.in1) H hx l hd he hk h1 h2 (by simp; omega)
      exact SeqAt.in_listAt e ⟨_, gi, rfl, _, rfl⟩ e1 ⟨_, s.toks, rfl, rfl, by rw [e2]; exact hq⟩
    · rename_i es hi
      split at h
      · rename_i k
        cases hc with | ref g =>
        cases hx with | str _ t _ =>
        obtain ⟨kvs, dk, rk, _⟩ := H.objs _ _ _ hi g
        refine wpAny_in_of (strKind_is' C.prog C.w (str k) t) (not_sys G H (List.mem_of_getElem? g)) dk.mapOf ⟨_, s.toks + 1, rfl, rfl, ?_⟩
        have := rk.get k
        cases e : dget es k with
        | none => rw [e] at this h; rw [this]; exact h
        | some x => rw [e] at this h; obtain ⟨v, e', _⟩ := this; rw [e']; exact h
      · exact h.elim
    · exact h.elim
  · rename_i s' a
    cases hc with | str _ t _ => cases hx with | str _ u _ =>
    refine PySem.P.in_str ⟨_, s.toks, rfl, rfl, ?_⟩
    have := StrLaws.found_one (str s') a
    rw [this]
    simpa using h
  · exact h.elim
where
  strKind_is' (prog : Program) (w : World) (x : Str) (t : Tok) : (strKind prog w).is x (.str x t) = true := by simp [strKind, Value.isStrOf]

theorem notIn_of {v w : Value} {P : Bool → Prop} (h : wpAny (mod C) A (compareOp .In v w) (OutB s (fun b => P (!b))) E s) : wpAny (mod C) A (compareOp .NotIn v w) (OutB s P) E s := fun Γ p hΓ => by
  have := h Γ p hΓ
  simp only [compareOp, Sem.wp_bind'] at this ⊢
  refine Sem.wp_mono _ Γ _ (fun b p' s' h' => ?_) (fun _ _ _ h' => h') _ _ this
  obtain ⟨b', t, e1, e2, e3⟩ := h'
  cases e1
  exact ⟨_, t, rfl, e2, e3⟩

noncomputable def cmpIs : Cmp → CmpOp
  | .eq => .Eq | .ne => .NotEq | .lt => .Lt | .le => .LtE | .gt => .Gt | .ge => .GtE | .inn => .In | .nin => .NotIn

theorem cmp_ok (G : GOk C) (H : Hp C ρ m.heap s.heap) {op : Cmp} {x y : MV} {v w : Value} (hx : Rep C ρ s.heap x v) (hy : Rep C ρ s.heap y w) {P : Bool → MS → Prop} (hu : A.units + 1001 < cLine) (h : wpCmp op x y P m) :
    wpAny (mod C) A (compareOp (cmpIs op) v w) (OutB s (fun b => P b m)) E s := by
  unfold wpCmp at h
  split at h
  · split at h
    · rename_i b e
      exact (aeq_ok (A := A) hx hy e).1 _ _ _ _ ⟨_, s.toks, rfl, rfl, h⟩
    · obtain ⟨d, e, hd, he, hk, h1, h2, hq⟩ | ⟨i, j, es, rfl, rfl, hi, hj, hl, hn, hq⟩ := h
      · exact eqP_ok H hx hy hd he hk h1 h2 (by omega) hq
      · exact (eqDict_ok G H hx hy hi hj hl hn (by omega)).1 ⟨_, s.toks, rfl, rfl, hq⟩
  · split at h
    · rename_i b e
      exact (aeq_ok (A := A) hx hy e).2 _ _ _ _ ⟨_, s.toks, rfl, rfl, h⟩
    · obtain ⟨d, e, hd, he, hk, h1, h2, hq⟩ | ⟨i, j, es, rfl, rfl, hi, hj, hl, hn, hq⟩ := h
      · exact neP_ok H hx hy hd he hk h1 h2 (by omega) hq
      · exact (eqDict_ok G H hx hy hi hj hl hn (by omega)).2 ⟨_, s.toks, rfl, rfl, hq⟩
  · split at h
    · cases hx; cases hy; exact wpAny_lt_int ⟨_, s.toks, rfl, rfl, h⟩
    · exact h.elim
  · split at h
    · cases hx; cases hy; exact PyProof.Rows.le_int ⟨_, s.toks, rfl, rfl, h⟩
    · exact h.elim
  · split at h
    · cases hx; cases hy; exact PyProof.Rows.gt_int ⟨_, s.toks, rfl, rfl, h⟩
    · exact h.elim
  · split at h
    · cases hx; cases hy; exact PyProof.Rows.ge_int ⟨_, s.toks, rfl, rfl, h⟩
    · exact h.elim
  · exact in_ok G H hx hy hu h
  · exact notIn_of (in_ok G H hx hy hu h)
end
end Mine
end
section
set_option autoImplicit false
set_option linter.unusedVariables false
namespace Mine
open PySem PyProof.Rows

noncomputable def notSlice : Expr → Bool
  | .Slice .. => false
  | _ => true

theorem sub_plain {slice : Expr} {o i : Value} (h : notSlice slice = true) : subscripted slice false o i = operate [o, i] (getItem o i) := by
  cases slice <;> first | rfl | (cases h)
theorem sub_slice {l u : Option Expr} {p : Pos} {o i : Value} : subscripted (.Slice l u none p) false o i = operate [i, o] (getItem o i) := rfl

theorem pidx_seq {k : Int} {n j : Nat} (h : pidx k n = some j) : seqIndex? k n = some j ∧ -(n : Int) ≤ k ∧ k < n ∧ (0 ≤ k → j = k.toNat) ∧ (k < 0 → j = (k + n).toNat) := by
  unfold pidx at h
  by_cases h0 : 0 ≤ k
  · by_cases h1 : k < n
    · simp only [h0, h1, decide_true] at h
      cases h
      exact ⟨seqIndex_of h0 h1, by omega, h1, fun _ => rfl, fun q => by omega⟩
    · simp [h0, h1] at h
  · by_cases h1 : -(n : Int) ≤ k
    · simp only [h0, h1, decide_true, decide_false] at h
      cases h
      exact ⟨seqIndex_neg (by omega) h1, h1, by omega, fun q => absurd q h0, fun _ => rfl⟩
    · simp [h0, h1] at h

theorem pend_clip (k : Int) (n : Nat) : pend k n = clipAt n k := by
  unfold pend clipAt
  split
  · rename_i h; simp only [decide_eq_true_eq] at h; rw [if_neg (by omega)]; omega
  · rename_i h; simp only [decide_eq_false_iff_not] at h; rw [if_pos (by omega)]; omega
theorem clip_le (k : Int) (n : Nat) : clipAt n k ≤ n := by unfold clipAt; split <;> omega

theorem pslice_eq {α : Type} (xs : List α) (lo hi : Option Int) : pslice xs lo hi = (xs.drop (lo.elim 0 (clipAt xs.length))).take (hi.elim xs.length (clipAt xs.length) - lo.elim 0 (clipAt xs.length)) := by
  unfold pslice
  simp only
  rw [List.drop_take]
  cases lo <;> cases hi <;> simp only [Option.elim, pend_clip]

section
variable {C : Glo} {F : Fm} {X : XM} {ρ : List Addr} {m : MS} {s : Shared} {Q : PQ} {E : Value → Shared → Prop} {A : Around} {h : Heap} {hp : List MO}

theorem RepL.slice {xs : List MV} {vs : List Value} (l : RepL C ρ h xs vs) (lo hi : Option Int) : RepL C ρ h (pslice xs lo hi) (pslice vs lo hi) := by
  unfold pslice
  have e := l.length
  cases lo <;> cases hi <;> simp only [e] <;> exact (l.take _).drop _
theorem pslice_len {α : Type} (xs : List α) (lo hi : Option Int) : (pslice xs lo hi).length ≤ xs.length := by
  rw [pslice_eq, List.length_take, List.length_drop]; omega

theorem line_lt {n : Nat} (h : n ≤ line) : (n : Int) < 2 ^ 63 := by unfold line at h; omega

theorem idx_ok (G : GOk C) (R : Rel C F ρ m s) (ok : FmOk F) {x y : MV} {v w : Value} (hx : Rep C ρ s.heap x v) (hy : Rep C ρ s.heap y w) {value slice : Expr} (hns : notSlice slice = true) (h : wpIdx x y Q m) :
    wpAny (mod C) A (subscriptTail value slice v w) (Out C F ρ s Q) E s := by
  unfold wpIdx at h
  split at h
  · rename_i xs k
    split at h
    · rename_i j hj
      split at h
      · rename_i z hz
        cases hx with | tup g l zl => cases hy with | int _ u =>
        obtain ⟨e1, e2, e3, _⟩ := pidx_seq hj
        obtain ⟨r, r1, r2⟩ := l.get hz
        have := line_lt zl
        refine tail_any ⟨_, g, rfl⟩ slot_tuple_getitem.lookup (PySem.P.getItem_tuple g (by omega) (by omega) ?_ (by simpa using r1) (outSame R r2 h)) (sub_plain hns)
        rw [List.size_toArray, l.length]; exact e1
      · exact h.elim
    · exact h.elim
  · rename_i xs k
    split at h
    · rename_i j hj
      split at h
      · rename_i z hz
        cases hx with | str _ t zl => cases hy with | int _ u =>
        obtain ⟨e1, e2, e3, _⟩ := pidx_seq hj
        have := line_lt zl
        refine tail_any (T := "str") (typeIs_str s (Mine.str xs) t) slot_str_getitem.lookup (PySem.P.getItem_str ?_ ?_ (outTok R ok (.str _ _ (by simp [line])) h)) (sub_plain hns)
        · simp only [Bool.or_eq_false_iff, decide_eq_false_iff_not]; omega
        · rw [str_length, e1]; simpa using hz
      · exact h.elim
    · exact h.elim
  · rename_i i k
    split at h
    · rename_i xs hi
      split at h
      · rename_i j hj
        split at h
        · rename_i z hz
          cases hx with | ref g => cases hy with | int _ u =>
          obtain ⟨items, n, gi, l, zl⟩ := R.hp.objs _ _ _ hi g
          obtain ⟨e1, e2, e3, e4, e5⟩ := pidx_seq hj
          obtain ⟨r, r1, r2⟩ := l.get hz
          have := line_lt zl
          have hl : s.heap.IsList _ items.toArray := ⟨_, gi, rfl, _, rfl⟩
          refine tail_any hl.typeIs slot_list_getitem.lookup ?_ (sub_plain hns)
          by_cases h0 : 0 ≤ k
          · exact wpAny_getItem_list hl h0 (by omega) (by rw [← e4 h0]; simpa using r1) (outSame R r2 h)
          · exact wpAny_getItem_list_neg hl (by omega) (by rw [List.size_toArray, l.length]; exact e2) (by omega) (by rw [List.size_toArray, l.length, ← e5 (by omega)]; simpa using r1) (outSame R r2 h)
        · exact h.elim
      · exact h.elim
    · exact h.elim
  · rename_i xs k
    split at h
    · rename_i j hj
      split at h
      · rename_i z hz
        cases hx with | @scr _ la items n g l zl => cases hy with | int _ u =>
        have gi := R.hp.base _ _ g
        have rl : RepL C ρ s.heap (xs.map .int) items := ints_rep l
        have hlen : items.length = xs.length := by rw [rl.length]; simp
        obtain ⟨e1, e2, e3, e4, e5⟩ := pidx_seq hj
        obtain ⟨r, r1, r2⟩ := rl.get (i := j) (x := .int z) (by simp [hz])
        have := line_lt zl
        have hl : s.heap.IsList la items.toArray := ⟨_, gi, rfl, _, rfl⟩
        refine tail_any hl.typeIs slot_list_getitem.lookup ?_ (sub_plain hns)
        by_cases h0 : 0 ≤ k
        · exact wpAny_getItem_list hl h0 (by omega) (by rw [← e4 h0]; simpa using r1) (outSame R r2 h)
        · exact wpAny_getItem_list_neg hl (by omega) (by rw [List.size_toArray, hlen]; exact e2) (by omega) (by rw [List.size_toArray, hlen, ← e5 (by omega)]; simpa using r1) (outSame R r2 h)
      · exact h.elim
    · exact h.elim
  · rename_i i k
    split at h
    · rename_i es hi
      split at h
      · rename_i z hz
        cases hx with | ref g => cases hy with | str _ t _ =>
        obtain ⟨kvs, dk, rk, zk⟩ := R.hp.objs _ _ _ hi g
        have := rk.get k
        rw [hz] at this
        obtain ⟨v, e, r⟩ := this
        exact tail_any dk.typeIs slot_dict_getitem.lookup (wpAny_getItem_of (in_ok.strKind_is' C.prog C.w (Mine.str k) t) dk.mapOf e (outTok R ok r h)) (sub_plain hns)
      · exact h.elim
    · exact h.elim
  · exact h.elim
end
end Mine
end
section
set_option autoImplicit false
set_option linter.unusedVariables false
namespace Mine
open PySem PyProof.Rows

section
variable {C : Glo} {F : Fm} {X : XM} {ρ : List Addr} {m : MS} {s : Shared} {Q : PQ} {E : Value → Shared → Prop} {A : Around} {h : Heap} {hp : List MO}

noncomputable def PartRep (C : Glo) (ρ : List Addr) (h : Heap) : Option MV → Value → Prop
  | none, v => v = .none
  | some x, v => Rep C ρ h x v

theorem part_of {lo : Option MV} {v : Value} (h : PartRep C ρ s.heap lo v) {k : Option Int} (e : optInt lo = some k) : IsPart v k ∧ ∃ l : Option (Int × Tok), v = partValue l ∧ l.map (·.1) = k := by
  cases lo with
  | none =>
    simp only [optInt] at e; cases e
    simp only [PartRep] at h; subst h
    exact ⟨.none, none, rfl, rfl⟩
  | some x =>
    simp only [PartRep] at h
    cases h with
    | int i t => simp only [optInt] at e; cases e; exact ⟨.int i t, some (i, t), rfl, rfl⟩
    | _ => simp [optInt] at e

theorem strSlice_eq (x : List Nat) (lo hi : Option Int) : ((Builtin.Str.strSliceIndices lo hi 1 x.length).filterMap (x.toArray[·]?)) = pslice x lo hi ∧ (Builtin.Str.strSliceIndices lo hi 1 x.length).length = (pslice x lo hi).length := by
  have e : Builtin.Str.strSliceIndices lo hi 1 x.length = (List.range (hi.elim x.length (clipAt x.length) - lo.elim 0 (clipAt x.length))).map (lo.elim 0 (clipAt x.length) + ·) := by
    have h1 : Builtin.Str.strSliceIndices lo hi 1 x.length = sliceRange (sliceBounds lo hi none x.length).1 (sliceBounds lo hi none x.length).2.1 (sliceBounds lo hi none x.length).2.2 := rfl
    rw [h1, sliceBounds_plain, sliceRange_one]
  rw [e]
  constructor
  · rw [pick_run, pslice_eq]
  · rw [pslice_eq, List.length_map, List.length_range, List.length_take, List.length_drop]
    have : hi.elim x.length (clipAt x.length) ≤ x.length := by cases hi <;> simp [clip_le]
    omega

theorem sl_ok (R : Rel C F ρ m s) (ok : FmOk F) {x : MV} {v : Value} (hx : Rep C ρ s.heap x v) {lo hi : Option MV} {vl vu : Value} (hl : PartRep C ρ s.heap lo vl) (hu : PartRep C ρ s.heap hi vu) {value : Expr} {l u : Option Expr} {p : Pos}
    (hq : wpSl x lo hi Q m) : wpAny (mod C) A (subscriptTail value (.Slice l u none p) v (.ref s.heap.objs.size)) (Out C F ρ s Q) E { s with heap := s.heap.push { cls := .type "slice", data := .fields #[vl, vu, .none] } } := by
  obtain ⟨R', st⟩ := R.grow (s' := { s with heap := s.heap.push { cls := .type "slice", data := .fields #[vl, vu, .none] } }) ok (fun a o e => Heap.get?_push_of_some _ e) rfl rfl
  unfold wpSl at hq
  split at hq
  · rename_i lo' hi' e1 e2
    obtain ⟨p1, l1, el1, ml1⟩ := part_of hl e1
    obtain ⟨p2, l2, el2, ml2⟩ := part_of hu e2
    have hs : (s.heap.push { cls := .type "slice", data := .fields #[vl, vu, .none] }).IsSliceOf s.heap.objs.size vl vu .none := Heap.IsSliceOf.new _ _ _ _
    have hx' := hx.step st
    refine wpAny_mono (Q := Out C F ρ { s with heap := s.heap.push { cls := .type "slice", data := .fields #[vl, vu, .none] } } Q) ?_ (Out.back st) fun _ _ e => e
    split at hq
    · rename_i y
      cases hx' with | str _ t z =>
      have hsl : (s.heap.push { cls := .type "slice", data := .fields #[vl, vu, .none] }).IsSlice s.heap.objs.size l1 l2 none := by subst el1; subst el2; exact ⟨_, Heap.get?_push_size _ rfl, rfl, rfl⟩
      refine tail_any (T := "str") (typeIs_str _ (Mine.str y) t) slot_str_getitem.lookup (wpAny_getItem_str_slice (s := { s with heap := s.heap.push { cls := .type "slice", data := .fields #[vl, vu, .none] } }) hsl rfl ?_) sub_slice
      unfold sliceMade slicePicked
      rw [ml1, ml2, str_length]
      obtain ⟨f1, f2⟩ := strSlice_eq y lo' hi'
      have hz := pslice_len y lo' hi'
      split
      · rename_i hc
        simp only [Option.map_none, Option.getD_none, Bool.and_eq_true, beq_iff_eq] at hc
        have e : pslice y lo' hi' = y := by
          have h2 := f2.symm.trans hc.2
          rw [pslice_eq] at h2 ⊢
          rw [List.length_take, List.length_drop] at h2
          cases y with
          | nil => simp
          | cons a b =>
            have h3 : lo'.elim 0 (clipAt (a :: b).length) = 0 := by simp only [List.length_cons] at h2 ⊢; omega
            rw [h3] at h2 ⊢
            rw [List.drop_zero, Nat.sub_zero]
            exact List.take_of_length_le (by simp only [List.length_cons, Nat.sub_zero] at h2 ⊢; omega)
        rw [e] at hq
        exact outSame R' (.str y t z) hq
      · refine ⟨?_, ?_⟩
        · show ((Builtin.Str.strSliceIndices lo' hi' 1 y.length).filterMap (y.toArray[·]?)).toArray.size ≤ sizeLine
          rw [f1, List.size_toArray]; exact Nat.le_trans hz z
        · show Out C F ρ _ Q (.str ⟨((Builtin.Str.strSliceIndices lo' hi' 1 y.length).filterMap (y.toArray[·]?)).toArray⟩ _) _
          rw [f1]
          exact outTok R' ok (.str _ _ (Nat.le_trans hz z)) hq
    · exact hq.elim
    · rename_i xs
      cases hx' with | @scr _ la items n g l zl =>
      have gi := R'.hp.base _ _ g
      have rl : RepL C ρ _ (xs.map .int) items := ints_rep (h := s.heap.push { cls := .type "slice", data := .fields #[vl, vu, .none] }) l
      have hlen : items.length = xs.length := by rw [rl.length]; simp
      have hl' : (s.heap.push { cls := .type "slice", data := .fields #[vl, vu, .none] }).IsList la items.toArray := ⟨_, gi, rfl, _, rfl⟩
      refine tail_any (T := "list") ⟨_, gi, rfl⟩ slot_list_getitem.lookup (wpAny_getItem_list_slice (s := { s with heap := s.heap.push { cls := .type "slice", data := .fields #[vl, vu, .none] } }) hl' hs p1 p2 .none (by simp) ?_ (by rw [List.size_toArray, hlen]; exact zl)) sub_slice
      have e : slicePick items.toArray lo' hi' none = (pslice items lo' hi').toArray := by
        rw [slicePick_plain, pslice_eq]; simp
      rw [e]
      exact outList R' ok (rl.slice _ _) (Nat.le_trans (pslice_len _ _ _) (by simpa using zl)) hq
    · split at hq
      · rename_i xs hi
        cases hx' with | ref g =>
        obtain ⟨items, n, gi, l, zl⟩ := R'.hp.objs _ _ _ hi g
        have hl' : (s.heap.push { cls := .type "slice", data := .fields #[vl, vu, .none] }).IsList _ items.toArray := ⟨_, gi, rfl, _, rfl⟩
        refine tail_any (T := "list") ⟨_, gi, rfl⟩ slot_list_getitem.lookup (wpAny_getItem_list_slice (s := { s with heap := s.heap.push { cls := .type "slice", data := .fields #[vl, vu, .none] } }) hl' hs p1 p2 .none (by simp) ?_ (by rw [List.size_toArray, l.length]; exact zl)) sub_slice
        have e : slicePick items.toArray lo' hi' none = (pslice items lo' hi').toArray := by
          rw [slicePick_plain, pslice_eq]; simp
        rw [e]
        exact outList R' ok (l.slice _ _) (Nat.le_trans (pslice_len _ _ _) zl) hq
      · exact hq.elim
    · exact hq.elim
  · exact hq.elim
end
end Mine
end
section
set_option autoImplicit false
set_option linter.unusedVariables false
namespace Mine
open PySem PyProof.Rows

section
variable {C : Glo} {F : Fm} {X : XM} {ρ : List Addr} {m : MS} {s : Shared} {Q : PQ} {E : Value → Shared → Prop} {A : Around} {h : Heap} {hp : List MO}

noncomputable def tsIs : TS → Option String
  | .int => some "int" | .bool => some "bool" | .str => some "str" | .list => some "list" | .tuple => some "tuple" | .dict => some "dict" | .cls _ => none

theorem isi_ok (H : Hp C ρ hp s.heap) {x : MV} {v : Value} (hx : Rep C ρ s.heap x v) {t : TS} {b : Bool} (h : tyOf hp x t = some b) {P : Bool → Prop} (hq : P b) :
    ∀ T, tsIs t = some T → wpAny (mod C) A (call (.builtin "isinstance") [v, .type T]) (OutB s P) E s := by
  intro T eT
  cases hx with
  | none =>
    cases t <;> simp only [tsIs] at eT <;> cases eT
    · simp only [tyOf] at h; cases h; exact IsiPair.NoneType_int ⟨_, s.toks + 1, rfl, rfl, hq⟩
    · simp only [tyOf] at h; cases h; exact IsiPair.NoneType_bool ⟨_, s.toks + 1, rfl, rfl, hq⟩
    · simp only [tyOf] at h; cases h; exact IsiPair.NoneType_str ⟨_, s.toks + 1, rfl, rfl, hq⟩
    · simp only [tyOf] at h; cases h; exact IsiPair.NoneType_list ⟨_, s.toks + 1, rfl, rfl, hq⟩
    · simp only [tyOf] at h; cases h; exact IsiPair.NoneType_tuple ⟨_, s.toks + 1, rfl, rfl, hq⟩
    · simp only [tyOf] at h; cases h; exact IsiPair.NoneType_dict ⟨_, s.toks + 1, rfl, rfl, hq⟩
  | bool _ =>
    cases t <;> simp only [tsIs] at eT <;> cases eT
    · simp only [tyOf] at h; cases h; exact IsiPair.bool_int ⟨_, s.toks, rfl, rfl, hq⟩
    · simp only [tyOf] at h; cases h; exact IsiPair.bool_bool ⟨_, s.toks, rfl, rfl, hq⟩
    · simp only [tyOf] at h; cases h; exact IsiPair.bool_str ⟨_, s.toks + 1, rfl, rfl, hq⟩
    · simp only [tyOf] at h; cases h; exact IsiPair.bool_list ⟨_, s.toks + 1, rfl, rfl, hq⟩
    · simp only [tyOf] at h; cases h; exact IsiPair.bool_tuple ⟨_, s.toks + 1, rfl, rfl, hq⟩
    · simp only [tyOf] at h; cases h; exact IsiPair.bool_dict ⟨_, s.toks + 1, rfl, rfl, hq⟩
  | int _ _ =>
    cases t <;> simp only [tsIs] at eT <;> cases eT
    · simp only [tyOf] at h; cases h; exact IsiPair.int_int ⟨_, s.toks, rfl, rfl, hq⟩
    · simp only [tyOf] at h; cases h; exact IsiPair.int_bool ⟨_, s.toks + 1, rfl, rfl, hq⟩
    · simp only [tyOf] at h; cases h; exact IsiPair.int_str ⟨_, s.toks + 1, rfl, rfl, hq⟩
    · simp only [tyOf] at h; cases h; exact IsiPair.int_list ⟨_, s.toks + 1, rfl, rfl, hq⟩
    · simp only [tyOf] at h; cases h; exact IsiPair.int_tuple ⟨_, s.toks + 1, rfl, rfl, hq⟩
    · simp only [tyOf] at h; cases h; exact IsiPair.int_dict ⟨_, s.toks + 1, rfl, rfl, hq⟩
  | str _ _ _ =>
    cases t <;> simp only [tsIs] at eT <;> cases eT
    · simp only [tyOf] at h; cases h; exact IsiPair.str_int ⟨_, s.toks + 1, rfl, rfl, hq⟩
    · simp only [tyOf] at h; cases h; exact IsiPair.str_bool ⟨_, s.toks + 1, rfl, rfl, hq⟩
    · simp only [tyOf] at h; cases h; exact IsiPair.str_str ⟨_, s.toks, rfl, rfl, hq⟩
    · simp only [tyOf] at h; cases h; exact IsiPair.str_list ⟨_, s.toks + 1, rfl, rfl, hq⟩
    · simp only [tyOf] at h; cases h; exact IsiPair.str_tuple ⟨_, s.toks + 1, rfl, rfl, hq⟩
    · simp only [tyOf] at h; cases h; exact IsiPair.str_dict ⟨_, s.toks + 1, rfl, rfl, hq⟩
  | tup g l z =>
    cases t <;> simp only [tsIs] at eT <;> cases eT
    · simp only [tyOf] at h; cases h; exact IsiPair.tuple_int g rfl ⟨_, s.toks + 1, rfl, rfl, hq⟩
    · simp only [tyOf] at h; cases h; exact IsiPair.tuple_bool g rfl ⟨_, s.toks + 1, rfl, rfl, hq⟩
    · simp only [tyOf] at h; cases h; exact IsiPair.tuple_str g rfl ⟨_, s.toks + 1, rfl, rfl, hq⟩
    · simp only [tyOf] at h; cases h; exact IsiPair.tuple_list g rfl ⟨_, s.toks + 1, rfl, rfl, hq⟩
    · simp only [tyOf] at h; cases h; exact IsiPair.tuple_tuple g rfl ⟨_, s.toks, rfl, rfl, hq⟩
    · simp only [tyOf] at h; cases h; exact IsiPair.tuple_dict g rfl ⟨_, s.toks + 1, rfl, rfl, hq⟩
  | @ref i a g =>
    cases hi : hp[i]? with
    | none => simp [tyOf, hi] at h
    | some o =>
      cases o with
      | list xs =>
        obtain ⟨items, n, gi, l, zl⟩ := H.objs _ _ _ hi g
        cases t <;> simp only [tsIs] at eT <;> cases eT
        · simp only [tyOf, hi] at h; cases h; exact IsiPair.list_int gi rfl ⟨_, s.toks + 1, rfl, rfl, hq⟩
        · simp only [tyOf, hi] at h; cases h; exact IsiPair.list_bool gi rfl ⟨_, s.toks + 1, rfl, rfl, hq⟩
        · simp only [tyOf, hi] at h; cases h; exact IsiPair.list_str gi rfl ⟨_, s.toks + 1, rfl, rfl, hq⟩
        · simp only [tyOf, hi] at h; cases h; exact IsiPair.list_list gi rfl ⟨_, s.toks, rfl, rfl, hq⟩
        · simp only [tyOf, hi] at h; cases h; exact IsiPair.list_tuple gi rfl ⟨_, s.toks + 1, rfl, rfl, hq⟩
        · simp only [tyOf, hi] at h; cases h; exact IsiPair.list_dict gi rfl ⟨_, s.toks + 1, rfl, rfl, hq⟩
      | dict es =>
        obtain ⟨kvs, ⟨od, _, _, gd, ⟨hc, _⟩, _⟩, _⟩ := H.objs _ _ _ hi g
        cases t <;> simp only [tsIs] at eT <;> cases eT
        · simp only [tyOf, hi] at h; cases h; exact IsiPair.dict_int gd hc ⟨_, s.toks + 1, rfl, rfl, hq⟩
        · simp only [tyOf, hi] at h; cases h; exact IsiPair.dict_bool gd hc ⟨_, s.toks + 1, rfl, rfl, hq⟩
        · simp only [tyOf, hi] at h; cases h; exact IsiPair.dict_str gd hc ⟨_, s.toks + 1, rfl, rfl, hq⟩
        · simp only [tyOf, hi] at h; cases h; exact IsiPair.dict_list gd hc ⟨_, s.toks + 1, rfl, rfl, hq⟩
        · simp only [tyOf, hi] at h; cases h; exact IsiPair.dict_tuple gd hc ⟨_, s.toks + 1, rfl, rfl, hq⟩
        · simp only [tyOf, hi] at h; cases h; exact IsiPair.dict_dict gd hc ⟨_, s.toks, rfl, rfl, hq⟩
  | scr => cases t <;> cases h
  | inst => cases t <;> cases h

/-- the callee of a built-in, as the name gives it -/
noncomputable def biIs : Bi → Option (Str × Value)
  | .len => some ("len", .builtin "len")
  | .int => some ("int", .type "int")
  | .str => some ("str", .type "str")
  | .list => some ("list", .type "list")
  | .tuple => some ("tuple", .type "tuple")
  | .dict => some ("dict", .type "dict")
  | _ => none

theorem outKeep (R : Rel C F ρ m s) (ok : FmOk F) {h' : Heap} {t : Nat} (hk : ∀ b o, s.heap.get? b = some o → h'.get? b = some o) {x : MV} {v : Value} (hr : Rep C ρ h' x v) (h : Q x m) : Out C F ρ s Q v { s with heap := h', toks := t } := by
  obtain ⟨R', st⟩ := R.grow (s' := { s with heap := h', toks := t }) ok hk rfl rfl
  exact ⟨ρ, m, x, st, R', hr, h⟩

theorem len_ok (G : GOk C) (R : Rel C F ρ m s) (ok : FmOk F) {x : MV} {v : Value} (hx : Rep C ρ s.heap x v) (h : wpLen x Q m) : wpAny (mod C) A (call (.builtin "len") [v]) (Out C F ρ s Q) E s := by
  cases hx with
  | tup g l z =>
    refine PySem.P.len_tuple g ?_ ?_
    · rw [List.size_toArray, l.length]; have := line_lt z; omega
    · rw [List.size_toArray, l.length]; exact outTok R ok (.int _ _) h
  | str _ t z =>
    refine PySem.P.len_str ?_ ?_
    · rw [str_length]; have := line_lt z; omega
    · rw [str_length]; exact outTok R ok (.int _ _) h
  | scr g l z =>
    have hlen := (ints_rep (C := C) (ρ := ρ) (h := s.heap) l).length
    rw [List.length_map] at hlen
    refine PySem.Calls.call_len_list ⟨_, R.hp.base _ _ g, rfl, _, rfl⟩ ?_ ?_
    · rw [List.size_toArray, hlen]; exact line_lt z
    · rw [List.size_toArray, hlen]; exact outTok R ok (.int _ _) h
  | @ref i _ g =>
    cases hi : m.heap[i]? with
    | none => simp only [wpLen, hi] at h
    | some o =>
      cases o with
      | list ys =>
        simp only [wpLen, hi] at h
        obtain ⟨items, n, gi, l, z⟩ := R.hp.objs _ _ _ hi g
        refine PySem.Calls.call_len_list ⟨_, gi, rfl, _, rfl⟩ ?_ ?_
        · rw [List.size_toArray, l.length]; exact line_lt z
        · rw [List.size_toArray, l.length]; exact outTok R ok (.int _ _) h
      | dict ys =>
        simp only [wpLen, hi] at h
        obtain ⟨kvs, dk, rk, z⟩ := R.hp.objs _ _ _ hi g
        refine call_len_dict (not_sys G R.hp (List.mem_of_getElem? g)) dk ?_ ?_
        · rw [rk.length]; exact line_lt z
        · rw [rk.length]; exact outTok R ok (.int _ _) h
  | _ => exact h.elim
theorem at_end (R : Rel C F ρ m s) {a : Addr} : (ρ ++ [a])[m.heap.length]? = some a := by rw [← R.hp.len, List.getElem?_append_right (Nat.le_refl _)]; simp
theorem listOf_ok (R : Rel C F ρ m s) (ok : FmOk F) {x : MV} {v : Value} (hx : Rep C ρ s.heap x v) (h : wpListOf x Q m) : wpAny (mod C) A (call (.type "list") [v]) (Out C F ρ s Q) E s := by
  cases hx with
  | @ref i _ g =>
    cases hi : m.heap[i]? with
    | none => simp only [wpListOf, hi] at h
    | some o =>
      cases o with
      | list ys =>
        simp only [wpListOf, hi] at h
        obtain ⟨items, n, gi, l, z⟩ := R.hp.objs _ _ _ hi g
        refine call_list_seq _ (.inl rfl) gi rfl rfl (fun h' c' hk hn => ?_) (by rw [List.size_toArray, l.length]; exact z)
        obtain ⟨R', st⟩ := R.alloc (s' := { s with heap := h' }) ok hk rfl rfl (o := .list ys) (a := s.heap.objs.size) (fresh_at (Nat.le_refl _))
          ⟨items, c', hn, l.up (fun a o e _ => hk a o e) (List.prefix_append _ _), z⟩
        exact ⟨_, _, _, st, R', .ref (at_end R), h⟩
      | dict ys => simp only [wpListOf, hi] at h
  | @tup _ _ ys _ gi l z =>
    refine call_list_seq _ (.inr rfl) gi rfl rfl (fun h' c' hk hn => ?_) (by rw [List.size_toArray, l.length]; exact z)
    obtain ⟨R', st⟩ := R.alloc (s' := { s with heap := h' }) ok hk rfl rfl (o := .list ys) (a := s.heap.objs.size) (fresh_at (Nat.le_refl _))
      ⟨_, c', hn, l.up (fun a o e _ => hk a o e) (List.prefix_append _ _), z⟩
    exact ⟨_, _, _, st, R', .ref (at_end R), h⟩
  | _ => exact h.elim
theorem tupleOf_ok (R : Rel C F ρ m s) (ok : FmOk F) {i : Nat} {ys : List MV} {v : Value} (hx : Rep C ρ s.heap (.ref i) v) (hi : m.heap[i]? = some (.list ys)) (h : Q (.tup ys) m) : wpAny (mod C) A (call (.type "tuple") [v]) (Out C F ρ s Q) E s := by
  cases hx with | ref g =>
  obtain ⟨items, n, gi, l, z⟩ := R.hp.objs _ _ _ hi g
  refine call_tuple_list ⟨_, gi, rfl, _, rfl⟩ (fun h' hk => ?_) (by rw [List.size_toArray, l.length]; exact z)
  have hk' : ∀ b o, s.heap.get? b = some o → (h'.push (tupO items 0)).get? b = some o := fun b o e => Heap.get?_push_of_some _ (hk b o e)
  exact outKeep R ok hk' (.tup (Heap.get?_push_size _ rfl) (l.up (fun a o e _ => hk' a o e) (List.prefix_refl _)) z) h
theorem dictOf_ok (G : GOk C) (R : Rel C F ρ m s) (ok : FmOk F) {i : Nat} {ys : List (List Nat × MV)} {v : Value} (hx : Rep C ρ s.heap (.ref i) v) (hi : m.heap[i]? = some (.dict ys)) (h : Q (.ref m.heap.length) (m.push (.dict ys))) : wpAny (mod C) A (call (.type "dict") [v]) (Out C F ρ s Q) E s := by
  cases hx with | ref g =>
  obtain ⟨kvs, dk, rk, z⟩ := R.hp.objs _ _ _ hi g
  refine kt_call_dict (not_sys G R.hp (List.mem_of_getElem? g)) dk (by rw [rk.length]; exact z) fun h' hd hs => ?_
  have hk : ∀ a o, s.heap.get? a = some o → h'.get? a = some o := fun a o e => (hs.2 a (Nat.ne_of_lt (Heap.lt_size e))).trans (Heap.get?_push_of_some _ e)
  obtain ⟨R', st⟩ := R.alloc (s' := { s with heap := h' }) ok hk rfl rfl (o := .dict ys) (a := s.heap.objs.size) (fresh_at (Nat.le_refl _))
    ⟨kvs, hd, rk.up (fun a o e _ => hk a o e) (List.prefix_append _ _), z⟩
  exact ⟨_, _, _, st, R', .ref (at_end R), h⟩

theorem blt_ok (G : GOk C) (R : Rel C F ρ m s) (ok : FmOk F) {b : Bi} {xs : List MV} {vs : List Value} (hx : RepL C ρ s.heap xs vs) {n : Str} {f : Value} (hb : biIs b = some (n, f)) (h : wpBlt b xs Q m) :
    wpAny (mod C) A (call f vs) (Out C F ρ s Q) E s := by
  cases hx with
  | nil => exact h.elim
  | @cons x v _ _ hx hn =>
    cases hn with
    | cons => exact h.elim
    | nil =>
      cases b with
      | len => cases hb; exact len_ok G R ok hx h
      | list => cases hb; exact listOf_ok R ok hx h
      | int =>
        cases hb
        cases hx with
        | bool c => exact call_int_bool (outTok R ok (.int _ _) (by cases c <;> exact h))
        | _ => exact h.elim
      | str =>
        cases hb
        cases hx with
        | str _ t z => exact PySem.P.str_of_str (outSame R (.str _ t z) h)
        | _ => exact h.elim
      | tuple =>
        cases hb
        cases x with
        | ref i =>
          cases hi : m.heap[i]? with
          | none => simp only [wpBlt, wpBlt1, hi] at h
          | some o => cases o with
            | list ys => simp only [wpBlt, wpBlt1, hi] at h; exact tupleOf_ok R ok hx hi h
            | dict ys => simp only [wpBlt, wpBlt1, hi] at h
        | _ => exact h.elim
      | dict =>
        cases hb
        cases x with
        | ref i =>
          cases hi : m.heap[i]? with
          | none => simp only [wpBlt, wpBlt1, hi] at h
          | some o => cases o with
            | list ys => simp only [wpBlt, wpBlt1, hi] at h
            | dict ys => simp only [wpBlt, wpBlt1, hi] at h; exact dictOf_ok G R ok hx hi h
        | _ => exact h.elim
      | _ => cases hb
end
end Mine
end
section
set_option autoImplicit false
set_option linter.unusedVariables false
namespace Mine
open PySem PyProof.Rows

/-- no star, no set display, no slice -/
noncomputable def okX : Expr → Bool
  | .Starred .. => false
  | .Set .. => false
  | .Slice .. => false
  | _ => true
theorem okX_star {e : Expr} (h : okX e = true) (rest : List Expr) (env : Env) : starEach (e :: rest) env = (false, eval e env) :: starEach rest env := by
  cases e <;> first | rfl | cases h
theorem okX_marks {e : Expr} (h : okX e = true) (op : CmpOp) : behindInMarks op e = false := by
  cases e <;> first | rfl | cases h
theorem okX_slice {e : Expr} (h : okX e = true) : notSlice e = true := by
  cases e <;> first | rfl | cases h
theorem okX_folded {e : Expr} (h : okX e = true) (env : Env) (x : Value) : foldedSetIterable e env x = pure x := by
  cases e <;> first | rfl | cases h

noncomputable def notCall0 : Expr → Bool
  | .Call (.Name _ _) [] [] _ => false
  | _ => true
theorem notCall0_base {o : Expr} (h : notCall0 o = true) (name : Str) (env : Env) : attributeBase o name env (eval o env) = eval o env := by
  unfold attributeBase
  split
  · cases h
  · rfl
noncomputable def isComp : Expr → Bool
  | .ListComp .. => true
  | .SetComp .. => true
  | .DictComp .. => true
  | _ => false
theorem swaps_no {e : Expr} (h : isComp e = false) (t : Option Expr) (l : Nat) (env : Env) : swapsWith e t l env = pure false := by
  cases e <;> first | rfl | cases h

structure Cx where
  kind : Str → Option NameKind
  nm : Nat → Option Str
  fn : Nat → Option Str
  gl : Nat → Option (Str × MV)

noncomputable def dbg (x : Str) : Bool := x == ("__debug__" : Str)
noncomputable def cdc (x : Str) : Bool := x == ("__classdict__" : Str)

/-- the built-in names that the laws use -/
noncomputable def bltNames : List (Str × Value) := [("len", .builtin "len"), ("int", .type "int"), ("str", .type "str"), ("list", .type "list"), ("tuple", .type "tuple"), ("dict", .type "dict"),
  ("bool", .type "bool"), ("isinstance", .builtin "isinstance"), ("range", .type "range"), ("enumerate", .type "enumerate")]

structure CxOk (C : Glo) (c : Cx) (F : Fm) (n : Nat) : Prop where
  fm : FmOk F
  kind : ∀ x, F.env.kindOf x = c.kind x
  nm : ∀ i x, c.nm i = some x → (F.env.kindOf x = some .local ∧ F.lay i = some (.nm F.env.locals x)) ∨
    (∃ a, (F.env.kindOf x = some .cell ∨ (F.env.kindOf x = some .free ∧ cdc x = false)) ∧ F.env.cells.lookup x = some a ∧ F.lay i = some (.cl a))
  glob : ∃ mg mb, C.base.Ns F.env.globals mg ∧ C.base.Ns F.env.builtins mb ∧ (∀ f x, c.fn f = some x → ∃ a, C.fa f = some a ∧ mg x = some (.ref a)) ∧
    (∀ g x v, c.gl g = some (x, v) → ∃ w, mg x = some w ∧ ∀ ρ h, C.base.StaysIn h → Rep C ρ h v w) ∧ (∀ x v, (x, v) ∈ bltNames → mg x = none ∧ mb x = some v)
  units : F.A.units ≤ 3 * F.A.depth + 4
  room : F.A.depth + n ≤ 999
  inter : interactive F.env = false

theorem CxOk.u {C : Glo} {c : Cx} {F : Fm} {n : Nat} (x : CxOk C c F n) : F.A.units + 1001 < cLine := by
  have := x.units; have := x.room; show _ < 9900; omega

section
variable {C : Glo} {F : Fm} {X : XM} {ρ : List Addr} {m : MS} {s : Shared} {Q : PQ} {E : Value → Shared → Prop} {A : Around} {c : Cx} {n : Nat}

theorem ns_base (H : Hp C ρ m.heap s.heap) {a : Addr} {f : Str → Option Value} (h : C.base.Ns a f) : s.heap.Ns a f := ns_data h fun o e => ⟨o, H.base a o e, rfl⟩

theorem load_var (cx : CxOk C c F n) (R : Rel C F ρ m s) {i : Nat} {x : Str} (hx : c.nm i = some x) {v : MV} (hv : m.get i = some v) {p : Pos} (hd : dbg x = false) (hq : Q v m) :
    wpAny (mod C) A (eval (.Name x p) F.env) (Out C F ρ s Q) E s := by
  obtain ⟨l, h1, h2⟩ := R.vars i v hv
  refine wpAny_Name ?_ hd
  rcases cx.nm i x hx with ⟨k, e⟩ | ⟨a, k, e1, e⟩
  · rw [e] at h1; cases h1
    obtain ⟨f, w, hn, hw, r⟩ := h2
    exact wpAny_loadName_local cx.fm.kind k hn hw (outSame R r hq)
  · rw [e] at h1; cases h1
    obtain ⟨w, hc, r⟩ := h2
    rcases k with k | ⟨k, kd⟩
    · exact wpAny_loadName_cell cx.fm.kind k e1 hc (outSame R r hq)
    · exact wpAny_loadName_free cx.fm.kind k e1 hc (outSame R r hq) kd

theorem load_blt (cx : CxOk C c F n) (R : Rel C F ρ m s) {x : Str} {v : Value} (hm : (x, v) ∈ bltNames) (hk : c.kind x = some .globalImplicit) {p : Pos} (hd : dbg x = false) {P : Value → Shared → Prop} (h : P v s) :
    wpAny (mod C) A (eval (.Name x p) F.env) P E s := by
  obtain ⟨mg, mb, h1, h2, _, _, h3⟩ := cx.glob
  exact Calls.Name_function_global cx.fm.kind ((cx.kind x).trans hk) (Calls.loadGlobal_builtin (ns_base R.hp h1) (h3 x v hm).1 (ns_base R.hp h2) (h3 x v hm).2 h) hd
theorem load_fn (cx : CxOk C c F n) (R : Rel C F ρ m s) {x : Str} {f : Nat} (hm : c.fn f = some x) (hk : c.kind x = some .globalImplicit) {p : Pos} (hd : dbg x = false) {P : Value → Shared → Prop} (h : ∀ a, C.fa f = some a → P (.ref a) s) :
    wpAny (mod C) A (eval (.Name x p) F.env) P E s := by
  obtain ⟨mg, mb, h1, h2, h3, _, _⟩ := cx.glob
  obtain ⟨a, e1, e2⟩ := h3 f x hm
  exact Calls.Name_function_global cx.fm.kind ((cx.kind x).trans hk) (Calls.loadGlobal_global (ns_base R.hp h1) e2 (h a e1)) hd
theorem load_gl (cx : CxOk C c F n) (R : Rel C F ρ m s) {x : Str} {g : Nat} {v : MV} (hm : c.gl g = some (x, v)) (hk : c.kind x = some .globalImplicit) {p : Pos} (hd : dbg x = false) (hq : Q v m) :
    wpAny (mod C) A (eval (.Name x p) F.env) (Out C F ρ s Q) E s := by
  obtain ⟨mg, mb, h1, h2, _, h3, _⟩ := cx.glob
  obtain ⟨w, e1, e2⟩ := h3 g x v hm
  exact Calls.Name_function_global cx.fm.kind ((cx.kind x).trans hk) (Calls.loadGlobal_global (ns_base R.hp h1) e1 (outSame R (e2 ρ s.heap R.hp.base) hq)) hd

/-- a name is set -/
theorem store_var (cx : CxOk C c F n) (R : Rel C F ρ m s) {i : Nat} {x : Str} (hx : c.nm i = some x) (hk : c.kind x ≠ some .free) {v : MV} {w : Value} (hr : Rep C ρ s.heap v w) {P : Unit → Shared → Prop}
    (h : ∀ s', Step F.W ρ s ρ s' → Rel C F ρ (m.set i v) s' → P () s') : wpAny (mod C) A (storeName F.env x w) P E s := by
  rcases cx.nm i x hx with ⟨k, e⟩ | ⟨a, k, e1, e⟩
  · obtain ⟨f, hf⟩ := R.ns
    refine wpAny_storeName_local k hf (fun h' hn hs => ?_) (by rw [cx.fm.kind]; rfl)
    obtain ⟨R', st⟩ := R.setName (s' := { s with heap := h', toks := s.toks + 1 }) cx.fm e hf hn hs rfl rfl hr
    exact h _ st R'
  · rcases k with k | ⟨k, _⟩
    · obtain ⟨v₀, hc⟩ := R.cells i a e
      refine wpAny_storeName_cell cx.fm.kind k e1 hc fun h' hn hs => ?_
      obtain ⟨R', st⟩ := R.setCell (s' := { s with heap := h' }) cx.fm e hc hn hs rfl rfl hr
      exact h _ st R'
    · rw [cx.kind x] at k; exact absurd k hk

/-- a method's call, behind the evaluation of its object and arguments -/
noncomputable def meIs : Me → Option Str
  | .append => some "append"
  | .find => some "find"
  | _ => none

/-- a method found on its object, the arguments not evaluated yet -/
theorem mth_ok (G : GOk C) (ok : FmOk F) {k : Me} {x : MV} {v : Value} {name : Str} (hn : meIs k = some name) {ρ₀ : List Addr} {s₀ : Shared} (st₀ : Step F.W ρ₀ s₀ ρ s) (R : Rel C F ρ m s) (hx : Rep C ρ s.heap x v) (hm : mthOk k x m.heap = true) {trees : List (Bool × Sem Value)} {pos : Pos}
    (hp : trees.any (·.1) = false) (hne : trees ≠ [])
    (h : wpAny (mod C) F.A (spliced trees) (fun vs s₁ => ∃ ρ₁ m₁ xs, Step F.W ρ s ρ₁ s₁ ∧ Rel C F ρ₁ m₁ s₁ ∧ RepL C ρ₁ s₁.heap xs vs ∧ wpMth k x xs Q m₁) E s) :
    MethodOn C.prog C.w F.A name pos v trees (Out C F ρ₀ s₀ Q) E s := by
  obtain ⟨⟨b, t⟩, trees, rfl⟩ := List.exists_cons_of_ne_nil hne
  simp only [List.any_cons, Bool.or_eq_false_iff] at hp
  obtain ⟨rfl, hp⟩ := hp
  unfold mthOk at hm
  split at hm
  · split at hm
    · rename_i r ys hi
      cases hn
      cases hx with | ref g =>
      obtain ⟨items, c, gi, l, z⟩ := R.hp.objs _ _ _ hi g
      refine ⟨"list", "list.append", PySem.F.plainAttrs_list, slot_list_append, rfl, ⟨_, gi, rfl⟩, fun a e => by cases e; exact ⟨_, gi, rfl⟩, ?_⟩
      refine Calls.callWith_builtin (by simp [hp]) (Calls.evalArgs_plain (wpAny_mono h (fun vs s₁ h₁ => ?_) fun _ _ e => e))
      obtain ⟨ρ₁, m₁, xs, st, R₁, rl, hw⟩ := h₁
      cases rl with
      | nil => exact (show False from hw).elim
      | @cons w v' _ _ ra rn =>
        cases rn with
        | cons _ _ => exact (show False from hw).elim
        | nil =>
          simp only [wpMth] at hw
          split at hw
          · rename_i ys' hi'
            have g' := pre_get st.pre g
            obtain ⟨items', c', gi', l', z'⟩ := R₁.hp.objs _ _ _ hi' g'
            refine PySem.wpAny_list_append_plain ⟨_, gi'⟩ (fun h' hl hs => ?_) (by rw [List.size_toArray, l'.length]; exact z')
            obtain ⟨n, hl⟩ := hl
            have hk : ∀ b ob, b ≠ _ → s₁.heap.get? b = some ob → h'.get? b = some ob := fun b ob q e => (hs.2 b q).trans e
            have hsol : Solids s₁.heap h' := solids_but hk (repO_not_solid (R₁.hp.objs _ _ _ hi' g'))
            obtain ⟨R₂, st₂⟩ := R₁.put (s' := { s₁ with heap := h' }) ok g' hi' (o := .list (ys' ++ [w])) hk rfl rfl
              ⟨items' ++ [v'], n, by rw [hl]; simp, (l'.append (.cons ra .nil)).up hsol (List.prefix_refl _), by rw [List.length_append]; exact hw.1⟩
            exact ⟨_, _, .none, st₀.trans (st.trans st₂), R₂, .none, hw.2⟩
          · exact hw.elim
    · cases hm
  · cases hn
    cases hx with | str sx t z =>
    refine ⟨"str", "str.find", PySem.F.plainAttrs_str, PySem.F.slot_str_find, PySem.F.type_str_find, typeIs_str _ _ _, (fun a e => nomatch e), ?_⟩
    refine Calls.callWith_builtin (by simp [hp]) (Calls.evalArgs_plain (wpAny_mono h (fun vs s₁ h₁ => ?_) fun _ _ e => e))
    obtain ⟨ρ₁, m₁, xs, st, R₁, rl, hw⟩ := h₁
    unfold wpMth at hw
    split at hw
    · rename_i e; cases e
    · cases rl with | cons ra rn => cases rn; cases ra with | str _ u zu =>
      refine PySem.SC.find ?_
      obtain ⟨R₂, st₂⟩ := R₁.tok ok (s₁.toks + 1)
      refine ⟨_, _, _, st₀.trans (st.trans st₂), R₂, .int _ _, hw _ ?_⟩
      unfold Txt.find
      split <;> omega
    · exact hw.elim
  · cases hm
end
end Mine
end
section
set_option autoImplicit false
set_option linter.unusedVariables false
namespace Mine
open PySem PyProof.Rows

noncomputable def chkC : MV → Const → Bool
  | .none, .none => true
  | .bool b, .bool c => b == c
  | .int i, .int j => i == j
  | .str s, .str x => x.cps.toList == s && decide (s.length ≤ 1000)
  | _, _ => false

noncomputable def glName (c : Cx) (x : Str) : Bool := c.kind x == some .globalImplicit && !dbg x

noncomputable def xConst : Expr → Option Const
  | .Constant k _ _ => some k
  | _ => none
noncomputable def xName : Expr → Option Str
  | .Name x _ => some x
  | _ => none
noncomputable def xBin : Expr → Option (Expr × Operator × Expr)
  | .BinOp l o r _ => some (l, o, r)
  | _ => none
noncomputable def xUn : Expr → Option (UnaryOp × Expr)
  | .UnaryOp o x _ => some (o, x)
  | _ => none
noncomputable def xBool : Expr → Option (BoolOp × List Expr)
  | .BoolOp o xs _ => some (o, xs)
  | _ => none
noncomputable def xCmp : Expr → Option (Expr × List CmpOp × List Expr)
  | .Compare l os rs _ => some (l, os, rs)
  | _ => none
noncomputable def xCall : Expr → Option (Expr × List Expr × List Keyword × Pos)
  | .Call f xs ks p => some (f, xs, ks, p)
  | _ => none
noncomputable def xAttr : Expr → Option (Expr × Str × Pos)
  | .Attribute v n p => some (v, n, p)
  | _ => none
noncomputable def xSub : Expr → Option (Expr × Expr)
  | .Subscript v i _ => some (v, i)
  | _ => none
noncomputable def xSlice : Expr → Option (Option Expr × Option Expr × Option Expr)
  | .Slice l u st _ => some (l, u, st)
  | _ => none
noncomputable def xList : Expr → Option (List Expr)
  | .List xs _ => some xs
  | _ => none
noncomputable def xTup : Expr → Option (List Expr)
  | .Tuple xs _ _ => some xs
  | _ => none
noncomputable def xDict : Expr → Option (List (Option Expr) × List Expr)
  | .Dict ks vs _ => some (ks, vs)
  | _ => none
section
variable {e : Expr}
theorem xConst_eq {k : Const} (h : xConst e = some k) : ∃ a b, e = .Constant k a b := by cases e <;> first | (cases h; exact ⟨_, _, rfl⟩) | cases h
theorem xName_eq {x : Str} (h : xName e = some x) : ∃ p, e = .Name x p := by cases e <;> first | (cases h; exact ⟨_, rfl⟩) | cases h
theorem xBin_eq {l r : Expr} {o : Operator} (h : xBin e = some (l, o, r)) : ∃ p, e = .BinOp l o r p := by cases e <;> first | (cases h; exact ⟨_, rfl⟩) | cases h
theorem xUn_eq {o : UnaryOp} {x : Expr} (h : xUn e = some (o, x)) : ∃ p, e = .UnaryOp o x p := by cases e <;> first | (cases h; exact ⟨_, rfl⟩) | cases h
theorem xBool_eq {o : BoolOp} {xs : List Expr} (h : xBool e = some (o, xs)) : ∃ p, e = .BoolOp o xs p := by cases e <;> first | (cases h; exact ⟨_, rfl⟩) | cases h
theorem xCmp_eq {l : Expr} {os : List CmpOp} {rs : List Expr} (h : xCmp e = some (l, os, rs)) : ∃ p, e = .Compare l os rs p := by cases e <;> first | (cases h; exact ⟨_, rfl⟩) | cases h
theorem xCall_eq {f : Expr} {xs : List Expr} {ks : List Keyword} {p : Pos} (h : xCall e = some (f, xs, ks, p)) : e = .Call f xs ks p := by cases e <;> first | (cases h; rfl) | cases h
theorem xAttr_eq {v : Expr} {n : Str} {p : Pos} (h : xAttr e = some (v, n, p)) : e = .Attribute v n p := by cases e <;> first | (cases h; rfl) | cases h
theorem xSub_eq {v i : Expr} (h : xSub e = some (v, i)) : ∃ p, e = .Subscript v i p := by cases e <;> first | (cases h; exact ⟨_, rfl⟩) | cases h
theorem xSlice_eq {l u st : Option Expr} (h : xSlice e = some (l, u, st)) : ∃ p, e = .Slice l u st p := by cases e <;> first | (cases h; exact ⟨_, rfl⟩) | cases h
theorem xList_eq {xs : List Expr} (h : xList e = some xs) : ∃ p, e = .List xs p := by cases e <;> first | (cases h; exact ⟨_, rfl⟩) | cases h
theorem xTup_eq {xs : List Expr} (h : xTup e = some xs) : ∃ k p, e = .Tuple xs k p := by cases e <;> first | (cases h; exact ⟨_, _, rfl⟩) | cases h
theorem xDict_eq {ks : List (Option Expr)} {vs : List Expr} (h : xDict e = some (ks, vs)) : ∃ p, e = .Dict ks vs p := by cases e <;> first | (cases h; exact ⟨_, rfl⟩) | cases h
end

noncomputable def tyName (c : Cx) (t : TS) (e : Expr) : Bool := match xName e, tsIs t with
  | some x, some T => x == Str.ofString T && c.kind x == some .globalImplicit && !dbg x
  | _, _ => false

mutual
noncomputable def chkE (c : Cx) : ME → Expr → Bool
  | .cst v, e => match xConst e with
    | some k => chkC v k
    | none => false
  | .var i, e => match xName e with
    | some x => c.nm i == some x && !dbg x
    | none => false
  | .glob g v, e => match xName e with
    | some x => glName c x && (match c.gl g, v with
      | some (y, .int i), .int j => y == x && i == j
      | _, _ => false)
    | none => false
  | .bin op a b, e => match xBin e with
    | some (l, o, r) => o == opIs op && chkE c a l && chkE c b r
    | none => false
  | .neg a, e => match xUn e with
    | some (o, x) => o == .USub && chkE c a x
    | none => false
  | .not a, e => match xUn e with
    | some (o, x) => o == .Not && chkE c a x
    | none => false
  | .and es, e => match xBool e with
    | some (o, xs) => o == .And && chkEs c es xs
    | none => false
  | .or es, e => match xBool e with
    | some (o, xs) => o == .Or && chkEs c es xs
    | none => false
  | .cmp op a b, e => match xCmp e with
    | some (l, [o], [r]) => o == cmpIs op && okX r && chkE c a l && chkE c b r
    | _ => false
  | .cmp2 _ _ _ _ _, _ => false
  | .isN p a, e => match xCmp e with
    | some (l, [o], [r]) => o == (if p then .Is else .IsNot) && xConst r == some .none && chkE c a l
    | _ => false
  | .call f args, e => match xCall e with
    | some (g, y :: ys, [], _) => (match xName g with
      | some x => glName c x && c.fn f == some x && chkEs c args (y :: ys)
      | none => false)
    | _ => false
  | .blt b args, e => match xCall e with
    | some (g, y :: ys, [], _) => (match xName g with
      | some x => glName c x && (match biIs b with
        | some (z, _) => x == z
        | none => false) && chkEs c args (y :: ys)
      | none => false)
    | _ => false
  | .mth k o args, e => match xCall e with
    | some (g, y :: ys, [], pos) => (match xAttr g with
      | some (ov, name, apos) => meIs k == some name && notCall0 ov && (apos.endLine == pos.line) && decide (ys.length < 20) && chkE c o ov && chkEs c args (y :: ys)
      | none => false)
    | _ => false
  | .umth _ _ _, _ => false
  | .new _ _ _, _ => false
  | .attr _ _, _ => false
  | .idx o i, e => match xSub e with
    | some (v, sl) => okX sl && chkE c o v && chkE c i sl
    | none => false
  | .sl o lo hi, e => match xSub e with
    | some (v, sl) => (match xSlice sl with
      | some (l, u, none) => chkE c o v && chkO c lo l && chkO c hi u
      | _ => false)
    | none => false
  | .list es, e => match xList e with
    | some xs => decide (es.length ≤ 1000) && chkEs c es xs
    | none => false
  | .tup es, e => match xTup e with
    | some xs => decide (es.length ≤ 1000) && chkEs c es xs
    | none => false
  | .dict0, e => match xDict e with
    | some ([], []) => true
    | _ => false
  | .comp _ _ _ _ _ _, _ => false
  | .isi a ts, e => match xCall e with
    | some (g, [v, t], [], _) => (match xName g with
      | some x => glName c x && x == ("isinstance" : Str) && okX v && chkE c a v && (match ts with
        | [t'] => tyName c t' t
        | _ => false)
      | none => false)
    | _ => false
noncomputable def chkEs (c : Cx) : List ME → List Expr → Bool
  | [], xs => xs.isEmpty
  | e :: es, xs => match xs with
    | [] => false
    | x :: xs => okX x && chkE c e x && chkEs c es xs
noncomputable def chkO (c : Cx) : Option ME → Option Expr → Bool
  | none, x => x.isNone
  | some e, x => match x with
    | some x => chkE c e x
    | none => false
end

/-- what a call means -/
noncomputable def Call (C : Glo) : KT := fun n f vs Q X h => ∀ (F : Fm) (m : MS) (s : Shared) (ρ : List Addr) (ws : List Value) (a : Addr), FmOk F → m.heap = h → Rel C F ρ m s → RepL C ρ s.heap vs ws →
  F.A.depth + n ≤ 999 → F.A.units ≤ 3 * F.A.depth + 4 → C.fa f = some a →
    wpAny (mod C) F.A (call (.ref a) ws) (Out C F ρ s (fun v m' => m'.vars = m.vars ∧ Q v m'.heap)) (Er C F (fun c m' => X c m'.heap) ρ s) s

section
variable {C : Glo} {F : Fm} {X : XM} {ρ ρ₀ : List Addr} {m : MS} {s s₀ : Shared} {Q : PQ} {E : Value → Shared → Prop} {A : Around} {c : Cx} {n : Nat}

theorem WPv.go {t : Sem Value} {P : Value → Shared → Prop} (h : WPv C F X t Q m) (R : Rel C F ρ m s) (st₀ : Step F.W ρ₀ s₀ ρ s)
    (k : ∀ ρ₁ s₁ m₁ x v, Step F.W ρ s ρ₁ s₁ → Step F.W ρ₀ s₀ ρ₁ s₁ → Rel C F ρ₁ m₁ s₁ → Rep C ρ₁ s₁.heap x v → Q x m₁ → P v s₁) : wpAny (mod C) F.A t P (Er C F X ρ₀ s₀) s :=
  wpAny_mono (h s ρ R) (fun v s₁ ⟨ρ₁, m₁, x, a, b, c, d⟩ => k ρ₁ s₁ m₁ x v a (st₀.trans a) b c d) (Er.back st₀)

noncomputable def OutL (C : Glo) (F : Fm) (k : Nat) (ρ : List Addr) (s : Shared) (Q : List MV → MS → Prop) : List Value → Shared → Prop :=
  fun vs s' => ∃ ρ' m' xs, Step F.W ρ s ρ' s' ∧ Rel C F ρ' m' s' ∧ RepL C ρ' s'.heap xs vs ∧ xs.length = k ∧ Q xs m'
noncomputable def WPl (C : Glo) (F : Fm) (X : XM) (k : Nat) (t : Sem (List Value)) (Q : List MV → MS → Prop) (m : MS) : Prop :=
  ∀ s ρ, Rel C F ρ m s → wpAny (mod C) F.A t (OutL C F k ρ s Q) (Er C F X ρ s) s
theorem WPl.go {t : Sem (List Value)} {P : List Value → Shared → Prop} {Q : List MV → MS → Prop} {l : Nat} (h : WPl C F X l t Q m) (R : Rel C F ρ m s) (st₀ : Step F.W ρ₀ s₀ ρ s)
    (k : ∀ ρ₁ s₁ m₁ xs vs, Step F.W ρ s ρ₁ s₁ → Step F.W ρ₀ s₀ ρ₁ s₁ → Rel C F ρ₁ m₁ s₁ → RepL C ρ₁ s₁.heap xs vs → xs.length = l → Q xs m₁ → P vs s₁) : wpAny (mod C) F.A t P (Er C F X ρ₀ s₀) s :=
  wpAny_mono (h s ρ R) (fun v s₁ ⟨ρ₁, m₁, x, a, b, c, e, d⟩ => k ρ₁ s₁ m₁ x v a (st₀.trans a) b c e d) (Er.back st₀)

noncomputable def OutT (C : Glo) (F : Fm) (ρ : List Addr) (s : Shared) (Q : Bool → MS → Prop) : Bool → Shared → Prop :=
  fun b s' => ∃ ρ' m', Step F.W ρ s ρ' s' ∧ Rel C F ρ' m' s' ∧ Q b m'
noncomputable def WPt (C : Glo) (F : Fm) (X : XM) (t : Sem Bool) (Q : Bool → MS → Prop) (m : MS) : Prop :=
  ∀ s ρ, Rel C F ρ m s → wpAny (mod C) F.A t (OutT C F ρ s Q) (Er C F X ρ s) s
theorem WPt.go {t : Sem Bool} {P : Bool → Shared → Prop} {Q : Bool → MS → Prop} (h : WPt C F X t Q m) (R : Rel C F ρ m s) (st₀ : Step F.W ρ₀ s₀ ρ s)
    (k : ∀ ρ₁ s₁ m₁ b, Step F.W ρ s ρ₁ s₁ → Step F.W ρ₀ s₀ ρ₁ s₁ → Rel C F ρ₁ m₁ s₁ → Q b m₁ → P b s₁) : wpAny (mod C) F.A t P (Er C F X ρ₀ s₀) s :=
  wpAny_mono (h s ρ R) (fun v s₁ ⟨ρ₁, m₁, a, b, d⟩ => k ρ₁ s₁ m₁ v a (st₀.trans a) b d) (Er.back st₀)

theorem outOfB (R : Rel C F ρ m s) (ok : FmOk F) {P : Bool → MS → Prop} {v : Value} {s' : Shared} (h : OutB s (fun b => P b m) v s') : ∃ b, v = .bool b ∧ ∃ m', Step F.W ρ s ρ s' ∧ Rel C F ρ m' s' ∧ P b m' := by
  obtain ⟨b, t, rfl, rfl, h⟩ := h
  obtain ⟨R', st⟩ := R.tok ok t
  exact ⟨b, rfl, m, st, R', h⟩

theorem const_ok (R : Rel C F ρ m s) (ok : FmOk F) {v : MV} {k : Const} (hc : chkC v k = true) (hq : Q v m) {env : Env} {kd : Nat} {p : Pos} : wpAny (mod C) A (eval (.Constant k kd p) env) (Out C F ρ s Q) E s := by
  unfold chkC at hc
  split at hc
  · exact wpAny_Constant_none (outSame R .none hq)
  · simp at hc; subst hc; exact wpAny_Constant_bool (outSame R (.bool _) hq)
  · simp at hc; subst hc; exact wpAny_Constant_int (outTok R ok (.int _ _) hq)
  · rename_i s' x
    simp only [Bool.and_eq_true, beq_iff_eq, decide_eq_true_eq] at hc
    obtain ⟨e, hl⟩ := hc
    have : x = str s' := by subst e; simp
    subst this
    exact wpAny_Constant_str (outTok R ok (.str _ _ (by unfold line; omega)) hq)
  · cases hc

theorem bi_mem {b : Bi} {x : Str} {f : Value} (h : biIs b = some (x, f)) : (x, f) ∈ bltNames := by
  cases b <;> cases h <;> simp [bltNames]
theorem ts_mem {t : TS} {T : String} (h : tsIs t = some T) : (Str.ofString T, Value.type T) ∈ bltNames := by
  cases t <;> cases h <;> simp [bltNames] <;> decide

theorem glName_ok {x : Str} (h : glName c x = true) : c.kind x = some .globalImplicit ∧ dbg x = false := by
  simp only [glName, Bool.and_eq_true, beq_iff_eq, Bool.not_eq_true'] at h; exact h

theorem bi_fun {b : Bi} {x : Str} {f : Value} (h : biIs b = some (x, f)) : (∃ id, f = .builtin id) ∨ ∃ T, f = .type T := by
  cases b <;> cases h <;> first | exact .inl ⟨_, rfl⟩ | exact .inr ⟨_, rfl⟩

theorem trees_plain {es : List ME} {xs : List Expr} (h : chkEs c es xs = true) (pos : Pos) (env : Env) : (backTo pos (starEach xs env)).any (·.1) = false := by
  induction es generalizing xs with
  | nil => cases xs with
    | nil => rfl
    | cons => simp [chkEs] at h
  | cons e es ih =>
    cases xs with
    | nil => simp [chkEs] at h
    | cons x xs =>
      simp only [chkEs, Bool.and_eq_true] at h
      rw [okX_star h.1.1]
      show (false || (backTo pos (starEach xs env)).any (·.1)) = false
      rw [ih h.2]; rfl
end
end Mine
end
section
set_option autoImplicit false
set_option linter.unusedVariables false
namespace Mine
open PySem PyProof.Rows

section
variable {C : Glo} {F : Fm} {X : XM} {c : Cx} {n : Nat}

theorem call_args {f : Value} {trees : List (Bool × Sem Value)} {pos : Pos} {s : Shared} {A : Around} {E : Value → Shared → Prop} {P : Value → Shared → Prop} (hf : (∃ id, f = .builtin id) ∨ ∃ T, f = .type T) (hp : trees.any (·.1) = false) (hne : trees ≠ [])
    (h : wpAny (mod C) A (spliced trees) (fun vs s₁ => wpAny (mod C) A (call f vs) P E s₁) E s) : wpAny (mod C) A (callWith pos f [] trees []) P E s := by
  obtain ⟨⟨b, t⟩, trees, rfl⟩ := List.exists_cons_of_ne_nil hne
  simp only [List.any_cons, Bool.or_eq_false_iff] at hp
  obtain ⟨rfl, hp⟩ := hp
  rcases hf with ⟨id, rfl⟩ | ⟨T, rfl⟩
  · exact Calls.callWith_builtin (by simp [hp]) (Calls.evalArgs_plain h)
  · exact PyProof.Rows.callWith_type (by simp [hp]) (Calls.evalArgs_plain h)

theorem cameBool {v : Value} {s : Shared} {A : Around} {E : Value → Shared → Prop} {P : Bool → Shared → Prop} (h : ∃ b, v = .bool b ∧ P b s) : wpAny (mod C) A (truthy v) P E s := by
  obtain ⟨b, rfl, h⟩ := h; exact wpAny_truthy_bool h

mutual
theorem soundE (G : GOk C) (cx : CxOk C c F n) : ∀ (me : ME) (e : Expr), chkE c me e = true → ∀ (Q : PQ) (m : MS), wpE (Call C) n me Q X m → WPv C F X (eval e F.env) Q m
  | .cst v, e, hc, Q, m, h => by
    unfold wpE at h
    unfold chkE at hc
    split at hc
    · rename_i k hx
      obtain ⟨_, _, rfl⟩ := xConst_eq hx
      intro s ρ R; exact const_ok R cx.fm hc h
    · cases hc
  | .var i, e, hc, Q, m, h => by
    unfold wpE at h
    unfold chkE at hc
    split at hc
    · rename_i x hx
      obtain ⟨_, rfl⟩ := xName_eq hx
      simp only [Bool.and_eq_true, beq_iff_eq, Bool.not_eq_true'] at hc
      split at h
      · intro s ρ R; exact load_var cx R hc.1 (by assumption) hc.2 h
      · exact h.elim
    · cases hc
  | .glob g v, e, hc, Q, m, h => by
    unfold wpE at h
    unfold chkE at hc
    split at hc
    · rename_i x hx
      obtain ⟨_, rfl⟩ := xName_eq hx
      simp only [Bool.and_eq_true] at hc
      obtain ⟨h1, h2⟩ := hc
      split at h2
      · rename_i hg
        simp only [Bool.and_eq_true, beq_iff_eq] at h2
        obtain ⟨rfl, rfl⟩ := h2
        intro s ρ R; exact load_gl cx R hg (glName_ok h1).1 (glName_ok h1).2 h
      · cases h2
    · cases hc
  | .bin op a b, e, hc, Q, m, h => by
    unfold wpE at h
    unfold chkE at hc
    split at hc
    · rename_i l o r hx
      obtain ⟨p, rfl⟩ := xBin_eq hx
      simp only [Bool.and_eq_true, beq_iff_eq] at hc
      obtain ⟨⟨rfl, ha⟩, hb⟩ := hc
      intro s ρ R
      refine wpAny_BinOp ((soundE G cx a l ha _ m h).go R (.refl _ _ _) fun ρ₁ s₁ m₁ x v st t1 R₁ rx h₁ => ?_)
      refine (soundE G cx b r hb _ m₁ h₁).go R₁ t1 fun ρ₂ s₂ m₂ y w st' t2 R₂ ry h₂ => ?_
      exact wpAny_mono (bin_ok R₂ cx.fm (rx.step st') ry h₂) (Out.back t2) fun _ _ x => x
    · cases hc
  | .neg a, e, hc, Q, m, h => by
    unfold wpE at h
    unfold chkE at hc
    split at hc
    · rename_i o x hx
      obtain ⟨p, rfl⟩ := xUn_eq hx
      simp only [Bool.and_eq_true, beq_iff_eq] at hc
      obtain ⟨rfl, hc⟩ := hc
      intro s ρ R
      refine wpAny_UnaryOp ((soundE G cx a _ hc _ m h).go R (.refl _ _ _) fun ρ₁ s₁ m₁ x v st t1 R₁ rx h₁ => ?_)
      split at h₁
      · cases rx; exact PyProof.Rows.neg_int (Out.back t1 _ _ (outTok R₁ cx.fm (.int _ _) h₁))
      · exact h₁.elim
    · cases hc
  | .not a, e, hc, Q, m, h => by
    unfold wpE at h
    unfold chkE at hc
    split at hc
    · rename_i o x hx
      obtain ⟨p, rfl⟩ := xUn_eq hx
      simp only [Bool.and_eq_true, beq_iff_eq] at hc
      obtain ⟨rfl, hc⟩ := hc
      intro s ρ R
      refine wpAny_UnaryOp ((soundE G cx a _ hc _ m h).go R (.refl _ _ _) fun ρ₁ s₁ m₁ x v st t1 R₁ rx h₁ => ?_)
      unfold ofBool at h₁
      split at h₁
      · cases rx; exact not_value (wpAny_truthy_bool (Out.back t1 _ _ (outSame R₁ (.bool _) h₁)))
      · exact h₁.elim
    · cases hc
  | .and es, e, hc, Q, m, h => by
    unfold wpE at h
    unfold chkE at hc
    split at hc
    · rename_i o xs hx
      obtain ⟨p, rfl⟩ := xBool_eq hx
      simp only [Bool.and_eq_true, beq_iff_eq] at hc
      obtain ⟨rfl, hc⟩ := hc
      exact soundAnd G cx es _ hc Q m h _
    · cases hc
  | .or es, e, hc, Q, m, h => by
    unfold wpE at h
    unfold chkE at hc
    split at hc
    · rename_i o xs hx
      obtain ⟨p, rfl⟩ := xBool_eq hx
      simp only [Bool.and_eq_true, beq_iff_eq] at hc
      obtain ⟨rfl, hc⟩ := hc
      exact soundOr G cx es _ hc Q m h _
    · cases hc
  | .cmp op a b, e, hc, Q, m, h => by
    unfold wpE at h
    unfold chkE at hc
    split at hc
    · rename_i l o r hxx
      obtain ⟨p, rfl⟩ := xCmp_eq hxx
      simp only [Bool.and_eq_true, beq_iff_eq] at hc
      obtain ⟨⟨⟨rfl, hx⟩, ha⟩, hb⟩ := hc
      intro s ρ R
      refine wpAny_Compare1 ((soundE G cx a l ha _ m h).go R (.refl _ _ _) fun ρ₁ s₁ m₁ x v st t1 R₁ rx h₁ => ?_) (okX_marks hx _)
      refine (soundE G cx b r hb _ m₁ h₁).go R₁ t1 fun ρ₂ s₂ m₂ y w st' t2 R₂ ry h₂ => ?_
      refine wpAny_mono (cmp_ok G R₂.hp (rx.step st') ry cx.u h₂) (fun v s' hv => ?_) fun _ _ x => x
      obtain ⟨b, rfl, m', st3, R', hq⟩ := outOfB R₂ cx.fm hv
      exact Out.back t2 _ _ ⟨_, _, _, st3, R', .bool b, hq⟩
    · cases hc
  | .cmp2 _ _ _ _ _, e, hc, Q, m, h => by unfold chkE at hc; cases hc
  | .isN p a, e, hc, Q, m, h => by
    unfold wpE at h
    unfold chkE at hc
    split at hc
    · rename_i l o r hxx
      obtain ⟨p2, rfl⟩ := xCmp_eq hxx
      simp only [Bool.and_eq_true, beq_iff_eq] at hc
      obtain ⟨⟨ho, hr⟩, ha⟩ := hc
      obtain ⟨_, _, rfl⟩ := xConst_eq hr
      intro s ρ R
      refine wpAny_Compare1 ((soundE G cx a l ha _ m h).go R (.refl _ _ _) fun ρ₁ s₁ m₁ x v st t1 R₁ rx h₁ => wpAny_Constant_none ?_) rfl
      have hv : (v == Value.none) = (match x with | .none => true | _ => false) := by cases rx <;> rfl
      have hq : Q (.bool (if p then (v == Value.none) else !(v == Value.none))) m₁ := by
        rw [hv]; cases x <;> cases p <;> exact h₁
      cases p with
      | true => subst ho; exact is_none (Out.back t1 _ _ (outSame R₁ (.bool _) hq))
      | false => subst ho; exact isNot_none (Out.back t1 _ _ (outSame R₁ (.bool _) hq))
    · cases hc
  | .call f args, e, hc, Q, m, h => by
    unfold wpE at h
    unfold chkE at hc
    split at hc
    · rename_i g y ys pos hxx
      have ee := xCall_eq hxx
      subst ee
      split at hc
      rotate_left
      · cases hc
      rename_i x hx
      obtain ⟨px, rfl⟩ := xName_eq hx
      simp only [Bool.and_eq_true, beq_iff_eq] at hc
      obtain ⟨⟨hg, hf⟩, ha⟩ := hc
      intro s ρ R
      refine PyProof.Rows.Call_Name rfl (load_fn cx R hf (glName_ok hg).1 (glName_ok hg).2 fun a hfa => ?_)
      have hs : okX y = true := by
        cases args with
        | nil => simp [chkEs] at ha
        | cons => simp only [chkEs, Bool.and_eq_true] at ha; exact ha.1.1
      have ha' := soundEs G cx args (y :: ys) ha _ m h pos
      rw [okX_star hs] at ha' ⊢
      obtain ⟨o, fd, ho, hd⟩ := G.fns f a hfa
      refine Calls.callWith_function (o := o) (fd := fd) (Calls.evalArgs_plain (ha'.go R (.refl _ _ _) fun ρ₁ s₁ m₁ xs vs st t1 R₁ rl el h₁ => ⟨⟨R₁.hp.base _ _ ho, hd⟩, ?_⟩))
      refine wpAny_mono (h₁ F m₁ s₁ ρ₁ vs a cx.fm rfl R₁ rl cx.room cx.units hfa) (fun v s₂ hv => ?_) (Er.back t1)
      obtain ⟨ρ₂, m₂, x, st2, R₂, rx, e, hq⟩ := hv
      refine ⟨ρ₂, m₂, x, t1.trans st2, R₂, rx, ?_⟩
      rw [← e] at hq; exact hq
    · cases hc
  | .blt b args, e, hc, Q, m, h => by
    unfold wpE at h
    unfold chkE at hc
    split at hc
    · rename_i g y ys pos hxx
      have ee := xCall_eq hxx
      subst ee
      split at hc
      rotate_left
      · cases hc
      rename_i x hx
      obtain ⟨px, rfl⟩ := xName_eq hx
      simp only [Bool.and_eq_true] at hc
      obtain ⟨⟨hg, hf⟩, ha⟩ := hc
      split at hf
      · rename_i z f hb
        simp at hf
        subst hf
        intro s ρ R
        refine PyProof.Rows.Call_Name rfl (load_blt cx R (bi_mem hb) (glName_ok hg).1 (glName_ok hg).2 ?_)
        have hs : okX y = true := by
          cases args with
          | nil => simp [chkEs] at ha
          | cons => simp only [chkEs, Bool.and_eq_true] at ha; exact ha.1.1
        refine call_args (bi_fun hb) (trees_plain ha _ _) (by rw [okX_star hs]; simp [backTo]) ?_
        refine (soundEs G cx args (y :: ys) ha _ m h pos).go R (.refl _ _ _) fun ρ₁ s₁ m₁ xs vs st t1 R₁ rl el h₁ => ?_
        exact wpAny_mono (blt_ok G R₁ cx.fm rl hb h₁) (Out.back t1) fun _ _ x => x
      · cases hf
    · cases hc
  | .mth k o args, e, hc, Q, m, h => by
    unfold wpE at h
    unfold chkE at hc
    split at hc
    · rename_i g y ys pos hxx
      have ee := xCall_eq hxx
      subst ee
      split at hc
      rotate_left
      · cases hc
      rename_i ov name apos hx
      have ee := xAttr_eq hx
      subst ee
      simp only [Bool.and_eq_true, beq_iff_eq, decide_eq_true_eq] at hc
      obtain ⟨⟨⟨⟨⟨hn, h0⟩, hl⟩, hz⟩, ho⟩, ha⟩ := hc
      intro s ρ R
      have hs : okX y = true := by
        cases args with
        | nil => simp [chkEs] at ha
        | cons => simp only [chkEs, Bool.and_eq_true] at ha; exact ha.1.1
      have hp := trees_plain ha pos F.env
      refine wpAny_Call_method_late (notCall0_base h0 _ _) ?_ (by simp [hl]) rfl ((soundE G cx o ov ho _ m h).go R (.refl _ _ _) fun ρ₁ s₁ m₁ x v st t1 R₁ rx h₁ => ?_)
      · rw [Bool.and_eq_true, Bool.and_eq_true]
        refine ⟨⟨?_, rfl⟩, ?_⟩
        · rw [List.all_eq_true]; intro q hq
          rw [List.any_eq_false] at hp
          simpa using hp q hq
        · simp; omega
      · split at h₁
        · rename_i hm
          refine mth_ok G cx.fm hn t1 R₁ rx hm hp (by rw [okX_star hs]; simp [backTo]) ?_
          exact (soundEs G cx args (y :: ys) ha _ m₁ h₁ pos).go R₁ t1 fun ρ₂ s₂ m₂ xs vs st2 t2 R₂ rl _ h₂ => ⟨ρ₂, m₂, xs, st2, R₂, rl, h₂⟩
        · exact h₁.elim
    · cases hc
  | .umth _ _ _, e, hc, Q, m, h => by unfold chkE at hc; cases hc
  | .new _ _ _, e, hc, Q, m, h => by unfold chkE at hc; cases hc
  | .attr _ _, e, hc, Q, m, h => by unfold chkE at hc; cases hc
  | .idx o i, e, hc, Q, m, h => by
    unfold wpE at h
    unfold chkE at hc
    split at hc
    · rename_i v sl hxx
      obtain ⟨p, rfl⟩ := xSub_eq hxx
      simp only [Bool.and_eq_true] at hc
      obtain ⟨⟨hx, ho⟩, hi⟩ := hc
      intro s ρ R
      refine PyProof.Rows.Subscript_ ((soundE G cx o v ho _ m h).go R (.refl _ _ _) fun ρ₁ s₁ m₁ x v st t1 R₁ rx h₁ => ?_)
      refine (soundE G cx i sl hi _ m₁ h₁).go R₁ t1 fun ρ₂ s₂ m₂ y w st' t2 R₂ ry h₂ => ?_
      exact wpAny_mono (idx_ok G R₂ cx.fm (rx.step st') ry (okX_slice hx) h₂) (Out.back t2) fun _ _ x => x
    · cases hc
  | .sl o lo hi, e, hc, Q, m, h => by
    unfold wpE at h
    unfold chkE at hc
    split at hc
    · rename_i v sl hxx
      obtain ⟨p2, rfl⟩ := xSub_eq hxx
      split at hc
      rotate_left
      · cases hc
      rename_i l u hx
      obtain ⟨p1, rfl⟩ := xSlice_eq hx
      simp only [Bool.and_eq_true] at hc
      obtain ⟨⟨ho, hlo⟩, hhi⟩ := hc
      intro s ρ R
      refine PyProof.Rows.Subscript_ ((soundE G cx o v ho _ m h).go R (.refl _ _ _) fun ρ₁ s₁ m₁ x v st t1 R₁ rx h₁ => ?_)
      refine wpAny_Slice ?_
      refine (soundO G cx lo l hlo _ m₁ h₁) s₁ ρ₁ R₁ _ _ _ t1 fun ρ₂ s₂ m₂ a va st2 t2 R₂ ra h₂ => ?_
      refine (soundO G cx hi u hhi _ m₂ h₂) s₂ ρ₂ R₂ _ _ _ t2 fun ρ₃ s₃ m₃ b vb st3 t3 R₃ rb h₃ => ?_
      rw [evalPart_none]
      refine wpAny_pure ?_
      have ra' : PartRep C ρ₃ s₃.heap a va := by
        cases a with
        | none => exact ra
        | some a => exact ra.step st3
      exact wpAny_mono (sl_ok R₃ cx.fm ((rx.step st2).step st3) ra' rb h₃) (Out.back t3) fun _ _ x => x
    · cases hc
  | .list es, e, hc, Q, m, h => by
    unfold wpE at h
    unfold chkE at hc
    split at hc
    · rename_i xs hxx
      obtain ⟨p, rfl⟩ := xList_eq hxx
      simp only [Bool.and_eq_true, decide_eq_true_eq] at hc
      intro s ρ R
      refine wpAny_List ((soundEs G cx es xs hc.2 _ m h _).go R (.refl _ _ _) fun ρ₁ s₁ m₁ xs vs st t1 R₁ rl el h₁ => ?_)
      have hz : xs.length ≤ line := by unfold line; omega
      exact ⟨by rw [rl.length]; exact hz, Out.back t1 _ _ (outList R₁ cx.fm rl hz h₁)⟩
    · cases hc
  | .tup es, e, hc, Q, m, h => by
    unfold wpE at h
    unfold chkE at hc
    split at hc
    · rename_i xs hxx
      obtain ⟨k, p, rfl⟩ := xTup_eq hxx
      simp only [Bool.and_eq_true, decide_eq_true_eq] at hc
      intro s ρ R
      refine wpAny_Tuple ((soundEs G cx es xs hc.2 _ m h _).go R (.refl _ _ _) fun ρ₁ s₁ m₁ xs vs st t1 R₁ rl el h₁ => ?_)
      have hz : xs.length ≤ line := by unfold line; omega
      exact ⟨by rw [rl.length]; exact hz, Out.back t1 _ _ (outTup R₁ cx.fm rl hz h₁)⟩
    · cases hc
  | .dict0, e, hc, Q, m, h => by
    unfold wpE at h
    unfold chkE at hc
    split at hc
    · rename_i hxx
      obtain ⟨p, rfl⟩ := xDict_eq hxx
      intro s ρ R
      refine wpAny_Dict_empty ?_
      have hk : ∀ a o, s.heap.get? a = some o → (s.heap.push { cls := .type "dict", data := .dict #[] }).get? a = some o := fun a o e => Heap.get?_push_of_some _ e
      obtain ⟨R', st⟩ := R.alloc (s' := { s with heap := s.heap.push { cls := .type "dict", data := .dict #[] } }) cx.fm hk rfl rfl (o := .dict []) (a := s.heap.objs.size) (fresh_at (Nat.le_refl _))
        ⟨[], Heap.DictOf.new _, .nil, Nat.zero_le _⟩
      exact ⟨_, _, _, st, R', .ref (i := m.heap.length) (by rw [← R.hp.len, List.getElem?_append_right (Nat.le_refl _)]; simp), h⟩
    · cases hc
  | .comp _ _ _ _ _ _, e, hc, Q, m, h => by unfold chkE at hc; cases hc
  | .isi a ts, e, hc, Q, m, h => by
    unfold wpE at h
    unfold chkE at hc
    split at hc
    · rename_i g v t pos hxx
      have ee := xCall_eq hxx
      subst ee
      split at hc
      rotate_left
      · cases hc
      rename_i x hx
      obtain ⟨px, rfl⟩ := xName_eq hx
      simp only [Bool.and_eq_true, beq_iff_eq] at hc
      obtain ⟨⟨⟨⟨hg, rfl⟩, hv⟩, ha⟩, ht⟩ := hc
      split at ht
      · rename_i t'
        unfold tyName at ht
        split at ht
        · rename_i y T hy eT
          obtain ⟨py, rfl⟩ := xName_eq hy
          simp only [Bool.and_eq_true, beq_iff_eq, Bool.not_eq_true'] at ht
          obtain ⟨⟨rfl, hk⟩, hd⟩ := ht
          intro s ρ R
          refine PyProof.Rows.Call_Name rfl (load_blt cx R (v := .builtin "isinstance") (by simp [bltNames]) (glName_ok hg).1 (glName_ok hg).2 ?_)
          refine call_args (.inl ⟨_, rfl⟩) (by rw [okX_star hv]; rfl) (by rw [okX_star hv]; simp [backTo]) ?_
          rw [okX_star hv]
          refine Calls.spliced_cons ((soundE G cx a v ha _ m h).go R (.refl _ _ _) fun ρ₁ s₁ m₁ x v st t1 R₁ rx h₁ => ?_)
          refine Calls.spliced_cons (load_blt cx R₁ (ts_mem eT) hk hd (Calls.spliced_nil ?_))
          simp only at h₁
          split at h₁
          · rename_i b hb
            refine wpAny_mono (isi_ok (P := fun b => Q (.bool b) m₁) R₁.hp rx hb h₁ T eT) (fun v s' hv => ?_) fun _ _ x => x
            obtain ⟨b, rfl, m', st3, R', hq⟩ := outOfB (P := fun b m => Q (.bool b) m) R₁ cx.fm hv
            exact Out.back t1 _ _ ⟨_, _, _, st3, R', .bool b, hq⟩
          · exact h₁.elim
        · cases ht
      · cases ht
    · cases hc
theorem soundEs (G : GOk C) (cx : CxOk C c F n) : ∀ (es : List ME) (xs : List Expr), chkEs c es xs = true → ∀ (Q : List MV → MS → Prop) (m : MS), wpEs (Call C) n es Q X m → ∀ pos, WPl C F X es.length (spliced (backTo pos (starEach xs F.env))) Q m
  | [], xs, hc, Q, m, h, pos => by
    unfold wpEs at h
    unfold chkEs at hc
    cases xs with
    | nil => intro s ρ R; exact wpAny_items_nil ⟨_, _, _, .refl _ _ _, R, .nil, rfl, h⟩
    | cons => cases hc
  | e :: es, xs, hc, Q, m, h, pos => by
    unfold wpEs at h
    unfold chkEs at hc
    split at hc
    · cases hc
    · rename_i x xs
      simp only [Bool.and_eq_true] at hc
      obtain ⟨⟨hx, he⟩, hes⟩ := hc
      intro s ρ R
      refine wpAny_items_cons ((soundE G cx e x he _ m h).go R (.refl _ _ _) fun ρ₁ s₁ m₁ x v st t1 R₁ rx h₁ => ?_) (okX_star hx _ _)
      refine (soundEs G cx es xs hes _ m₁ h₁ pos).go R₁ t1 fun ρ₂ s₂ m₂ ys vs st2 t2 R₂ rl el h₂ => ?_
      exact ⟨_, _, _, t2, R₂, .cons (rx.step st2) rl, by simp [el], h₂⟩
theorem soundO (G : GOk C) (cx : CxOk C c F n) : ∀ (o : Option ME) (x : Option Expr), chkO c o x = true → ∀ (Q : Option MV → MS → Prop) (m : MS), wpO (Call C) n o Q X m → ∀ (s : Shared) (ρ : List Addr), Rel C F ρ m s →
    ∀ (s₀ : Shared) (ρ₀ : List Addr) (P : Value → Shared → Prop), Step F.W ρ₀ s₀ ρ s → (∀ ρ₁ s₁ m₁ x v, Step F.W ρ s ρ₁ s₁ → Step F.W ρ₀ s₀ ρ₁ s₁ → Rel C F ρ₁ m₁ s₁ → PartRep C ρ₁ s₁.heap x v → Q x m₁ → P v s₁) →
      wpAny (mod C) F.A (evalPart x F.env) P (Er C F X ρ₀ s₀) s
  | none, x, hc, Q, m, h, s, ρ, R, s₀, ρ₀, P, st, k => by
    unfold wpO at h
    unfold chkO at hc
    cases x with
    | none => rw [evalPart_none]; exact wpAny_pure (k ρ s m none .none (.refl _ _ _) st R rfl h)
    | some => cases hc
  | some e, x, hc, Q, m, h, s, ρ, R, s₀, ρ₀, P, st, k => by
    unfold wpO at h
    unfold chkO at hc
    split at hc
    · rw [evalPart_some]
      exact (soundE G cx e _ hc _ m h).go R st fun ρ₁ s₁ m₁ x v st1 t1 R₁ rx h₁ => k ρ₁ s₁ m₁ (some x) v st1 t1 R₁ rx h₁
    · cases hc
theorem soundAnd (G : GOk C) (cx : CxOk C c F n) : ∀ (es : List ME) (xs : List Expr), chkEs c es xs = true → ∀ (Q : PQ) (m : MS), wpAnd (Call C) n es Q X m → ∀ pos, WPv C F X (boolOp pos .And (evalEach xs F.env)) Q m
  | [], xs, hc, Q, m, h, pos => by unfold wpAnd at h; exact h.elim
  | [e], xs, hc, Q, m, h, pos => by
    unfold wpAnd at h
    unfold chkEs at hc
    split at hc
    · cases hc
    · rename_i x xs
      simp only [chkEs, Bool.and_eq_true] at hc
      cases xs with
      | nil => exact soundE G cx e x hc.1.2 Q m h
      | cons => cases hc.2
  | e :: e' :: es, xs, hc, Q, m, h, pos => by
    unfold wpAnd at h
    unfold chkEs at hc
    split at hc
    · cases hc
    · rename_i x xs
      rw [Bool.and_eq_true, Bool.and_eq_true] at hc
      cases xs with
      | nil => simp [chkEs] at hc
      | cons x' xs =>
        intro s ρ R
        show wpAny (mod C) F.A (do let v ← eval x F.env; standAt pos; let t ← holding [v] (truthy v); match BoolOp.And, t with | .And, false | .Or, true => pure v | _, _ => boolOp pos .And (evalEach (x' :: xs) F.env)) _ _ s
        refine wpAny_bind ((soundE G cx e x hc.1.2 _ m h).go R (.refl _ _ _) fun ρ₁ s₁ m₁ y v st t1 R₁ rx h₁ => ?_)
        unfold ofBool at h₁
        split at h₁
        · rename_i b
          cases rx
          refine wpAny_bind (wpAny_standAt (wpAny_bind (wpAny_holding (wpAny_truthy_bool ?_))))
          cases b with
          | true => exact wpAny_mono (soundAnd G cx (e' :: es) (x' :: xs) hc.2 Q m₁ h₁ pos s₁ ρ₁ R₁) (Out.back t1) (Er.back t1)
          | false => exact wpAny_pure (Out.back t1 _ _ (outSame R₁ (.bool _) h₁))
        · exact h₁.elim
theorem soundOr (G : GOk C) (cx : CxOk C c F n) : ∀ (es : List ME) (xs : List Expr), chkEs c es xs = true → ∀ (Q : PQ) (m : MS), wpOr (Call C) n es Q X m → ∀ pos, WPv C F X (boolOp pos .Or (evalEach xs F.env)) Q m
  | [], xs, hc, Q, m, h, pos => by unfold wpOr at h; exact h.elim
  | [e], xs, hc, Q, m, h, pos => by
    unfold wpOr at h
    unfold chkEs at hc
    split at hc
    · cases hc
    · rename_i x xs
      simp only [chkEs, Bool.and_eq_true] at hc
      cases xs with
      | nil => exact soundE G cx e x hc.1.2 Q m h
      | cons => cases hc.2
  | e :: e' :: es, xs, hc, Q, m, h, pos => by
    unfold wpOr at h
    unfold chkEs at hc
    split at hc
    · cases hc
    · rename_i x xs
      rw [Bool.and_eq_true, Bool.and_eq_true] at hc
      cases xs with
      | nil => simp [chkEs] at hc
      | cons x' xs =>
        intro s ρ R
        show wpAny (mod C) F.A (do let v ← eval x F.env; standAt pos; let t ← holding [v] (truthy v); match BoolOp.Or, t with | .And, false | .Or, true => pure v | _, _ => boolOp pos .Or (evalEach (x' :: xs) F.env)) _ _ s
        refine wpAny_bind ((soundE G cx e x hc.1.2 _ m h).go R (.refl _ _ _) fun ρ₁ s₁ m₁ y v st t1 R₁ rx h₁ => ?_)
        unfold ofBool at h₁
        split at h₁
        · rename_i b
          cases rx
          refine wpAny_bind (wpAny_standAt (wpAny_bind (wpAny_holding (wpAny_truthy_bool ?_))))
          cases b with
          | false => exact wpAny_mono (soundOr G cx (e' :: es) (x' :: xs) hc.2 Q m₁ h₁ pos s₁ ρ₁ R₁) (Out.back t1) (Er.back t1)
          | true => exact wpAny_pure (Out.back t1 _ _ (outSame R₁ (.bool _) h₁))
        · exact h₁.elim
end
end
end Mine
end
section
set_option autoImplicit false
set_option linter.unusedVariables false
namespace Mine
open PySem PyProof.Rows

noncomputable def plainT : Expr → Bool
  | .UnaryOp .Not _ _ => false
  | .BoolOp .. => false
  | .IfExp .. => false
  | .Compare .. => false
  | _ => true
theorem plainT_isTrue {e : Expr} (h : plainT e = true) (env : Env) (whole : Sem Value) : isTrue e env whole = (do let v ← whole; standAt e.pos; holding [v] (truthy v)) := by
  cases e with
  | UnaryOp op x p => cases op <;> first | rfl | cases h
  | _ => first | rfl | cases h

section
variable {C : Glo} {F : Fm} {X : XM} {c : Cx} {n : Nat}

theorem value_ok (G : GOk C) (cx : CxOk C c F n) (me : ME) (e : Expr) (hc : chkE c me e = true) (hp : plainT e = true) {Q : Bool → MS → Prop} {m : MS} (h : wpE (Call C) n me (ofBool Q) X m) : WPt C F X (isTrue e F.env (eval e F.env)) Q m := by
  intro s ρ R
  refine wpAny_isTrue_value ((soundE G cx me e hc _ m h).go R (.refl _ _ _) fun ρ₁ s₁ m₁ x v st t1 R₁ rx h₁ => ?_) (plainT_isTrue hp _ _)
  unfold ofBool at h₁
  split at h₁
  · cases rx; exact wpAny_truthy_bool ⟨_, _, t1, R₁, h₁⟩
  · exact h₁.elim

mutual
theorem soundC (G : GOk C) (cx : CxOk C c F n) : ∀ (me : ME) (e : Expr), chkE c me e = true → ∀ (Q : Bool → MS → Prop) (m : MS), wpE (Call C) n me (ofBool Q) X m → WPt C F X (isTrue e F.env (eval e F.env)) Q m
  | .not a, e, hc, Q, m, h => by
    unfold wpE at h
    unfold chkE at hc
    split at hc
    · rename_i o x hx
      obtain ⟨p, rfl⟩ := xUn_eq hx
      simp only [Bool.and_eq_true, beq_iff_eq] at hc
      obtain ⟨rfl, hc⟩ := hc
      intro s ρ R
      refine wpAny_isTrue_Not ((soundC G cx a _ hc _ m h).go R (.refl _ _ _) fun ρ₁ s₁ m₁ b st t1 R₁ h₁ => ⟨_, _, t1, R₁, h₁⟩)
    · cases hc
  | .and es, e, hc, Q, m, h => by
    unfold wpE at h
    unfold chkE at hc
    split at hc
    · rename_i o xs hx
      obtain ⟨p, rfl⟩ := xBool_eq hx
      simp only [Bool.and_eq_true, beq_iff_eq] at hc
      obtain ⟨rfl, hc⟩ := hc
      intro s ρ R; exact wpAny_isTrue_BoolOp (soundCAnd G cx es _ hc _ m h s ρ R)
    · cases hc
  | .or es, e, hc, Q, m, h => by
    unfold wpE at h
    unfold chkE at hc
    split at hc
    · rename_i o xs hx
      obtain ⟨p, rfl⟩ := xBool_eq hx
      simp only [Bool.and_eq_true, beq_iff_eq] at hc
      obtain ⟨rfl, hc⟩ := hc
      intro s ρ R; exact wpAny_isTrue_BoolOp (soundCOr G cx es _ hc _ m h s ρ R)
    · cases hc
  | .cmp op a b, e, hc, Q, m, h => by
    unfold wpE at h
    unfold chkE at hc
    split at hc
    · rename_i l o r hxx
      obtain ⟨p, rfl⟩ := xCmp_eq hxx
      simp only [Bool.and_eq_true, beq_iff_eq] at hc
      obtain ⟨⟨⟨rfl, hx⟩, ha⟩, hb⟩ := hc
      intro s ρ R
      refine wpAny_isTrue_Compare1 ((soundE G cx a l ha _ m h).go R (.refl _ _ _) fun ρ₁ s₁ m₁ x v st t1 R₁ rx h₁ => ?_) (okX_marks hx _)
      refine (soundE G cx b r hb _ m₁ h₁).go R₁ t1 fun ρ₂ s₂ m₂ y w st' t2 R₂ ry h₂ => ?_
      refine wpAny_mono (cmp_ok G R₂.hp (rx.step st') ry cx.u h₂) (fun v s' hv => ?_) fun _ _ x => x
      obtain ⟨b, rfl, m', st3, R', hq⟩ := outOfB R₂ cx.fm hv
      exact wpAny_truthy_bool ⟨_, _, t2.trans st3, R', hq⟩
    · cases hc
  | .isN p a, e, hc, Q, m, h => by
    unfold wpE at h
    unfold chkE at hc
    split at hc
    · rename_i l o r hxx
      obtain ⟨p2, rfl⟩ := xCmp_eq hxx
      simp only [Bool.and_eq_true, beq_iff_eq] at hc
      obtain ⟨⟨ho, hr⟩, ha⟩ := hc
      obtain ⟨_, _, rfl⟩ := xConst_eq hr
      intro s ρ R
      refine wpAny_isTrue_Compare1 ((soundE G cx a l ha _ m h).go R (.refl _ _ _) fun ρ₁ s₁ m₁ x v st t1 R₁ rx h₁ => wpAny_Constant_none ?_) rfl
      have hv : (v == Value.none) = (match x with | .none => true | _ => false) := by cases rx <;> rfl
      have hq : Q (if p then (v == Value.none) else !(v == Value.none)) m₁ := by
        rw [hv]; cases x <;> cases p <;> exact h₁
      cases p with
      | true => subst ho; exact is_none (wpAny_truthy_bool ⟨_, _, t1, R₁, hq⟩)
      | false => subst ho; exact isNot_none (wpAny_truthy_bool ⟨_, _, t1, R₁, hq⟩)
    · cases hc
  | .cmp2 _ _ _ _ _, e, hc, Q, m, h => by unfold chkE at hc; cases hc
  | .umth _ _ _, e, hc, Q, m, h => by unfold chkE at hc; cases hc
  | .new _ _ _, e, hc, Q, m, h => by unfold chkE at hc; cases hc
  | .attr _ _, e, hc, Q, m, h => by unfold chkE at hc; cases hc
  | .comp _ _ _ _ _ _, e, hc, Q, m, h => by unfold chkE at hc; cases hc
  | .cst v, e, hc, Q, m, h => by
    exact value_ok G cx _ e hc (by unfold chkE at hc; split at hc <;> first | cases hc | (rename_i hx; obtain ⟨_, _, rfl⟩ := xConst_eq hx; rfl)) h
  | .var i, e, hc, Q, m, h => by
    exact value_ok G cx _ e hc (by unfold chkE at hc; split at hc <;> first | cases hc | (rename_i hx; obtain ⟨_, rfl⟩ := xName_eq hx; rfl)) h
  | .glob g v, e, hc, Q, m, h => by
    exact value_ok G cx _ e hc (by unfold chkE at hc; split at hc <;> first | cases hc | (rename_i hx; obtain ⟨_, rfl⟩ := xName_eq hx; rfl)) h
  | .bin op a b, e, hc, Q, m, h => by
    exact value_ok G cx _ e hc (by unfold chkE at hc; split at hc <;> first | cases hc | (rename_i hx; obtain ⟨_, rfl⟩ := xBin_eq hx; rfl)) h
  | .neg a, e, hc, Q, m, h => by
    refine value_ok G cx _ e hc ?_ h
    unfold chkE at hc
    split at hc
    · rename_i hx
      obtain ⟨p, rfl⟩ := xUn_eq hx
      simp only [Bool.and_eq_true, beq_iff_eq] at hc
      obtain ⟨rfl, _⟩ := hc
      rfl
    · cases hc
  | .call f args, e, hc, Q, m, h => by
    exact value_ok G cx _ e hc (by unfold chkE at hc; split at hc <;> first | cases hc | (rename_i hx; have ee := xCall_eq hx; subst ee; rfl)) h
  | .blt b args, e, hc, Q, m, h => by
    exact value_ok G cx _ e hc (by unfold chkE at hc; split at hc <;> first | cases hc | (rename_i hx; have ee := xCall_eq hx; subst ee; rfl)) h
  | .mth k o args, e, hc, Q, m, h => by
    exact value_ok G cx _ e hc (by unfold chkE at hc; split at hc <;> first | cases hc | (rename_i hx; have ee := xCall_eq hx; subst ee; rfl)) h
  | .idx o i, e, hc, Q, m, h => by
    exact value_ok G cx _ e hc (by unfold chkE at hc; split at hc <;> first | cases hc | (rename_i hx; obtain ⟨_, rfl⟩ := xSub_eq hx; rfl)) h
  | .sl o lo hi, e, hc, Q, m, h => by
    exact value_ok G cx _ e hc (by unfold chkE at hc; split at hc <;> first | cases hc | (rename_i hx; obtain ⟨_, rfl⟩ := xSub_eq hx; rfl)) h
  | .list es, e, hc, Q, m, h => by
    exact value_ok G cx _ e hc (by unfold chkE at hc; split at hc <;> first | cases hc | (rename_i hx; obtain ⟨_, rfl⟩ := xList_eq hx; rfl)) h
  | .tup es, e, hc, Q, m, h => by
    exact value_ok G cx _ e hc (by unfold chkE at hc; split at hc <;> first | cases hc | (rename_i hx; obtain ⟨_, _, rfl⟩ := xTup_eq hx; rfl)) h
  | .dict0, e, hc, Q, m, h => by
    exact value_ok G cx _ e hc (by unfold chkE at hc; split at hc <;> first | (rename_i hx; obtain ⟨_, rfl⟩ := xDict_eq hx; rfl) | cases hc) h
  | .isi a ts, e, hc, Q, m, h => by
    exact value_ok G cx _ e hc (by unfold chkE at hc; split at hc <;> first | cases hc | (rename_i hx; have ee := xCall_eq hx; subst ee; rfl)) h
theorem soundCAnd (G : GOk C) (cx : CxOk C c F n) : ∀ (es : List ME) (xs : List Expr), chkEs c es xs = true → ∀ (Q : Bool → MS → Prop) (m : MS), wpAnd (Call C) n es (ofBool Q) X m → WPt C F X (allTrue .And xs F.env) Q m
  | [], xs, hc, Q, m, h => by unfold wpAnd at h; exact h.elim
  | [e], xs, hc, Q, m, h => by
    unfold wpAnd at h
    unfold chkEs at hc
    split at hc
    · cases hc
    · rename_i x xs
      simp only [chkEs, Bool.and_eq_true] at hc
      cases xs with
      | nil =>
        intro s ρ R
        refine wpAny_allTrue_And_cons ((soundC G cx e x hc.1.2 _ m h).go R (.refl _ _ _) fun ρ₁ s₁ m₁ b st t1 R₁ h₁ => ?_)
        cases b with
        | true => exact wpAny_allTrue_And_nil ⟨_, _, t1, R₁, h₁⟩
        | false => exact ⟨_, _, t1, R₁, h₁⟩
      | cons => cases hc.2
  | e :: e' :: es, xs, hc, Q, m, h => by
    unfold wpAnd at h
    unfold chkEs at hc
    split at hc
    · cases hc
    · rename_i x xs
      rw [Bool.and_eq_true, Bool.and_eq_true] at hc
      intro s ρ R
      refine wpAny_allTrue_And_cons ((soundC G cx e x hc.1.2 _ m h).go R (.refl _ _ _) fun ρ₁ s₁ m₁ b st t1 R₁ h₁ => ?_)
      cases b with
      | true => exact wpAny_mono (soundCAnd G cx (e' :: es) xs hc.2 Q m₁ h₁ s₁ ρ₁ R₁) (fun b s' ⟨ρ', m', a, b', c'⟩ => ⟨ρ', m', t1.trans a, b', c'⟩) (Er.back t1)
      | false => exact ⟨_, _, t1, R₁, h₁⟩
theorem soundCOr (G : GOk C) (cx : CxOk C c F n) : ∀ (es : List ME) (xs : List Expr), chkEs c es xs = true → ∀ (Q : Bool → MS → Prop) (m : MS), wpOr (Call C) n es (ofBool Q) X m → WPt C F X (allTrue .Or xs F.env) Q m
  | [], xs, hc, Q, m, h => by unfold wpOr at h; exact h.elim
  | [e], xs, hc, Q, m, h => by
    unfold wpOr at h
    unfold chkEs at hc
    split at hc
    · cases hc
    · rename_i x xs
      simp only [chkEs, Bool.and_eq_true] at hc
      cases xs with
      | nil =>
        intro s ρ R
        refine wpAny_allTrue_Or_cons ((soundC G cx e x hc.1.2 _ m h).go R (.refl _ _ _) fun ρ₁ s₁ m₁ b st t1 R₁ h₁ => ?_)
        cases b with
        | true => exact ⟨_, _, t1, R₁, h₁⟩
        | false => exact wpAny_allTrue_Or_nil ⟨_, _, t1, R₁, h₁⟩
      | cons => cases hc.2
  | e :: e' :: es, xs, hc, Q, m, h => by
    unfold wpOr at h
    unfold chkEs at hc
    split at hc
    · cases hc
    · rename_i x xs
      rw [Bool.and_eq_true, Bool.and_eq_true] at hc
      intro s ρ R
      refine wpAny_allTrue_Or_cons ((soundC G cx e x hc.1.2 _ m h).go R (.refl _ _ _) fun ρ₁ s₁ m₁ b st t1 R₁ h₁ => ?_)
      cases b with
      | false => exact wpAny_mono (soundCOr G cx (e' :: es) xs hc.2 Q m₁ h₁ s₁ ρ₁ R₁) (fun b s' ⟨ρ', m', a, b', c'⟩ => ⟨ρ', m', t1.trans a, b', c'⟩) (Er.back t1)
      | true => exact ⟨_, _, t1, R₁, h₁⟩
end
end
end Mine
end
section
set_option autoImplicit false
set_option linter.unusedVariables false
namespace Mine
open PySem PyProof.Rows

/-- objects on the side -/
noncomputable def Aside (C : Glo) (F : Fm) (ρ : List Addr) (h : Heap) (S : List Addr) : Prop :=
  ∀ a ∈ S, a ∉ ρ ∧ a ∉ F.W ∧ C.base.get? a = none ∧ ∃ o, h.get? a = some o ∧ ¬ Solid o ∧ (∀ es n, o.data ≠ .dict es n) ∧ o.cls ≠ .type "frame"
noncomputable def Side (S : List Addr) (s s' : Shared) : Prop := (∀ b o, b ∉ S → s.heap.get? b = some o → s'.heap.get? b = some o) ∧ s'.gens = s.gens ∧ s'.os = s.os

section
variable {C : Glo} {F : Fm} {X : XM} {c : Cx} {n : Nat} {ρ ρ' ρ₀ : List Addr} {m : MS} {s s' s₀ : Shared} {S : List Addr}

theorem Side.trans {s'' : Shared} (x : Side S s s') (y : Side S s' s'') : Side S s s'' :=
  ⟨fun b o hb e => y.1 b o hb (x.1 b o hb e), y.2.1.trans x.2.1, y.2.2.trans x.2.2⟩
theorem Step.side {W : List Addr} (x : Step W ρ₀ s₀ ρ s) (y : Side S s s') (hS : ∀ a ∈ S, s₀.heap.get? a = none) : Step W ρ₀ s₀ ρ s' where
  pre := x.pre
  new := x.new
  keep := fun a o e h1 h2 => by
    have ha : a ∉ S := fun h => by rw [hS a h] at e; cases e
    rcases x.keep a o e h1 h2 with e1 | ⟨hc, sl, e1⟩
    · exact .inl (y.1 a _ ha e1)
    · exact .inr ⟨hc, sl, y.1 a _ ha e1⟩
  solid := fun a o e h => y.1 a o (fun q => by rw [hS a q] at e; cases e) (x.solid a o e h)
  alive := fun a o e => let ⟨o', e'⟩ := x.alive a o e; ⟨o', y.1 a o' (fun q => by rw [hS a q] at e; cases e) e'⟩
  gens := y.2.1.trans x.gens
  os := y.2.2.trans x.os
theorem Aside.solids (x : Aside C F ρ s.heap S) (y : Side S s s') : Solids s.heap s'.heap := fun a o e h => y.1 a o (fun q => by
  obtain ⟨_, _, _, o', e', h', _⟩ := x a q
  rw [e] at e'; cases e'; exact h' h) e
theorem Rel.side (R : Rel C F ρ m s) (ok : FmOk F) (x : Aside C F ρ s.heap S) (y : Side S s s') : Rel C F ρ m s' := by
  have hs := x.solids y
  refine R.up ok hs (List.prefix_refl _) (R.hp.up hs (fun a ha o e => y.1 a o (fun q => (x a q).1 ha) e) fun b o e => y.1 b o (fun q => by rw [(x b q).2.2.1] at e; cases e) (R.hp.base b o e)) (fun a h => .inl h)
    (fun a ha o e => ⟨o, y.1 a o (fun q => (x a q).2.1 ha) e, rfl, rfl⟩) (fun e he L hL o eo => ⟨o, y.1 L o (fun q => ?_) eo, rfl, rfl⟩) y.2.1
  obtain ⟨_, L', o', es, k, h1, _, _, _, h5, _, h7⟩ := R.out e he
  rw [hL] at h1; cases h1
  obtain ⟨_, _, _, o2, g1, _, g2, _⟩ := x L q
  rw [h5] at g1; cases g1
  exact g2 _ _ h7
theorem Aside.step (x : Aside C F ρ s.heap S) (st : Step F.W ρ s ρ' s') : Aside C F ρ' s'.heap S ∧ ∀ a ∈ S, ∀ o, s.heap.get? a = some o → s'.heap.get? a = some o := by
  have keep : ∀ a ∈ S, ∀ o, s.heap.get? a = some o → s'.heap.get? a = some o := fun a ha o e => by
    obtain ⟨h1, h2, h3, o', e', h4, h5, h6⟩ := x a ha
    rw [e] at e'; cases e'
    rcases st.keep a o e h1 h2 with q | ⟨q, _⟩
    · exact q
    · exact absurd q h6
  refine ⟨fun a ha => ?_, keep⟩
  obtain ⟨h1, h2, h3, o', e', h4, h5, h6⟩ := x a ha
  refine ⟨fun q => (st.new a q).elim h1 fun q => ?_, h2, h3, o', keep a ha _ e', h4, h5, h6⟩
  rw [q] at e'; cases e'

/-- something that is gone over -/
structure Walk (C : Glo) (F : Fm) (target : Expr) (itv : Value) (items : List MV) (g : Option (Nat × List MV)) (S : List Addr) (It : Nat → List Addr → Shared → Prop) : Prop where
  aside : ∀ i ρ s, It i ρ s → Aside C F ρ s.heap S
  keep : ∀ i ρ ρ' s s', It i ρ s → Step F.W ρ s ρ' s' → It i ρ' s'
  item : ∀ i ρ m s x, Rel C F ρ m s → guardOk g m.heap → It i ρ s → items[i]? = some x → ∀ (E : Value → Shared → Prop) (N : Shared → Prop) (P : Value → Shared → Prop),
    (∀ v s₂, Side S s s₂ → It (i + 1) ρ s₂ → Rep C ρ s₂.heap x v → P v s₂) →
      wpAny (mod C) F.A (pyNext itv) (fun r s₁ => match r with
        | none => N s₁
        | some v => wpAny (mod C) F.A (letOwnedTupleGo target itv v) (fun _ s₂ => P v s₂) E s₁) E s
  done : ∀ i ρ m s, Rel C F ρ m s → guardOk g m.heap → It i ρ s → items[i]? = none → ∀ (E : Value → Shared → Prop) (P : Shared → Prop),
    (∀ s₂, Side S s s₂ → P s₂) → wpAny (mod C) F.A (pyNext itv) (fun r s₁ => r = none ∧ P s₁) E s

theorem aside_new {h : Heap} {o : Obj} {a : Addr} (R : Rel C F ρ m s) (ok : FmOk F) (ha : s.heap.get? a = none) (hk : ∀ b o, s.heap.get? b = some o → h.get? b = some o) (e : h.get? a = some o) (h1 : ¬ Solid o) (h2 : ∀ es n, o.data ≠ .dict es n) (h3 : o.cls ≠ .type "frame") :
    a ∉ ρ ∧ a ∉ F.W ∧ C.base.get? a = none ∧ ∃ o, h.get? a = some o ∧ ¬ Solid o ∧ (∀ es n, o.data ≠ .dict es n) ∧ o.cls ≠ .type "frame" := by
  refine ⟨fun q => ?_, fun q => ?_, base_fresh R.hp ha, o, e, h1, h2, h3⟩
  · obtain ⟨o', e'⟩ := R.hp.there q; rw [ha] at e'; cases e'
  · obtain ⟨_, _, o', e', _⟩ := R.w a q; rw [ha] at e'; cases e'
theorem not_solid_fields {T : String} {o : Obj} (hc : o.cls = .type T) (hT : T ≠ "tuple") : ¬ Solid o := fun h => by
  rcases h with ⟨q, _⟩ | ⟨⟨c, q⟩, _⟩
  · rw [hc] at q; cases q; exact hT rfl
  · rw [hc] at q; cases q

/-- a list's iterator -/
noncomputable def ItList (C : Glo) (F : Fm) (it l : Addr) (r : Nat) : Nat → List Addr → Shared → Prop :=
  fun i ρ s => Aside C F ρ s.heap [it] ∧ s.heap.IsListIter it l i ∧ ρ[r]? = some l
theorem aside_put {h' : Heap} {it : Addr} {o : Obj} (x : Aside C F ρ s.heap [it]) (e : h'.get? it = some o) (h1 : ¬ Solid o) (h2 : ∀ es n, o.data ≠ .dict es n) (h3 : o.cls ≠ .type "frame") : Aside C F ρ h' [it] := by
  intro a ha
  obtain ⟨g1, g2, g3, _⟩ := x a ha
  have : a = it := by simpa using ha
  subst this
  exact ⟨g1, g2, g3, o, e, h1, h2, h3⟩
theorem listIter_aside {h' : Heap} {it l : Addr} {i : Nat} (x : Aside C F ρ s.heap [it]) (e : h'.IsListIter it l i) : Aside C F ρ h' [it] := by
  obtain ⟨o, e1, e2, e3⟩ := e
  exact aside_put x e1 (not_solid_fields e2 (by decide)) (fun es n q => by rw [e3] at q; cases q) (by rw [e2]; decide)
theorem side_same {a : Addr} {h' : Heap} {t : Nat} (hs : Heap.SameBut a s.heap h') : Side [a] s { s with heap := h', toks := t } := ⟨fun b o hb e => (hs.2 b (by simpa using hb)).trans e, rfl, rfl⟩
theorem side_ext {a : Addr} {h' : Heap} {t : Nat} (hs : Heap.ExtBut a s.heap h') : Side [a] s { s with heap := h', toks := t } := ⟨fun b o hb e => hs b o (by simpa using hb) e, rfl, rfl⟩

theorem letOwned_name {x : Str} {p : Pos} {it v : Value} : letOwnedTupleGo (.Name x p) it v = pure () := rfl
noncomputable def isTarget : Expr → Bool
  | .Name .. => true
  | .Tuple .. => true
  | _ => false
/-- no tuple is the iterator's own -/
theorem letOwned_no {target : Expr} (ht : isTarget target = true) {it : Addr} {v : Value} {o : Obj} {A : Around} {E : Value → Shared → Prop} {P : Unit → Shared → Prop} (e : s.heap.get? it = some o) {T : String} (hc : o.cls = .type T)
    (hT : (["enumerate", "zip", "dict_itemiterator", "dict_reverseitemiterator", "odict_iterator", "itertools.zip_longest", "itertools.pairwise"].contains T) = false) (h : P () s) : wpAny (mod C) A (letOwnedTupleGo target (.ref it) v) P E s := by
  cases target with
  | Name => exact wpAny_pure h
  | Tuple elts k p =>
    unfold letOwnedTupleGo
    cases v with
    | ref a =>
      refine wpAny_bind (wpAny_load e ?_)
      rw [hc]
      cases o.data with
      | fields vs =>
        simp only [hT, Bool.false_and, Bool.false_eq_true, if_false]
        exact wpAny_pure h
      | _ => exact wpAny_pure h
    | _ => exact wpAny_pure h
  | _ => cases ht

theorem walk_list (ok : FmOk F) {target : Expr} (ht : isTarget target = true) {it l : Addr} {r : Nat} {xs : List MV} : Walk C F target (.ref it) xs (some (r, xs)) [it] (ItList C F it l r) where
  aside := fun i ρ s h => h.1
  keep := fun i ρ ρ' s s' h st => by
    obtain ⟨a, ⟨o, e, r1, r2⟩, e2⟩ := h
    obtain ⟨a', k⟩ := a.step st
    exact ⟨a', ⟨o, k it (by simp) o e, r1, r2⟩, pre_get st.pre e2⟩
  item := fun i ρ m s x R hg h hx E N P k => by
    obtain ⟨a, hit, e2⟩ := h
    obtain ⟨items, c, gi, rl, z⟩ := R.hp.objs _ _ _ hg e2
    obtain ⟨v, hv, rv⟩ := rl.get hx
    refine wpAny_pyNext_list_item hit ⟨_, gi, rfl, _, rfl⟩ (by simpa using hv) fun h' hit' hs => ?_
    have sd := side_same (t := s.toks) hs
    have a' := listIter_aside a hit'
    obtain ⟨o, eo, hc, hd⟩ := id hit'
    refine letOwned_no ht (s := { s with heap := h' }) eo hc (by decide) (k v _ sd ⟨a', hit', e2⟩ (rv.up (a.solids sd) (List.prefix_refl _)))
  done := fun i ρ m s R hg h hx E P k => by
    obtain ⟨a, hit, e2⟩ := h
    obtain ⟨items, c, gi, rl, z⟩ := R.hp.objs _ _ _ hg e2
    refine wpAny_pyNext_list_end ok.hn hit ⟨_, gi, rfl, _, rfl⟩ (i := i) ?_ fun h' he => ⟨rfl, k _ (side_ext (t := s.toks) he)⟩
    rw [List.getElem?_eq_none_iff] at hx
    simp [rl.length, hx]

/-- a tuple's iterator -/
noncomputable def ItTup (C : Glo) (F : Fm) (it t : Addr) (xs : List MV) : Nat → List Addr → Shared → Prop :=
  fun i ρ s => Aside C F ρ s.heap [it] ∧ s.heap.IsTupleIter it t i ∧ ∃ items n, s.heap.get? t = some (tupO items n) ∧ RepL C ρ s.heap xs items
theorem walk_tup (ok : FmOk F) {target : Expr} (ht : isTarget target = true) {it t : Addr} {xs : List MV} : Walk C F target (.ref it) xs none [it] (ItTup C F it t xs) where
  aside := fun i ρ s h => h.1
  keep := fun i ρ ρ' s s' h st => by
    obtain ⟨a, ⟨o, e, r1, r2⟩, items, n, e2, rl⟩ := h
    obtain ⟨a', k⟩ := a.step st
    exact ⟨a', ⟨o, k it (by simp) o e, r1, r2⟩, items, n, st.solid _ _ e2 solid_tup, rl.step st⟩
  item := fun i ρ m s x R hg h hx E N P k => by
    obtain ⟨a, hit, items, n, e2, rl⟩ := h
    obtain ⟨v, hv, rv⟩ := rl.get hx
    refine wpAny_pyNext_tuple_item hit ⟨_, e2, rfl, _, rfl⟩ (by simpa using hv) fun h' hit' hs => ?_
    have sd := side_same (t := s.toks) hs
    obtain ⟨o, eo, hc, hd⟩ := id hit'
    have a' : Aside C F ρ h' [it] := aside_put a eo (not_solid_fields hc (by decide)) (fun es n q => by rw [hd] at q; cases q) (by rw [hc]; decide)
    refine letOwned_no ht (s := { s with heap := h' }) eo hc (by decide) (k v _ sd ⟨a', hit', items, n, a.solids sd _ _ e2 solid_tup, rl.up (a.solids sd) (List.prefix_refl _)⟩ (rv.up (a.solids sd) (List.prefix_refl _)))
  done := fun i ρ m s R hg h hx E P k => by
    obtain ⟨a, hit, items, n, e2, rl⟩ := h
    refine wpAny_pyNext_tuple_end ok.hn hit ⟨_, e2, rfl, _, rfl⟩ (i := i) ?_ fun h' he => ⟨rfl, k _ (side_ext (t := s.toks) he)⟩
    rw [List.getElem?_eq_none_iff] at hx
    simp [rl.length, hx]

/-- a range's iterator -/
noncomputable def ItRange (C : Glo) (F : Fm) (it : Addr) (a : Int) (k : Nat) : Nat → List Addr → Shared → Prop :=
  fun i ρ s => Aside C F ρ s.heap [it] ∧ IsRangeIter s.heap it (a + i) ((k : Int) - i) 1
theorem walk_range (ok : FmOk F) {target : Expr} (ht : isTarget target = true) {it : Addr} {a : Int} {k : Nat} : Walk C F target (.ref it) ((List.range k).map (fun (i : Nat) => .int (a + i))) none [it] (ItRange C F it a k) where
  aside := fun i ρ s h => h.1
  keep := fun i ρ ρ' s s' h st => by
    obtain ⟨a, e⟩ := h
    obtain ⟨a', k⟩ := a.step st
    exact ⟨a', k it (by simp) _ e⟩
  item := fun i ρ m s x R hg h hx E N P kk => by
    obtain ⟨as, hit⟩ := h
    simp only [List.getElem?_map, Option.map_eq_some_iff] at hx
    obtain ⟨j, hj, rfl⟩ := hx
    obtain ⟨hlt, hj⟩ := List.getElem?_eq_some_iff.mp hj
    simp at hj hlt; subst hj
    refine wpAny_pyNext_range_item hit (by omega) fun h' hit' hs => ?_
    have sd := side_same (t := s.toks + 1) hs
    have a' : Aside C F ρ h' [it] := aside_put as hit' (not_solid_fields (T := "range_iterator") rfl (by decide)) (fun es n q => by cases q) (by simp)
    have hit'' : IsRangeIter h' it (a + ((i + 1 : Nat) : Int)) ((k : Int) - ((i + 1 : Nat) : Int)) 1 := by
      have e1 : a + ((i + 1 : Nat) : Int) = a + i + 1 := by omega
      have e2 : (k : Int) - ((i + 1 : Nat) : Int) = k - i - 1 := by omega
      rw [e1, e2]; exact hit'
    exact letOwned_no ht (s := { s with heap := h', toks := s.toks + 1 }) hit' rfl (by decide) (kk _ _ sd ⟨a', hit''⟩ (.int _ _))
  done := fun i ρ m s R hg h hx E P kk => by
    obtain ⟨as, hit⟩ := h
    rw [List.getElem?_eq_none_iff] at hx
    simp at hx
    exact wpAny_pyNext_range_end ok.hn hit (by omega) fun h' he => ⟨rfl, kk _ (side_ext (t := s.toks) he)⟩

/-- enumerate over a list -/
noncomputable def ItEnum (C : Glo) (F : Fm) (e it l : Addr) (r : Nat) : Nat → List Addr → Shared → Prop :=
  fun i ρ s => Aside C F ρ s.heap [e, it] ∧ (∃ old, IsEnum s.heap e it i old) ∧ s.heap.IsListIter it l i ∧ ρ[r]? = some l
theorem aside_two {h' : Heap} {e it l : Addr} {i : Nat} {j : Int} {old : Value} (x : Aside C F ρ s.heap [e, it]) (h1 : IsEnum h' e it j old) (h2 : h'.IsListIter it l i) : Aside C F ρ h' [e, it] := by
  intro a ha
  obtain ⟨g1, g2, g3, _⟩ := x a ha
  have : a = e ∨ a = it := by simpa using ha
  rcases this with rfl | rfl
  · exact ⟨g1, g2, g3, _, h1, not_solid_fields (T := "enumerate") rfl (by decide), (fun es n q => by cases q), by simp⟩
  · obtain ⟨o, e1, e2, e3⟩ := h2
    exact ⟨g1, g2, g3, _, e1, not_solid_fields e2 (by decide), (fun es n q => by rw [e3] at q; cases q), by rw [e2]; decide⟩
theorem walk_enum (ok : FmOk F) {elts : List Expr} {x1} {pos : Pos} {e it l : Addr} {r : Nat} {xs : List MV} (hne : e ≠ it) : Walk C F (.Tuple elts x1 pos) (.ref e) (xs.zipIdx.map (fun p => .tup [.int p.2, p.1])) (some (r, xs)) [e, it] (ItEnum C F e it l r) where
  aside := fun i ρ s h => h.1
  keep := fun i ρ ρ' s s' h st => by
    obtain ⟨a, ⟨old, h1⟩, ⟨o, e', r1, r2⟩, e2⟩ := h
    obtain ⟨a', k⟩ := a.step st
    exact ⟨a', ⟨old, k e (by simp) _ h1⟩, ⟨o, k it (by simp) o e', r1, r2⟩, pre_get st.pre e2⟩
  item := fun i ρ m s x R hg h hx E N P kk => by
    obtain ⟨a, ⟨old, h1⟩, hit, e2⟩ := h
    obtain ⟨items, c, gi, rl, z⟩ := R.hp.objs _ _ _ hg e2
    simp only [List.getElem?_map, Option.map_eq_some_iff] at hx
    obtain ⟨⟨y, j⟩, hj, rfl⟩ := hx
    rw [List.getElem?_zipIdx] at hj
    simp only [Option.map_eq_some_iff, Nat.zero_add] at hj
    obtain ⟨y', hy, hj⟩ := hj
    cases hj
    obtain ⟨v, hv, rv⟩ := rl.get hy
    refine wpAny_pyNext_enum_item h1 hit ⟨_, gi, rfl, _, rfl⟩ (by simpa using hv) hne fun h' he hit' ht hsz hk => ?_
    refine wpAny_letOwnedTupleGo_enum (s := { s with heap := h', toks := s.toks + 1 }) he fun h2 he2 hs2 => ?_
    have hlt : s.heap.objs.size ≠ e := fun q => absurd (Heap.lt_size h1) (by rw [← q]; exact Nat.lt_irrefl _)
    have ht2 : h2.get? s.heap.objs.size = some (tupO [.int i s.toks, v] 0) := (hs2.2 _ hlt).trans ht
    have hit2 : h2.IsListIter it l (i + 1) := by
      obtain ⟨o, e1, r⟩ := hit'
      exact ⟨o, (hs2.2 it (fun q => hne q.symm)).trans e1, r⟩
    have sd : Side [e, it] s { s with heap := h2, toks := s.toks + 1 } := ⟨fun b o hb eb => by
      simp at hb
      exact (hs2.2 b hb.1).trans (hk b o hb.1 hb.2 eb), rfl, rfl⟩
    refine kk _ _ sd ⟨aside_two a he2 hit2, ⟨v, ?_⟩, hit2, e2⟩ (.tup ht2 (.cons (.int _ _) (.cons (rv.up (a.solids sd) (List.prefix_refl _)) .nil)) (by unfold line; simp))
    have : (((i + 1 : Nat)) : Int) = (i : Int) + 1 := by omega
    rw [this]; exact he2
  done := fun i ρ m s R hg h hx E P kk => by
    obtain ⟨a, ⟨old, h1⟩, hit, e2⟩ := h
    obtain ⟨items, c, gi, rl, z⟩ := R.hp.objs _ _ _ hg e2
    rw [List.getElem?_eq_none_iff] at hx
    simp at hx
    refine wpAny_pyNext_enum_end ok.hn h1 hit ⟨_, gi, rfl, _, rfl⟩ (by simp [rl.length, hx]) fun h' he => ⟨rfl, kk _ ⟨fun b o hb eb => he b o (by simp at hb; exact hb.2) eb, rfl, rfl⟩⟩
end
end Mine
end
section
set_option autoImplicit false
set_option linter.unusedVariables false
namespace Mine
open PySem PyProof.Rows

noncomputable def chkIt (c : Cx) (k : IK) (src : List ME) (e : Expr) : Bool :=
  okX e && match k, src with
  | .val, [a] => chkE c a e
  | .range1, [a] => match e with
    | .Call (.Name x _) [y] [] _ => glName c x && x == ("range" : Str) && okX y && chkE c a y
    | _ => false
  | .range2, [a, b] => match e with
    | .Call (.Name x _) [y, z] [] _ => glName c x && x == ("range" : Str) && okX y && okX z && chkE c a y && chkE c b z
    | _ => false
  | .enum, [a] => match e with
    | .Call (.Name x _) [y] [] _ => glName c x && x == ("enumerate" : Str) && okX y && chkE c a y
    | _ => false
  | _, _ => false

/-- the names of a target -/
noncomputable def chkNames (c : Cx) : List Nat → List Expr → Bool
  | [], [] => true
  | i :: t, .Name x _ :: r => c.nm i == some x && !(c.kind x == some .free) && chkNames c t r
  | _, _ => false
noncomputable def chkT (c : Cx) (t : List Nat) (many : Bool) (e : Expr) : Bool :=
  match many, e with
  | false, .Name x _ => match t with
    | [i] => c.nm i == some x && !(c.kind x == some .free)
    | _ => false
  | true, .Tuple elts _ _ => chkNames c t elts
  | _, _ => false

section
variable {C : Glo} {F : Fm} {X : XM} {c : Cx} {n : Nat} {ρ ρ' ρ₀ : List Addr} {m : MS} {s s' s₀ : Shared} {A : Around} {E : Value → Shared → Prop}

theorem chkT_target {t : List Nat} {many : Bool} {e : Expr} (h : chkT c t many e = true) : isTarget e = true := by
  unfold chkT at h
  split at h <;> first | rfl | cases h
theorem chkT_many {t : List Nat} {e : Expr} (h : chkT c t true e = true) : ∃ elts k p, e = .Tuple elts k p := by
  unfold chkT at h
  split at h
  · rename_i q; cases q
  · exact ⟨_, _, _, rfl⟩
  · cases h

/-- a text's iterator -/
noncomputable def ItStr (C : Glo) (F : Fm) (it : Addr) (x : List Nat) (t : Tok) : Nat → List Addr → Shared → Prop :=
  fun i ρ s => Aside C F ρ s.heap [it] ∧ s.heap.IsStrIter it "str_ascii_iterator" (str x) t i
theorem walk_str (ok : FmOk F) {target : Expr} (ht : isTarget target = true) {it : Addr} {x : List Nat} {t : Tok} : Walk C F target (.ref it) (x.map (fun c => .str [c])) none [it] (ItStr C F it x t) where
  aside := fun i ρ s h => h.1
  keep := fun i ρ ρ' s s' h st => by
    obtain ⟨a, o, e, r⟩ := h
    obtain ⟨a', k⟩ := a.step st
    exact ⟨a', o, k it (by simp) _ e, r⟩
  item := fun i ρ m s y R hg h hx E N P kk => by
    obtain ⟨as, hit⟩ := h
    simp only [List.getElem?_map, Option.map_eq_some_iff] at hx
    obtain ⟨j, hj, rfl⟩ := hx
    refine wpAny_pyNext_ascii_item hit (c := j) (by simpa using hj) fun h' hit' hs => ?_
    have sd := side_same (t := s.toks + 1) hs
    obtain ⟨o, eo, hc, hd⟩ := id hit'
    have a' : Aside C F ρ h' [it] := aside_put as eo (not_solid_fields hc (by decide)) (fun es n q => by rw [hd] at q; cases q) (by rw [hc]; decide)
    exact letOwned_no ht (s := { s with heap := h', toks := s.toks + 1 }) eo hc (by decide) (kk _ _ sd ⟨a', hit'⟩ (.str [j] _ (by unfold line; simp)))
  done := fun i ρ m s R hg h hx E P kk => by
    obtain ⟨as, hit⟩ := h
    rw [List.getElem?_eq_none_iff] at hx
    simp at hx
    exact wpAny_pyNext_ascii_end ok.hn hit (by simp [hx]) fun h' he => ⟨rfl, kk _ (side_ext (t := s.toks) he)⟩

/-- what stands ahead of a loop -/
noncomputable def OutI (C : Glo) (F : Fm) (target : Expr) (ρ : List Addr) (s : Shared) (P : List MV → Option (Nat × List MV) → MS → Prop) : Value → Shared → Prop :=
  fun itv s₂ => ∃ ρ₂ m₂ items g S It, Step F.W ρ s ρ₂ s₂ ∧ Rel C F ρ₂ m₂ s₂ ∧ Walk C F target itv items g S It ∧ It 0 ρ₂ s₂ ∧ (∀ a ∈ S, s.heap.get? a = none) ∧ P items g m₂

theorem none_back {W : List Addr} (st : Step W ρ s ρ' s') {a : Addr} (h : s'.heap.get? a = none) : s.heap.get? a = none := by
  cases e : s.heap.get? a with
  | none => rfl
  | some o => obtain ⟨o', e'⟩ := st.alive a o e; rw [h] at e'; cases e'

theorem range_it (cx : CxOk C c F n) (R : Rel C F ρ m s) (st₀ : Step F.W ρ₀ s₀ ρ s) {target : Expr} (ht : isTarget target = true) {a b : Int} {r : Addr} {t u v : Tok} (hr : IsRange s.heap r a b 1 t u v)
    (h1 : -16777216 ≤ a) (h2 : a ≤ 16777216) (h3 : -16777216 ≤ b) (h4 : b ≤ 16777216) {P : List MV → Option (Nat × List MV) → MS → Prop} (h : P ((List.range (b - a).toNat).map (fun (i : Nat) => .int (a + i))) none m) :
    wpAny (mod C) A (pyIter (.ref r)) (OutI C F target ρ₀ s₀ P) E s := by
  refine wpAny_pyIter_range hr (small_one (by omega) (by omega) (by omega) (by omega)) ?_
  have hk : ∀ q o, s.heap.get? q = some o → (s.heap.push { cls := .type "range_iterator", data := .fields #[rawInt a, rawInt (Builtin.Range.rangeSize a b 1), rawInt 1] }).get? q = some o := fun q o e => Heap.get?_push_of_some _ e
  obtain ⟨R', st⟩ := R.grow (s' := { s with heap := s.heap.push { cls := .type "range_iterator", data := .fields #[rawInt a, rawInt (Builtin.Range.rangeSize a b 1), rawInt 1] } }) cx.fm hk rfl rfl
  have hnew : s.heap.get? s.heap.objs.size = none := fresh_at (Nat.le_refl _)
  refine ⟨ρ, m, _, _, _, _, st₀.trans st, R', walk_range (it := s.heap.objs.size) (a := a) (k := (b - a).toNat) cx.fm ht, ⟨?_, ?_⟩, fun q hq => ?_, h⟩
  · intro q hq
    have : q = s.heap.objs.size := by simpa using hq
    subst this
    exact aside_new R cx.fm hnew hk (Heap.get?_push_size _ rfl) (not_solid_fields (T := "range_iterator") rfl (by decide)) (fun es n q => by cases q) (by simp)
  · have e1 : a + ((0 : Nat) : Int) = a := by omega
    have e2 : (((b - a).toNat : Nat) : Int) - ((0 : Nat) : Int) = Builtin.Range.rangeSize a b 1 := by rw [rangeSize_one]; split <;> omega
    show IsRangeIter _ _ _ _ _
    rw [e1, e2]
    exact Heap.get?_push_size _ rfl
  · have : q = s.heap.objs.size := by simpa using hq
    subst this
    exact none_back st₀ hnew

theorem soundIt (G : GOk C) (cx : CxOk C c F n) {k : IK} {src : List ME} {e target : Expr} {t : List Nat} {many : Bool} (hc : chkIt c k src e = true) (ht : chkT c t many target = true) (hm : k = .enum → many = true)
    {P : List MV → Option (Nat × List MV) → MS → Prop} (h : wpEs (Call C) n src (fun vs m => match iterOf k vs m.heap with
      | some (items, g) => P items g m
      | none => False) X m) (R : Rel C F ρ m s) :
    wpAny (mod C) F.A (eval e F.env) (fun xv s₁ => wpAny (mod C) F.A (pyIter xv) (OutI C F target ρ s P) (Er C F X ρ s) s₁) (Er C F X ρ s) s := by
  have htt := chkT_target ht
  unfold chkIt at hc
  rw [Bool.and_eq_true] at hc
  obtain ⟨hx, hc⟩ := hc
  split at hc
  · rename_i a
    unfold wpEs at h
    refine (soundE G cx a e hc _ m h).go R (.refl _ _ _) fun ρ₁ s₁ m₁ x v st t1 R₁ rx h₁ => ?_
    unfold wpEs at h₁
    unfold iterOf at h₁
    have hnew : s₁.heap.get? s₁.heap.objs.size = none := fresh_at (Nat.le_refl _)
    cases rx with
    | @ref _ la g =>
      simp only at h₁
      split at h₁
      · rename_i items' g' e1
        split at e1
        · rename_i xs hi
          cases e1
          obtain ⟨items, n', gi, rl, z⟩ := R₁.hp.objs _ _ _ hi g
          refine wpAny_pyIter_list ⟨_, gi, rfl, _, rfl⟩ ?_
          have hk : ∀ q o, s₁.heap.get? q = some o → (s₁.heap.push { cls := .type "list_iterator", data := .fields #[.ref la, .int 0 0] }).get? q = some o := fun q o e => Heap.get?_push_of_some _ e
          obtain ⟨R', st'⟩ := R₁.grow (s' := { s₁ with heap := s₁.heap.push { cls := .type "list_iterator", data := .fields #[.ref la, .int 0 0] } }) cx.fm hk rfl rfl
          refine ⟨ρ₁, m₁, _, _, _, _, t1.trans st', R', walk_list (it := s₁.heap.objs.size) cx.fm htt, ⟨?_, ⟨_, Heap.get?_push_size _ rfl, rfl, rfl⟩, g⟩, fun q hq => ?_, h₁⟩
          · intro q hq
            have : q = s₁.heap.objs.size := by simpa using hq
            subst this
            exact aside_new R₁ cx.fm hnew hk (Heap.get?_push_size _ rfl) (not_solid_fields (T := "list_iterator") rfl (by decide)) (fun es n q => by cases q) (by simp)
          · have : q = s₁.heap.objs.size := by simpa using hq
            subst this
            exact none_back t1 hnew
        · cases e1
      · exact h₁.elim
    | @tup ta _ _ _ gi rl z =>
      simp only at h₁
      refine wpAny_pyIter_tuple ⟨_, gi, rfl, _, rfl⟩ ?_
      have hk : ∀ q o, s₁.heap.get? q = some o → (s₁.heap.push { cls := .type "tuple_iterator", data := .fields #[.ref ta, .int 0 0] }).get? q = some o := fun q o e => Heap.get?_push_of_some _ e
      obtain ⟨R', st'⟩ := R₁.grow (s' := { s₁ with heap := s₁.heap.push { cls := .type "tuple_iterator", data := .fields #[.ref ta, .int 0 0] } }) cx.fm hk rfl rfl
      refine ⟨ρ₁, m₁, _, _, _, _, t1.trans st', R', walk_tup (it := s₁.heap.objs.size) cx.fm htt, ⟨?_, ⟨_, Heap.get?_push_size _ rfl, rfl, rfl⟩, _, _, hk _ _ gi, rl.step st'⟩, fun q hq => ?_, h₁⟩
      · intro q hq
        have : q = s₁.heap.objs.size := by simpa using hq
        subst this
        exact aside_new R₁ cx.fm hnew hk (Heap.get?_push_size _ rfl) (not_solid_fields (T := "tuple_iterator") rfl (by decide)) (fun es n q => by cases q) (by simp)
      · have : q = s₁.heap.objs.size := by simpa using hq
        subst this
        exact none_back t1 hnew
    | str y u z =>
      simp only at h₁
      split at h₁
      · rename_i items' g' e1
        split at e1
        · rename_i ha
          cases e1
          refine wpAny_pyIter_ascii (by rw [← ha]; simp) ?_
          have hk : ∀ q o, s₁.heap.get? q = some o → (s₁.heap.push { cls := .type "str_ascii_iterator", data := .fields #[.str (str y) u, .int 0 0] }).get? q = some o := fun q o e => Heap.get?_push_of_some _ e
          obtain ⟨R', st'⟩ := R₁.grow (s' := { s₁ with heap := s₁.heap.push { cls := .type "str_ascii_iterator", data := .fields #[.str (str y) u, .int 0 0] } }) cx.fm hk rfl rfl
          refine ⟨ρ₁, m₁, _, _, _, _, t1.trans st', R', walk_str (it := s₁.heap.objs.size) cx.fm htt, ⟨?_, ⟨_, Heap.get?_push_size _ rfl, rfl, rfl⟩⟩, fun q hq => ?_, h₁⟩
          · intro q hq
            have : q = s₁.heap.objs.size := by simpa using hq
            subst this
            exact aside_new R₁ cx.fm hnew hk (Heap.get?_push_size _ rfl) (not_solid_fields (T := "str_ascii_iterator") rfl (by decide)) (fun es n q => by cases q) (by simp)
          · have : q = s₁.heap.objs.size := by simpa using hq
            subst this
            exact none_back t1 hnew
        · cases e1
      · exact h₁.elim
    | _ => exact h₁.elim
  · rename_i a
    split at hc
    · rename_i x px y pos
      simp only [Bool.and_eq_true, beq_iff_eq] at hc
      obtain ⟨⟨⟨hg, rfl⟩, hy⟩, ha⟩ := hc
      refine PyProof.Rows.Call_Name rfl (load_blt cx R (v := .type "range") (by simp [bltNames]) (glName_ok hg).1 (glName_ok hg).2 ?_)
      refine call_args (.inr ⟨_, rfl⟩) (by rw [okX_star hy]; rfl) (by rw [okX_star hy]; simp [backTo]) ?_
      rw [okX_star hy]
      unfold wpEs at h
      refine Calls.spliced_cons ((soundE G cx a y ha _ m h).go R (.refl _ _ _) fun ρ₁ s₁ m₁ x v st t1 R₁ rx h₁ => Calls.spliced_nil ?_)
      unfold wpEs at h₁
      unfold iterOf at h₁
      cases rx with
      | int i t =>
        simp only at h₁
        split at h₁
        · rename_i items' g' e1
          split at e1
          · rename_i d1 d2
            cases e1
            simp only [decide_eq_true_eq] at d1 d2
            refine call_range_1 ?_
            have hk : ∀ q o, s₁.heap.get? q = some o → (s₁.heap.push { cls := .type "range", data := .fields #[.int 0 s₁.toks, .int i t, .int 1 (s₁.toks + 1)] }).get? q = some o := fun q o e => Heap.get?_push_of_some _ e
            obtain ⟨R', st'⟩ := R₁.grow (s' := { s₁ with heap := s₁.heap.push { cls := .type "range", data := .fields #[.int 0 s₁.toks, .int i t, .int 1 (s₁.toks + 1)] }, toks := s₁.toks + 1 + 1 }) cx.fm hk rfl rfl
            refine range_it cx R' (t1.trans st') htt (IsRange.new _ _ _ _ _ _ _) (by omega) (by omega) d1 d2 ?_
            simpa using h₁
          · cases e1
        · exact h₁.elim
      | _ => exact h₁.elim
    · cases hc
  · rename_i a b
    split at hc
    · rename_i x px y z pos
      simp only [Bool.and_eq_true, beq_iff_eq] at hc
      obtain ⟨⟨⟨⟨⟨hg, rfl⟩, hy⟩, hz⟩, ha⟩, hb⟩ := hc
      refine PyProof.Rows.Call_Name rfl (load_blt cx R (v := .type "range") (by simp [bltNames]) (glName_ok hg).1 (glName_ok hg).2 ?_)
      refine call_args (.inr ⟨_, rfl⟩) (by rw [okX_star hy, okX_star hz]; rfl) (by rw [okX_star hy]; simp [backTo]) ?_
      rw [okX_star hy, okX_star hz]
      unfold wpEs at h
      refine Calls.spliced_cons ((soundE G cx a y ha _ m h).go R (.refl _ _ _) fun ρ₁ s₁ m₁ x v st t1 R₁ rx h₁ => ?_)
      unfold wpEs at h₁
      refine Calls.spliced_cons ((soundE G cx b z hb _ m₁ h₁).go R₁ t1 fun ρ₂ s₂ m₂ x' v' st2 t2 R₂ rx' h₂ => Calls.spliced_nil ?_)
      unfold wpEs at h₂
      unfold iterOf at h₂
      cases rx with
      | int i t =>
        cases rx' with
        | int j t' =>
          simp only at h₂
          split at h₂
          · rename_i items' g' e1
            split at e1
            · rename_i d1 d2 d3 d4
              cases e1
              simp only [decide_eq_true_eq] at d1 d2 d3 d4
              refine call_range_2 ?_
              have hk : ∀ q o, s₂.heap.get? q = some o → (s₂.heap.push { cls := .type "range", data := .fields #[.int i t, .int j t', .int 1 s₂.toks] }).get? q = some o := fun q o e => Heap.get?_push_of_some _ e
              obtain ⟨R', st'⟩ := R₂.grow (s' := { s₂ with heap := s₂.heap.push { cls := .type "range", data := .fields #[.int i t, .int j t', .int 1 s₂.toks] }, toks := s₂.toks + 1 }) cx.fm hk rfl rfl
              exact range_it cx R' (t2.trans st') htt (IsRange.new _ _ _ _ _ _ _) (by omega) (by omega) (by omega) (by omega) h₂
            · cases e1
          · exact h₂.elim
        | _ => exact h₂.elim
      | _ => exact h₂.elim
    · cases hc
  · rename_i a
    split at hc
    · rename_i x px y pos
      simp only [Bool.and_eq_true, beq_iff_eq] at hc
      obtain ⟨⟨⟨hg, rfl⟩, hy⟩, ha⟩ := hc
      have hmm := hm rfl
      subst hmm
      obtain ⟨elts, k', p', rfl⟩ := chkT_many ht
      refine PyProof.Rows.Call_Name rfl (load_blt cx R (v := .type "enumerate") (by simp [bltNames]) (glName_ok hg).1 (glName_ok hg).2 ?_)
      refine call_args (.inr ⟨_, rfl⟩) (by rw [okX_star hy]; rfl) (by rw [okX_star hy]; simp [backTo]) ?_
      rw [okX_star hy]
      unfold wpEs at h
      refine Calls.spliced_cons ((soundE G cx a y ha _ m h).go R (.refl _ _ _) fun ρ₁ s₁ m₁ x v st t1 R₁ rx h₁ => Calls.spliced_nil ?_)
      unfold wpEs at h₁
      unfold iterOf at h₁
      have hnew : s₁.heap.get? s₁.heap.objs.size = none := fresh_at (Nat.le_refl _)
      have hnew' : s₁.heap.get? (s₁.heap.objs.size + 1) = none := fresh_at (Nat.le_succ _)
      cases rx with
      | ref g =>
        simp only at h₁
        split at h₁
        · rename_i items' g' e1
          split at e1
          · rename_i xs hi
            cases e1
            obtain ⟨items, n', gi, rl, z⟩ := R₁.hp.objs _ _ _ hi g
            refine call_enumerate_1 gi fun h' he hit hsz hk => ?_
            obtain ⟨R', st'⟩ := R₁.grow (s' := { s₁ with heap := h' }) cx.fm hk rfl rfl
            refine wpAny_pyIter_enum he ?_
            have hne : s₁.heap.objs.size + 1 ≠ s₁.heap.objs.size := Nat.succ_ne_self _
            refine ⟨ρ₁, m₁, _, _, _, _, t1.trans st', R', walk_enum (e := s₁.heap.objs.size + 1) (it := s₁.heap.objs.size) cx.fm hne, ⟨?_, ⟨_, he⟩, hit, g⟩, fun q hq => ?_, h₁⟩
            · intro q hq
              have : q = s₁.heap.objs.size + 1 ∨ q = s₁.heap.objs.size := by simpa using hq
              rcases this with rfl | rfl
              · exact aside_new R₁ cx.fm hnew' hk he (not_solid_fields (T := "enumerate") rfl (by decide)) (fun es n q => by cases q) (by simp)
              · obtain ⟨o, e1, e2, e3⟩ := hit
                exact aside_new R₁ cx.fm hnew hk e1 (not_solid_fields e2 (by decide)) (fun es n q => by rw [e3] at q; cases q) (by rw [e2]; decide)
            · have : q = s₁.heap.objs.size + 1 ∨ q = s₁.heap.objs.size := by simpa using hq
              rcases this with rfl | rfl
              · exact none_back t1 hnew'
              · exact none_back t1 hnew
          · cases e1
        · exact h₁.elim
      | _ => exact h₁.elim
    · cases hc
  · cases hc
end
end Mine
end
section
set_option autoImplicit false
set_option linter.unusedVariables false
namespace Mine
open PySem PyProof.Rows

noncomputable def isTupE : Expr → Bool
  | .Tuple .. => true
  | _ => false
theorem swapped_no {elts : List Expr} {k : Nat} {p : Pos} {v : Expr} (h : isTupE v = false) (env : Env) : swappedStores [.Tuple elts k p] v env = pure none := by
  cases v <;> first | rfl | cases h

mutual
noncomputable def chkS (c : Cx) : MSt → Stmt → Bool
  | .asg t many e, st => match st with
    | .Assign [tg] v _ => chkT c t many tg && !isComp v && (!many || !isTupE v) && chkE c e v
    | _ => false
  | .setAttr _ _ _, _ => false
  | .setIdx o i e, st => match st with
    | .Assign [.Subscript ov iv _] v _ => !isComp v && chkE c e v && chkE c o ov && chkE c i iv
    | _ => false
  | .expr e, st => match st with
    | .Expr v _ => !isComp v && chkE c e v
    | _ => false
  | .ite d a b, st => match st with
    | .If test x y _ => chkE c d test && chkSs c a x && chkSs c b y
    | _ => false
  | .for_ t many k src body, st => match st with
    | .For tg it b [] _ => chkT c t many tg && (match k with
      | .enum => many
      | _ => true) && okX it && chkIt c k src it && chkSs c body b
    | _ => false
  | .while_ d body, st => match st with
    | .While test b [] _ => chkE c d test && chkSs c body b
    | _ => false
  | .ret e, st => match st with
    | .Return (some v) _ => chkE c e v
    | _ => false
  | .cont, st => match st with
    | .Continue _ => true
    | _ => false
  | .raise _, _ => false
  | .try_ _ _ _ _, _ => false
noncomputable def chkSs (c : Cx) : List MSt → List Stmt → Bool
  | [], xs => xs.isEmpty
  | s :: ss, xs => match xs with
    | [] => false
    | x :: xs => chkS c s x && chkSs c ss xs
end

section
variable {C : Glo} {F : Fm} {X : XM} {c : Cx} {n : Nat} {ρ ρ' ρ₀ : List Addr} {m : MS} {s s' s₀ : Shared} {A : Around} {E : Value → Shared → Prop}

theorem names_ok (cx : CxOk C c F n) {Q : MS → Prop} : ∀ (t : List Nat) (elts : List Expr) (xs : List MV) (vs : List Value) (m : MS) (s : Shared), chkNames c t elts = true → t.length = xs.length → RepL C ρ s.heap xs vs → Rel C F ρ m s → Q (setAll t xs m) →
    wpAny (mod C) A (assignInOrder ((assignEach elts F.env).map (·.2)) vs) (fun _ s' => ∃ m', Step F.W ρ s ρ s' ∧ Rel C F ρ m' s' ∧ Q m') E s
  | [], [], xs, vs, m, s, _, hl, hr, R, hq => by
    cases hr with
    | nil => exact wpAny_pure ⟨m, .refl _ _ _, R, hq⟩
    | cons => cases hl
  | [], _ :: _, _, _, _, _, h, _, _, _, _ => by simp [chkNames] at h
  | i :: t, [], _, _, _, _, h, _, _, _, _ => by simp [chkNames] at h
  | i :: t, e :: elts, xs, vs, m, s, h, hl, hr, R, hq => by
    cases e with
    | Name x p =>
      simp only [chkNames, Bool.and_eq_true, beq_iff_eq, Bool.not_eq_true', beq_eq_false_iff_ne] at h
      cases hr with
      | nil => cases hl
      | @cons x' v' xs' vs' ra rl =>
        refine wpAny_bind (wpAny_holding ?_)
        refine PyProof.Rows.assign_Name (store_var cx R h.1.1 h.1.2 ra fun s₁ st R₁ => ?_)
        refine wpAny_mono (names_ok cx t elts xs' vs' _ s₁ h.2 (by simpa using hl) (rl.step st) R₁ hq) (fun _ s₂ ⟨m', st2, R₂, q⟩ => ⟨m', st.trans st2, R₂, q⟩) fun _ _ x => x
    | _ => simp [chkNames] at h

theorem assignEach_len (env : Env) : ∀ (t : List Nat) (elts : List Expr), chkNames c t elts = true → (assignEach elts env).length = t.length ∧ (assignEach elts env).findIdx? (·.1) = none
  | [], [], _ => ⟨rfl, rfl⟩
  | [], _ :: _, h => by simp [chkNames] at h
  | i :: t, [], h => by simp [chkNames] at h
  | i :: t, e :: elts, h => by
    cases e with
    | Name x p =>
      simp only [chkNames, Bool.and_eq_true] at h
      obtain ⟨h1, h2⟩ := assignEach_len env t elts h.2
      constructor
      · show (assignEach elts env).length + 1 = _
        rw [h1]; rfl
      · show List.findIdx? (·.1) ((false, _) :: assignEach elts env) = none
        rw [List.findIdx?_cons]; simp [h2]
    | _ => simp [chkNames] at h

theorem assign_ok (cx : CxOk C c F n) {Q : MS → Prop} {t : List Nat} {many : Bool} {e : Expr} (h : chkT c t many e = true) {x : MV} {v : Value} (hr : Rep C ρ s.heap x v) (R : Rel C F ρ m s) (hq : asg t many x Q m) (hA : A.handled = none) :
    wpAny (mod C) A (assign e F.env v) (fun _ s' => ∃ m', Step F.W ρ s ρ s' ∧ Rel C F ρ m' s' ∧ Q m') E s := by
  unfold chkT at h
  split at h
  · split at h
    · simp only [Bool.and_eq_true, beq_iff_eq, Bool.not_eq_true', beq_eq_false_iff_ne] at h
      refine PyProof.Rows.assign_Name (store_var cx R h.1 h.2 hr fun s₁ st R₁ => ⟨_, st, R₁, hq⟩)
    · cases h
  · unfold asg at hq
    split at hq
    · rename_i q; cases q
    · cases hr with | @tup a k _ items g rl z =>
      obtain ⟨e1, e2⟩ := assignEach_len F.env _ _ h
      refine wpAny_assign_Tuple hA ⟨_, g, rfl, _, rfl⟩ (by rw [e1, hq.1, List.size_toArray, rl.length]) e2 fun h' he => ?_
      have hk : ∀ b o, s.heap.get? b = some o → h'.get? b = some o := fun b o eb => he b o (fun q => by rw [q, fresh_at (Nat.le_refl _)] at eb; cases eb) eb
      obtain ⟨R', st⟩ := R.grow (s' := { s with heap := h' }) cx.fm hk rfl rfl
      exact wpAny_mono (names_ok cx _ _ _ _ m { s with heap := h' } h hq.1 (rl.step st) R' hq.2) (fun _ s₂ ⟨m', st2, R₂, q⟩ => ⟨m', st.trans st2, R₂, q⟩) fun _ _ x => x
    · exact hq.elim
  · cases h

inductive FlR (C : Glo) (ρ : List Addr) (h : Heap) : Fl → Flow → Prop
  | next : FlR C ρ h .next .next
  | brk : FlR C ρ h .brk .brk
  | cont : FlR C ρ h .cont .cont
  | ret {x v} : Rep C ρ h x v → FlR C ρ h (.ret x) (.ret v)

noncomputable def OutF (C : Glo) (F : Fm) (ρ : List Addr) (s : Shared) (Q : Fl → MS → Prop) : Flow → Shared → Prop :=
  fun f s' => ∃ ρ' m' fl, Step F.W ρ s ρ' s' ∧ Rel C F ρ' m' s' ∧ FlR C ρ' s'.heap fl f ∧ Q fl m'
theorem OutF.back {Q : Fl → MS → Prop} (st : Step F.W ρ₀ s₀ ρ s) : ∀ f s', OutF C F ρ s Q f s' → OutF C F ρ₀ s₀ Q f s' :=
  fun _ _ ⟨ρ', m', x, a, b⟩ => ⟨ρ', m', x, st.trans a, b⟩
noncomputable def WPs (C : Glo) (F : Fm) (X : XM) (t : Sem Flow) (Q : Fl → MS → Prop) (m : MS) : Prop :=
  ∀ s ρ, Rel C F ρ m s → wpAny (mod C) F.A t (OutF C F ρ s Q) (Er C F X ρ s) s

theorem Er.no {e : Value} {P : Prop} (h : Er C F X ρ s e s') : P := False.elim h

theorem for_ok (cx : CxOk C c F n) {target : Expr} {itv : Value} {items : List MV} {g : Option (Nat × List MV)} {S : List Addr} {It : Nat → List Addr → Shared → Prop} (wk : Walk C F target itv items g S It)
    {st : MV → (Fl → MS → Prop) → MS → Prop} {Q : Fl → MS → Prop} {body : List Stmt} (hS : ∀ a ∈ S, s₀.heap.get? a = none)
    (hb : ∀ x v ρ m s (P : Fl → MS → Prop) (E : Value → Shared → Prop), Rel C F ρ m s → Rep C ρ s.heap x v → st x P m → wpAny (mod C) F.A (assign target F.env v) (fun _ s₁ => wpAny (mod C) F.A (execs body F.env) (OutF C F ρ s P) E s₁) E s)
    (st₀ : Step F.W ρ₀ s₀ ρ s) (R : Rel C F ρ m s) (h0 : It 0 ρ s) (h : forL g st Q items m) (P : Value → Shared → Prop) :
    codeAny (mod C) F.A (.forLoop target itv body [] F.env) (fun r s' => match r with | .ok f => OutF C F ρ₀ s₀ Q f s' | .error e => P e s') s := by
  refine codeAny_forLoop_any (fun k s => ∃ ρ m i, k = items.length - i ∧ Step F.W ρ₀ s₀ ρ s ∧ Rel C F ρ m s ∧ It i ρ s ∧ forL g st Q (items.drop i) m) (fun k s hI => ?_) _ ⟨ρ, m, 0, rfl, st₀, R, h0, by simpa using h⟩
  obtain ⟨ρ, m, i, rfl, st₁, R, hit, hf⟩ := hI
  cases e : items[i]? with
  | none =>
    have : items.drop i = [] := by rw [List.drop_eq_nil_iff]; exact List.getElem?_eq_none_iff.mp e
    rw [this, forL_nil] at hf
    obtain ⟨hg, hq⟩ := hf
    refine wpAny_mono (wk.done i ρ m s R hg hit e (fun _ _ => False) (fun s₂ => Side S s s₂) fun s₂ sd => sd) (fun r s₁ ⟨hr, sd⟩ => ?_) fun _ _ x => x.elim
    subst hr
    exact wpAny_execs_nil ⟨ρ, m, .next, st₁.side sd hS, R.side cx.fm (wk.aside _ _ _ hit) sd, .next, hq⟩
  | some x =>
    obtain ⟨hlt, hx⟩ := List.getElem?_eq_some_iff.mp e
    rw [List.drop_eq_getElem_cons hlt, hx, forL_cons] at hf
    obtain ⟨hg, hq⟩ := hf
    refine wk.item i ρ m s x R hg hit e _ _ _ fun v s₂ sd hit' rv => ?_
    have R₂ := R.side cx.fm (wk.aside _ _ _ hit) sd
    have st₂ := st₁.side sd hS
    refine wpAny_mono (hb x v ρ m s₂ _ _ R₂ rv hq) (fun _ s₃ h₃ => wpAny_mono h₃ (fun f s₄ h₄ => ?_) fun _ _ x => x) fun _ _ x => x
    obtain ⟨ρ₄, m₄, fl, st₄, R₄, hfl, hq₄⟩ := h₄
    have hit₄ := wk.keep _ _ _ _ _ hit' st₄
    cases hfl with
    | next => exact ⟨_, by omega, ρ₄, m₄, i + 1, rfl, st₂.trans st₄, R₄, hit₄, hq₄⟩
    | cont => exact ⟨_, by omega, ρ₄, m₄, i + 1, rfl, st₂.trans st₄, R₄, hit₄, hq₄⟩
    | brk => exact ⟨ρ₄, m₄, .next, st₂.trans st₄, R₄, .next, hq₄⟩
    | ret rv => exact ⟨ρ₄, m₄, .ret _, st₂.trans st₄, R₄, .ret rv, hq₄⟩

theorem dset_stored : ∀ {es : List (List Nat × MV)} {kvs : List (Str × Value)} {h : Heap}, RepK C ρ h es kvs → (kvs.map (·.1)).Nodup → ∀ {k : List Nat} {x : MV} {v : Value}, Rep C ρ h x v → RepK C ρ h (dset es k x) (stored kvs (str k) v)
  | _, _, _, .nil, _, k, x, v, r => by
    simp only [dset, stored]
    exact .cons r .nil
  | _, _, _, @RepK.cons _ _ _ k' x' v' es ds a b, hn, k, x, v, r => by
    simp only [List.map_cons, List.nodup_cons] at hn
    unfold dset
    by_cases e : k' = k
    · subst e
      simp only [beq_self_eq_true]
      have e1 : stored ((str k', v') :: ds) (str k') v = (str k', v) :: ds := by
        unfold stored
        rw [if_pos (by simp)]
        simp only [List.map_cons, if_true]
        congr 1
        conv => rhs; rw [← List.map_id ds]
        refine List.map_congr_left fun p hp => ?_
        rw [if_neg (fun q => hn.1 (by rw [← q]; exact List.mem_map.mpr ⟨p, hp, rfl⟩))]; rfl
      rw [e1]
      exact .cons r b
    · have e2 : ¬ str k' = str k := fun q => e (str_inj q)
      have e1 : (k' == k) = false := by simpa using e
      simp only [e1]
      have e3 : stored ((str k', v') :: ds) (str k) v = (str k', v') :: stored ds (str k) v := by
        unfold stored
        simp only [List.any_cons, e2, decide_false, Bool.false_or, List.map_cons, if_false]
        split <;> rfl
      rw [e3]
      exact .cons a (dset_stored b hn.2 r)
theorem dset_len : ∀ (es : List (List Nat × MV)) (k : List Nat) (x : MV), (dset es k x).length ≤ es.length + 1
  | [], _, _ => Nat.le_refl _
  | (k', x') :: r, k, x => by
    unfold dset
    split
    · simp
    · have := dset_len r k x; simp only [List.length_cons]; omega

mutual
theorem soundS (G : GOk C) (cx : CxOk C c F n) : ∀ (me : MSt) (e : Stmt), chkS c me e = true → ∀ (Q : Fl → MS → Prop) (m : MS), wpS (Call C) n me Q X m → WPs C F X (exec e F.env) Q m
  | .asg t many e, st, hc, Q, m, h => by
    unfold wpS at h
    unfold chkS at hc
    split at hc
    · rename_i tg v pos
      simp only [Bool.and_eq_true, Bool.not_eq_true', Bool.or_eq_true] at hc
      obtain ⟨⟨⟨ht, hcomp⟩, hm⟩, he⟩ := hc
      intro s ρ R
      cases many with
      | false =>
        unfold chkT at ht
        split at ht
        · rename_i x px _
          split at ht
          · rename_i i
            simp only [Bool.and_eq_true, beq_iff_eq, Bool.not_eq_true', beq_eq_false_iff_ne] at ht
            refine wpAny_Assign_Name ((soundE G cx e v he _ m h).go R (.refl _ _ _) fun ρ₁ s₁ m₁ y w st t1 R₁ rx h₁ => ?_) (swaps_no hcomp _ _ _)
            exact store_var cx R₁ ht.1 ht.2 rx fun s₂ st2 R₂ => ⟨ρ₁, _, .next, t1.trans st2, R₂, .next, h₁⟩
          · cases ht
        · rename_i q; cases q
        · cases ht
      | true =>
        obtain ⟨elts, k, p, rfl⟩ := chkT_many ht
        have hm' : isTupE v = false := by rcases hm with hm | hm <;> first | cases hm | exact hm
        refine PyProof.Rows.Assign_Tuple ((soundE G cx e v he _ m h).go R (.refl _ _ _) fun ρ₁ s₁ m₁ y w st t1 R₁ rx h₁ => ?_) (by show swapsWith v (some (.Tuple elts k p)) pos.line F.env = _; exact swaps_no hcomp _ _ _) (swapped_no hm' _)
        exact wpAny_mono (assign_ok cx ht rx R₁ h₁ cx.fm.hn) (fun _ s₂ ⟨m', st2, R₂, q⟩ => ⟨ρ₁, m', .next, t1.trans st2, R₂, .next, q⟩) fun _ _ x => x
    · cases hc
  | .setAttr _ _ _, st, hc, Q, m, h => by unfold chkS at hc; cases hc
  | .setIdx o i e, st, hc, Q, m, h => by
    unfold wpS at h
    unfold chkS at hc
    split at hc
    · rename_i ov iv p v pos
      simp only [Bool.and_eq_true, Bool.not_eq_true'] at hc
      obtain ⟨⟨⟨hcomp, he⟩, ho⟩, hi⟩ := hc
      intro s ρ R
      refine wpAny_Assign_Subscript ((soundE G cx e v he _ m h).go R (.refl _ _ _) fun ρ₁ s₁ m₁ x xv st t1 R₁ rx h₁ => ?_) (swaps_no hcomp _ _ _)
      refine (soundE G cx o ov ho _ m₁ h₁).go R₁ t1 fun ρ₂ s₂ m₂ y yv st2 t2 R₂ ry h₂ => ?_
      refine (soundE G cx i iv hi _ m₂ h₂).go R₂ t2 fun ρ₃ s₃ m₃ z zv st3 t3 R₃ rz h₃ => ?_
      split at h₃
      · rename_i r k
        split at h₃
        · rename_i es hes
          obtain ⟨hlen, hq⟩ := h₃
          have ry' := ry.step st3
          have rx' := (rx.step st2).step st3
          cases ry' with | @ref _ a g =>
          cases rz with | str _ t z =>
          obtain ⟨kvs, dk, rk, zz⟩ := R₃.hp.objs _ _ _ hes g
          refine wpAny_setItem_pairs (knd := strKind C.prog C.w) (k := str k) (strKind_is _ _ _ _) dk (fun h' hd hs => ?_) (by rw [rk.length]; exact Nat.le_of_lt hlen)
          have hk : ∀ b ob, b ≠ a → s₃.heap.get? b = some ob → h'.get? b = some ob := fun b ob q e => (hs.2 b q).trans e
          have hsol : Solids s₃.heap h' := solids_but hk (repO_not_solid (R₃.hp.objs _ _ _ hes g))
          have hnd : (kvs.map (·.1)).Nodup := by obtain ⟨_, _, _, _, _, _, _, _, hn⟩ := dk; exact hn
          obtain ⟨R₄, st₄⟩ := R₃.put (s' := { s₃ with heap := h', toks := s₃.toks + 1 }) cx.fm g hes (o := .dict (dset es k x)) hk rfl rfl
            ⟨_, hd, (dset_stored rk hnd rx').up hsol (List.prefix_refl _), by have := dset_len es k x; omega⟩
          exact ⟨_, _, .next, t3.trans st₄, R₄, .next, hq⟩
        · exact h₃.elim
      · exact h₃.elim
    · cases hc
  | .expr e, st, hc, Q, m, h => by
    unfold wpS at h
    unfold chkS at hc
    split at hc
    · simp only [Bool.and_eq_true, Bool.not_eq_true'] at hc
      intro s ρ R
      refine wpAny_Expr ((soundE G cx e _ hc.2 _ m h).go R (.refl _ _ _) fun ρ₁ s₁ m₁ y w st t1 R₁ rx h₁ => ?_) cx.inter (swaps_no hc.1 _ _ _)
      cases rx with
      | none => exact ⟨_, _, .next, t1, R₁, .next, h₁⟩
      | bool => exact ⟨_, _, .next, t1, R₁, .next, h₁⟩
      | int => exact ⟨_, _, .next, t1, R₁, .next, h₁⟩
      | str => exact ⟨_, _, .next, t1, R₁, .next, h₁⟩
      | _ => exact h₁.elim
    · cases hc
  | .ite d a b, st, hc, Q, m, h => by
    unfold wpS at h
    unfold chkS at hc
    split at hc
    · simp only [Bool.and_eq_true] at hc
      obtain ⟨⟨hd, ha⟩, hb⟩ := hc
      intro s ρ R
      refine wpAny_If ((soundC G cx d _ hd _ m h).go R (.refl _ _ _) fun ρ₁ s₁ m₁ t st t1 R₁ h₁ => ?_)
      cases t with
      | true => exact wpAny_mono (soundSs G cx a _ ha Q m₁ h₁ s₁ ρ₁ R₁) (OutF.back t1) (Er.back t1)
      | false => exact wpAny_mono (soundSs G cx b _ hb Q m₁ h₁ s₁ ρ₁ R₁) (OutF.back t1) (Er.back t1)
    · cases hc
  | .for_ t many k src body, st, hc, Q, m, h => by
    unfold wpS at h
    unfold chkS at hc
    split at hc
    · rename_i tg it b pos
      simp only [Bool.and_eq_true] at hc
      obtain ⟨⟨⟨⟨ht, hm⟩, hx⟩, hi⟩, hb⟩ := hc
      intro s ρ R
      refine wpAny_For (wpAny_mono (soundIt G cx hi ht (fun e => by subst e; exact hm) (P := fun items g m => forL g (fun v P m => asg t many v (fun m => wpSs (Call C) n body P X m) m) Q items m) h R) (fun xv s₁ h₁ => wpAny_mono h₁ (fun itv s₂ h₂ => ?_) fun _ _ x => x) fun _ _ x => x) (okX_folded hx _)
      obtain ⟨ρ₂, m₂, items, g, S, It, st₂, R₂, wk, h0, hS, hf⟩ := h₂
      refine for_ok cx wk hS (fun x v ρ m s P E R rv hst => ?_) st₂ R₂ h0 hf _
      refine wpAny_mono (assign_ok cx ht rv R hst cx.fm.hn) (fun _ s₁ ⟨m', st1, R₁, q⟩ => ?_) fun _ _ x => x
      exact wpAny_mono (soundSs G cx body b hb P m' q s₁ ρ R₁) (OutF.back st1) fun _ _ x => Er.no x
    · cases hc
  | .while_ d body, st, hc, Q, m, h => by
    unfold wpS at h
    unfold chkS at hc
    split at hc
    · rename_i test b pos
      simp only [Bool.and_eq_true] at hc
      obtain ⟨hd, hb⟩ := hc
      obtain ⟨k, h⟩ := h
      intro s ρ R
      refine wpAny_While (codeAny_whileLoop (fun k s₁ => ∃ ρ₁ m₁, Step F.W ρ s ρ₁ s₁ ∧ Rel C F ρ₁ m₁ s₁ ∧ whileN (fun P m => wpE (Call C) n d (ofBool P) X m) (fun P m => wpSs (Call C) n body P X m) Q k m₁) (fun k s₁ hI => ?_) k ⟨ρ, m, .refl _ _ _, R, h⟩)
      obtain ⟨ρ₁, m₁, st₁, R₁, hw⟩ := hI
      cases k with
      | zero => rw [whileN_zero] at hw; exact hw.elim
      | succ k =>
        rw [whileN_succ] at hw
        refine wpAny_mono (soundC G cx d test hd _ m₁ hw s₁ ρ₁ R₁) (fun t s₂ ⟨ρ₂, m₂, st₂, R₂, h₂⟩ => ?_) fun _ _ x => Er.no x
        cases t with
        | true =>
          rw [if_pos rfl]
          refine wpAny_mono (soundSs G cx body b hb _ m₂ h₂ s₂ ρ₂ R₂) (fun f s₃ ⟨ρ₃, m₃, fl, st₃, R₃, hfl, h₃⟩ => ?_) fun _ _ x => Er.no x
          have stt := (st₁.trans st₂).trans st₃
          cases hfl with
          | next => exact ⟨k, Nat.lt_succ_self k, ρ₃, m₃, stt, R₃, h₃⟩
          | cont => exact ⟨k, Nat.lt_succ_self k, ρ₃, m₃, stt, R₃, h₃⟩
          | brk => exact ⟨ρ₃, m₃, .next, stt, R₃, .next, h₃⟩
          | ret rv => exact ⟨ρ₃, m₃, .ret _, stt, R₃, .ret rv, h₃⟩
        | false =>
          rw [if_neg (by decide)]
          exact wpAny_execs_nil ⟨ρ₂, m₂, .next, st₁.trans st₂, R₂, .next, h₂⟩
    · cases hc
  | .ret e, st, hc, Q, m, h => by
    unfold wpS at h
    unfold chkS at hc
    split at hc
    · intro s ρ R
      exact wpAny_Return_some ((soundE G cx e _ hc _ m h).go R (.refl _ _ _) fun ρ₁ s₁ m₁ y w st t1 R₁ rx h₁ => ⟨_, _, _, t1, R₁, .ret rx, h₁⟩)
    · cases hc
  | .cont, st, hc, Q, m, h => by
    unfold wpS at h
    unfold chkS at hc
    split at hc
    · intro s ρ R
      exact wpAny_Continue ⟨_, _, _, .refl _ _ _, R, .cont, h⟩
    · cases hc
  | .raise _, st, hc, Q, m, h => by unfold chkS at hc; cases hc
  | .try_ _ _ _ _, st, hc, Q, m, h => by unfold chkS at hc; cases hc
theorem soundSs (G : GOk C) (cx : CxOk C c F n) : ∀ (ss : List MSt) (es : List Stmt), chkSs c ss es = true → ∀ (Q : Fl → MS → Prop) (m : MS), wpSs (Call C) n ss Q X m → WPs C F X (execs es F.env) Q m
  | [], es, hc, Q, m, h => by
    unfold wpSs at h
    unfold chkSs at hc
    cases es with
    | nil => intro s ρ R; exact wpAny_execs_nil ⟨_, _, _, .refl _ _ _, R, .next, h⟩
    | cons => cases hc
  | x :: ss, es, hc, Q, m, h => by
    unfold wpSs at h
    unfold chkSs at hc
    split at hc
    · cases hc
    · rename_i e es
      simp only [Bool.and_eq_true] at hc
      intro s ρ R
      refine wpAny_execs_cons (wpAny_mono (soundS G cx x e hc.1 _ m h s ρ R) (fun f s₁ ⟨ρ₁, m₁, fl, st, R₁, hfl, h₁⟩ => ?_) fun _ _ x => x)
      cases hfl with
      | next => exact wpAny_mono (soundSs G cx ss es hc.2 Q m₁ h₁ s₁ ρ₁ R₁) (OutF.back st) (Er.back st)
      | brk => exact ⟨_, _, _, st, R₁, .brk, h₁⟩
      | cont => exact ⟨_, _, _, st, R₁, .cont, h₁⟩
      | ret rv => exact ⟨_, _, _, st, R₁, .ret rv, h₁⟩
end
end
end Mine
end
section
set_option autoImplicit false
set_option linter.unusedVariables false
namespace Mine
open PySem PyProof.Rows

noncomputable def mkCx (sc : Scope) (ns : List Str) (fn : Nat → Option Str) (gl : Nat → Option (Str × MV)) : Cx := ⟨fun x => sc.names.lookup x, fun i => ns[i]?, fn, gl⟩

/-- the globals as the functions see them -/
noncomputable def Globs (C : Glo) (g b : Addr) (fn : Nat → Option Str) (gl : Nat → Option (Str × MV)) : Prop :=
  ∃ mg mb, C.base.Ns g mg ∧ C.base.Ns b mb ∧ (∀ f x, fn f = some x → ∃ a, C.fa f = some a ∧ mg x = some (.ref a)) ∧
    (∀ g x v, gl g = some (x, v) → ∃ w, mg x = some w ∧ ∀ ρ h, C.base.StaysIn h → Rep C ρ h v w) ∧ (∀ x v, (x, v) ∈ bltNames → mg x = none ∧ mb x = some v)

/-- a function's names -/
noncomputable def namesOk (sc : Scope) (ps ns : List Str) : Bool :=
  ps.isPrefixOf ns && decide ns.Nodup && ns.all (fun x => sc.names.lookup x == some .local || (sc.names.lookup x == some .cell && ((cellsFrom 0 sc.names []).lookup x).isSome))

structure FnIs (C : Glo) (fn : Nat → Option Str) (gl : Nat → Option (Str × MV)) (d : Fn) (a : Addr) : Prop where
  is : ∃ o fd body ps ns, C.base.get? a = some o ∧ o.data = .func fd ∧ C.base.CodeRec fd.code fd.qualname ∧ fd.body = .stmts body ∧ fd.closure = [] ∧ fd.scope.isCoroutine = false ∧ fd.scope.isGenerator = false ∧
    fd.scope.kind = .function ∧ (∀ vals : List Value, vals.length = ps.length → bindArgs fd ⟨vals, []⟩ = pure (ps.zip vals)) ∧ ps.length = d.args ∧ namesOk fd.scope ps ns = true ∧
    chkSs (mkCx fd.scope ns fn gl) d.body body = true ∧ Globs C fd.globals fd.builtins fn gl

noncomputable def FnsOk (C : Glo) (fn : Nat → Option Str) (gl : Nat → Option (Str × MV)) (P : Nat → Option Fn) : Prop := ∀ f d a, P f = some d → C.fa f = some a → FnIs C fn gl d a

theorem cellsFrom_some : ∀ (names : List (Str × NameKind)) (n k : Nat) (acc acc' : List (Str × Addr)) (x : Str), (∀ y, (acc.lookup y).isSome = (acc'.lookup y).isSome) → ((cellsFrom n names acc).lookup x).isSome = ((cellsFrom k names acc').lookup x).isSome
  | [], n, k, acc, acc', x, h => h x
  | (y, kd) :: r, n, k, acc, acc', x, h => by
    unfold cellsFrom
    split
    · refine cellsFrom_some r _ _ _ _ x fun z => ?_
      simp only [List.lookup_cons]
      split
      · rfl
      · exact h z
    · exact cellsFrom_some r _ _ _ _ x h

section
variable {C : Glo} {ρ : List Addr} {h : Heap}

theorem zip_get {ps : List Str} {ws : List Value} (hl : ws.length = ps.length) {i : Nat} {x : Str} {w : Value} (e1 : ps[i]? = some x) (e2 : ws[i]? = some w) : (ps.zip ws)[i]? = some (x, w) := by
  rw [List.getElem?_zip_eq_some]; exact ⟨e1, e2⟩

theorem bindL_other (k : Str → Option NameKind) : ∀ (l : List (Str × Value)) (m : Str → Option Value) (x : Str), (∀ p ∈ l, p.1 ≠ x) → bindL k l m x = m x
  | [], m, x, _ => rfl
  | (n, v) :: r, m, x, h => by
    unfold bindL
    rw [bindL_other k r _ x fun p hp => h p (List.mem_cons_of_mem _ hp)]
    have : n ≠ x := h _ (List.mem_cons_self ..)
    split
    · exact if_neg fun q : x = n => this q.symm
    · rfl
theorem bindC_other (k : Str → Option NameKind) : ∀ (l : List (Str × Value)) (m : Str → Option Value) (x : Str), (∀ p ∈ l, p.1 ≠ x) → bindC k l m x = m x
  | [], m, x, _ => rfl
  | (n, v) :: r, m, x, h => by
    unfold bindC
    rw [bindC_other k r _ x fun p hp => h p (List.mem_cons_of_mem _ hp)]
    have : n ≠ x := h _ (List.mem_cons_self ..)
    split
    · rfl
    · exact if_neg fun q : x = n => this q.symm
theorem bindL_get (k : Str → Option NameKind) : ∀ (l : List (Str × Value)) (m : Str → Option Value) (x : Str) (w : Value), (l.map (·.1)).Nodup → (x, w) ∈ l → k x = some .local → bindL k l m x = some w
  | (n, v) :: r, m, x, w, hn, hm, hk => by
    simp only [List.map_cons, List.nodup_cons] at hn
    unfold bindL
    rcases List.mem_cons.mp hm with e | hm
    · cases e
      rw [bindL_other k r _ _ fun p hp q => hn.1 (List.mem_map.mpr ⟨p, hp, q⟩), if_pos hk]; simp
    · exact bindL_get k r _ x w hn.2 hm hk
theorem bindC_get (k : Str → Option NameKind) : ∀ (l : List (Str × Value)) (m : Str → Option Value) (x : Str) (w : Value), (l.map (·.1)).Nodup → (x, w) ∈ l → k x ≠ some .local → bindC k l m x = some w
  | (n, v) :: r, m, x, w, hn, hm, hk => by
    simp only [List.map_cons, List.nodup_cons] at hn
    unfold bindC
    rcases List.mem_cons.mp hm with e | hm
    · cases e
      rw [bindC_other k r _ _ fun p hp q => hn.1 (List.mem_map.mpr ⟨p, hp, q⟩), if_neg hk]; simp
    · exact bindC_get k r _ x w hn.2 hm hk

theorem start_get {d : Fn} {vs : List MV} {hp : List MO} {i : Nat} {v : MV} (e : (start d vs hp).get i = some v) : vs[i]? = some v := by
  unfold start MS.get at e
  simp only at e
  split at e
  · rename_i w hw
    cases e
    rcases Nat.lt_or_ge i (vs.map some).length with hi | hi
    · rw [List.getElem?_append_left hi, List.getElem?_map] at hw
      cases q : vs[i]? with
      | none => rw [q] at hw; cases hw
      | some u => rw [q] at hw; cases hw; rfl
    · rw [List.getElem?_append_right hi, List.getElem?_replicate] at hw
      split at hw <;> cases hw
  · cases e

/-- a callee's frame -/
noncomputable def inFm (A : Around) (env : Env) (ns : List Str) : Fm where
  env := env
  A := A.deeper env
  W := env.locals :: ns.filterMap (fun x => if env.kindOf x = some .local then none else env.cells.lookup x)
  lay := fun i => match ns[i]? with
    | some x => if env.kindOf x = some .local then some (.nm env.locals x) else match env.cells.lookup x with
      | some c => some (.cl c)
      | none => none
    | none => none
  outer := []

theorem call_core (G : GOk C) {fn : Nat → Option Str} {gl : Nat → Option (Str × MV)} {P : Nat → Option Fn} (H : FnsOk C fn gl P) {n f : Nat} {vs : List MV} {Q : MV → List MO → Prop} {X : XT} {hp : List MO} {d : Fn} (hP : P f = some d) (hlen : vs.length = d.args)
    (hw : wpSs (Call C) n d.body (fin Q) (fun c m => X c m.heap) (start d vs hp)) {A : Around} {s : Shared} {ws : List Value} {a : Addr} (hA : A.handled = none) (hH : Hp C ρ hp s.heap) (hgens : s.gens = #[]) (rl : RepL C ρ s.heap vs ws)
    (hroom : A.depth + (n + 1) ≤ 999) (hunits : A.units ≤ 3 * A.depth + 4) (hfa : C.fa f = some a) {E : Value → Shared → Prop} :
    wpAny (mod C) A (call (.ref a) ws) (fun v s' => ∃ ρ' hp' x, Step [] ρ s ρ' s' ∧ Hp C ρ' hp' s'.heap ∧ Rep C ρ' s'.heap x v ∧ Q x hp') E s := by
  obtain ⟨o, fd, body, ps, ns, ho, hd, hcd, hbody, hclo, hco, hgen, hk, hbind, hps, hns, hchk, hgl⟩ := (H f d a hP hfa).is
  simp only [namesOk, Bool.and_eq_true, decide_eq_true_eq, List.all_eq_true, Bool.or_eq_true, beq_iff_eq] at hns
  obtain ⟨⟨hpre, hnd⟩, hall⟩ := hns
  have hpre : ps <+: ns := List.isPrefixOf_iff_prefix.mp hpre
  have hwl : ws.length = ps.length := by rw [rl.length, hlen, hps]
  have hmem : ∀ x ∈ ps, x ∈ ns := fun x hx => hpre.subset hx
  have hcellS : ∀ k x, ((cellsFrom k fd.scope.names []).lookup x).isSome = ((cellsFrom 0 fd.scope.names []).lookup x).isSome := fun k x => cellsFrom_some _ _ _ _ _ _ fun _ => rfl
  have hzip : ∀ p ∈ ps.zip ws, p.1 ∈ ps := fun p hp => (List.of_mem_zip (a := p.1) (b := p.2) hp).1
  have hzn : ((ps.zip ws).map (·.1)).Nodup := by
    rw [List.map_fst_zip (by omega)]
    exact hnd.sublist hpre.sublist
  refine wpAny_call (codeAny_call_cells (by show _ < 1000; omega) (hH.base _ _ ho) hd (G.nolimit.keeps hH.base) (hcd.keeps hH.base) hbody (hbind ws hwl) hclo (fun x hx => ?_) (fun s₁ ic => ?_) hco hgen hk)
  · rcases hall _ (hmem _ (hzip x hx)) with q | ⟨q, q'⟩
    · exact .inl q
    · exact .inr ⟨q, by rw [hcellS]; exact q'⟩
  · generalize henv : callEnvC fd s.heap.objs.size a = env at ic ⊢
    have eL : env.locals = s.heap.objs.size := by rw [← henv]; rfl
    have eK : ∀ x, env.kindOf x = fd.scope.names.lookup x := fun x => by rw [← henv]; rfl
    have eC : env.cells = cellsFrom (s.heap.objs.size + 1) fd.scope.names [] := by rw [← henv]; rfl
    have eS : env.scope = fd.scope := by rw [← henv]; rfl
    have eG : env.globals = fd.globals ∧ env.builtins = fd.builtins := by rw [← henv]; exact ⟨rfl, rfl⟩
    obtain ⟨⟨⟨h₁, tk, hs₁⟩, hns1, hkeep, hfresh⟩, hcell, hapart, habove⟩ := ic
    have fL : s.heap.get? env.locals = none := fresh_at hfresh
    have hcl : ∀ x c, env.cells.lookup x = some c → s₁.heap.IsCell c (bindC env.kindOf (ps.zip ws) (fun _ => none) x) ∧ s.heap.get? c = none := fun x c e => by
      refine ⟨hcell x c e, fresh_at ?_⟩
      have := habove x c (mem_of_lookup e)
      exact Nat.le_of_lt (Nat.lt_of_le_of_lt hfresh this)
    have hg1 : s₁.gens = s.gens ∧ s₁.os = s.os := by rw [hs₁]; exact ⟨rfl, rfl⟩
    have hW : ∀ b ∈ (inFm A env ns).W, s.heap.get? b = none ∧ WOk s₁.heap b := fun b hb => by
      rcases List.mem_cons.mp hb with rfl | hb
      · obtain ⟨o, es, ep, e1, e2, _⟩ := hns1
        exact ⟨fL, o, e1, .inl ⟨es, ep, e2⟩⟩
      · obtain ⟨x, hx, e⟩ := List.mem_filterMap.mp hb
        split at e
        · cases e
        · obtain ⟨⟨o, e1, e2⟩, e3⟩ := hcl x b e
          exact ⟨e3, o, e1, .inr ⟨_, e2⟩⟩
    have hlay : ∀ i l, (inFm A env ns).lay i = some l → ∃ x, ns[i]? = some x ∧ ((env.kindOf x = some .local ∧ l = .nm env.locals x) ∨ (env.kindOf x ≠ some .local ∧ ∃ c, env.cells.lookup x = some c ∧ l = .cl c)) := fun i l e => by
      simp only [inFm] at e
      split at e
      · rename_i x hx
        refine ⟨x, hx, ?_⟩
        split at e
        · rename_i q; cases e; exact .inl ⟨q, rfl⟩
        · rename_i q
          split at e
          · rename_i c hc; cases e; exact .inr ⟨q, c, hc, rfl⟩
          · cases e
      · cases e
    have hidx : ∀ (i j : Nat) (x : Str), ns[i]? = some x → ns[j]? = some x → i = j := fun i j x e1 e2 => by
      have h1 := List.getElem?_eq_some_iff.mp e1
      have h2 := List.getElem?_eq_some_iff.mp e2
      exact (List.getElem_inj hnd).mp (h1.2.trans h2.2.symm)
    have ok' : FmOk (inFm A env ns) := by
      refine ⟨List.mem_cons_self .., fun i l e => ?_, fun i j l e1 e2 => ?_, ?_, hA⟩
      · obtain ⟨x, hx, ⟨q, rfl⟩ | ⟨q, c, hc, rfl⟩⟩ := hlay i l e
        · exact List.mem_cons_self ..
        · refine List.mem_cons_of_mem _ (List.mem_filterMap.mpr ⟨x, List.mem_of_getElem? hx, ?_⟩)
          rw [if_neg q]; exact hc
      · obtain ⟨x, hx, q1⟩ := hlay i l e1
        obtain ⟨y, hy, q2⟩ := hlay j l e2
        rcases q1 with ⟨_, rfl⟩ | ⟨_, c, hc, rfl⟩
        · rcases q2 with ⟨_, q⟩ | ⟨_, c', _, q⟩
          · cases q; exact hidx i j x hx hy
          · cases q
        · rcases q2 with ⟨_, q⟩ | ⟨_, c', hc', q⟩
          · cases q
          · cases q
            have := name_of_addr hapart (mem_of_lookup hc) (mem_of_lookup hc')
            subst this
            exact hidx i j x hx hy
      · show env.scope.kind = .function
        rw [eS]; exact hk
    have cx : CxOk C (mkCx fd.scope ns fn gl) (inFm A env ns) n := by
      refine ⟨ok', fun x => eK x, fun i x e => ?_, ?_, ?_, ?_, ?_⟩
      · have hx : ns[i]? = some x := e
        rcases hall x (List.mem_of_getElem? hx) with q | ⟨q, q'⟩
        · refine .inl ⟨(eK x).trans q, ?_⟩
          simp only [inFm, hx, eK, q, if_true]
        · have hne : fd.scope.names.lookup x ≠ some .local := by rw [q]; intro q; cases q
          rw [← hcellS (s.heap.objs.size + 1), ← eC] at q'
          obtain ⟨c, hc⟩ := Option.isSome_iff_exists.mp q'
          refine .inr ⟨c, .inl ((eK x).trans q), hc, ?_⟩
          simp only [inFm, hx, eK, q, hc]
          rfl
      · show Globs C env.globals env.builtins fn gl
        rw [eG.1, eG.2]; exact hgl
      · show A.units + 3 ≤ 3 * (A.depth + 1) + 4
        omega
      · show A.depth + 1 + n ≤ 999
        omega
      · show interactive env = false
        unfold interactive
        rw [eS, hk]; rfl
    have hk' : ∀ b ob, s.heap.get? b = some ob → s₁.heap.get? b = some ob := hkeep
    have hs0 : Solids s.heap s₁.heap := fun b ob e _ => hk' b ob e
    have R₁ : Rel C (inFm A env ns) ρ (start d vs hp) s₁ := by
      refine ⟨?_, ⟨_, hns1⟩, fun b hb => ?_, fun i v e => ?_, fun i c e => ?_, fun e he => (by cases he), hg1.1.trans hgens⟩
      · show Hp C ρ hp s₁.heap
        exact hH.up hs0 (fun b _ ob e => hk' b ob e) fun b ob e => hk' b ob (hH.base b ob e)
      · obtain ⟨h1, h2⟩ := hW b hb
        refine ⟨fun q => ?_, base_fresh (m := ⟨[], hp⟩) hH h1, h2⟩
        obtain ⟨o', e'⟩ := Hp.there (m := ⟨[], hp⟩) hH q
        rw [h1] at e'; cases e'
      · have hv := start_get e
        obtain ⟨w, hw1, hw2⟩ := rl.get hv
        have hi : i < ps.length := by rw [← hwl]; exact (List.getElem?_eq_some_iff.mp hw1).1
        have hpi : ps[i]? = some ps[i] := List.getElem?_eq_getElem hi
        have hni : ns[i]? = some ps[i] := by
          obtain ⟨t, rfl⟩ := hpre
          rw [List.getElem?_append_left hi]; exact hpi
        have hz : (ps[i], w) ∈ ps.zip ws := List.mem_of_getElem? (zip_get hwl hpi hw1)
        rcases cx.nm i ps[i] hni with ⟨q1, q2⟩ | ⟨c, q1, q2, q3⟩
        · refine ⟨_, q2, _, w, hns1, ?_, hw2.up hs0 (List.prefix_refl _)⟩
          exact bindL_get _ _ _ _ _ hzn hz q1
        · refine ⟨_, q3, w, ?_, hw2.up hs0 (List.prefix_refl _)⟩
          have := (hcl ps[i] c q2).1
          rw [bindC_get _ _ _ _ w hzn hz] at this
          · exact this
          · intro q
            have q1' : env.kindOf ps[i] = some .cell ∨ env.kindOf ps[i] = some .free ∧ cdc ps[i] = false := q1
            rw [q] at q1'
            rcases q1' with q1' | ⟨q1', _⟩ <;> cases q1'
      · obtain ⟨x, hx, ⟨q, q'⟩ | ⟨q, c', hc, q'⟩⟩ := hlay i _ e
        · cases q'
        · cases q'; exact ⟨_, (hcl x c hc).1⟩
    refine wpAny_mono (soundSs G cx d.body body hchk (fin Q) (start d vs hp) (X := fun c m => X c m.heap) hw s₁ ρ R₁) (fun fl s' hf => ?_) fun _ _ x => Er.no x
    obtain ⟨ρ', m', f', st, R', hfl, hq⟩ := hf
    have key : ∀ v x, Rep C ρ' s'.heap x v → Q x m'.heap → ∃ ρ' hp' x, Step [] ρ s ρ' s' ∧ Hp C ρ' hp' s'.heap ∧ Rep C ρ' s'.heap x v ∧ Q x hp' := fun v x rx hq => by
      have hnW : ∀ b ob, s.heap.get? b = some ob → b ∉ (inFm A env ns).W := fun b ob e q => by rw [(hW b q).1] at e; cases e
      have hnew : ∀ b ∈ ρ', b ∈ ρ ∨ s.heap.get? b = none := fun b hb => (st.new b hb).imp id fun q => by
        cases e : s.heap.get? b with
        | none => rfl
        | some ob => rw [hk' b ob e] at q; cases q
      exact ⟨ρ', m'.heap, x, ⟨st.pre, hnew, fun b ob e h1 _ => st.keep b ob (hk' b ob e) h1 (hnW b ob e), fun b ob e hsd => st.solid b ob (hk' b ob e) hsd, fun b ob e => st.alive b ob (hk' b ob e), st.gens.trans hg1.1, st.os.trans hg1.2⟩, R'.hp, rx, hq⟩
    cases hfl with
    | next => exact key .none .none .none hq
    | brk => exact hq.elim
    | cont => exact hq.elim
    | ret rv => exact key _ _ rv hq

theorem closed (G : GOk C) {fn : Nat → Option Str} {gl : Nat → Option (Str × MV)} {P : Nat → Option Fn} (H : FnsOk C fn gl P) : Closed P (Call C) := by
  intro n f vs Q X hp d hP hlen hw F m s ρ ws a okF hm R rl hroom hunits hfa
  refine wpAny_mono (call_core G H hP hlen hw okF.hn (by rw [← hm]; exact R.hp) R.gens rl hroom hunits hfa) (fun v s' ⟨ρ', hp', x, st, hH, rx, hq⟩ => ?_) fun _ _ x => x
  have hD : ∀ b ob, s.heap.get? b = some ob → b ∉ ρ → KeepD s.heap s'.heap b := fun b ob e hb ob' e' => by
    rw [e] at e'; cases e'
    rcases st.keep b ob e hb (by simp) with q | ⟨_, sl, q⟩
    · exact ⟨_, q, rfl, rfl⟩
    · exact ⟨_, q, rfl, rfl⟩
  refine ⟨ρ', ⟨m.vars, hp'⟩, x, ⟨st.pre, st.new, fun b ob e h1 _ => st.keep b ob e h1 (by simp), st.solid, st.alive, st.gens, st.os⟩, ?_, rx, rfl, hq⟩
  refine R.up okF st.solid st.pre hH st.new (fun b hb => ?_) (fun e he L hL => ?_) st.gens
  · obtain ⟨h1, _, ob, e, _⟩ := R.w b hb
    exact hD b ob e h1
  · obtain ⟨_, L', ob, _, _, g1, _, g3, _, g5, _⟩ := R.out e he
    rw [hL] at g1; cases g1
    exact hD L ob g5 g3
end
end Mine
end
section
set_option autoImplicit false
set_option linter.unusedVariables false
namespace Mine
open PySem PyProof.Rows

noncomputable abbrev Tab := List (Nat × Str × List Str × Fn)
noncomputable def fnOf (tab : Tab) (f : Nat) : Option Str := (tab.lookup f).map (·.1)
noncomputable def fnP (tab : Tab) (f : Nat) : Option Fn := (tab.lookup f).map (·.2.2)
noncomputable def mkFa (fn : Nat → Option Str) (mg : Str → Option Value) (f : Nat) : Option Addr := match fn f with
  | some x => match mg x with
    | some (.ref a) => some a
    | _ => none
  | none => none

noncomputable def chkRec (fn : Nat → Option Str) (gl : Nat → Option (Str × MV)) (ns : List Str) (d : Fn) (r : DefRec) : Bool :=
  r.params.posonlyargs.isEmpty && r.params.vararg.isNone && r.params.kwonlyargs.isEmpty && r.params.kwarg.isNone && !r.scope.isCoroutine && !r.scope.isGenerator && r.scope.kind == .function &&
  (r.params.args.map (·.arg)).length == d.args && namesOk r.scope (r.params.args.map (·.arg)) ns && chkSs (mkCx r.scope ns fn gl) d.body r.body
noncomputable def tabOk (recs : List DefRec) (tab : Tab) (gl : Nat → Option (Str × MV)) : Bool :=
  tab.all fun e => recs.any fun r => r.name == e.2.1 && chkRec (fnOf tab) gl e.2.2.1 e.2.2.2 r
noncomputable def bltOk (p : Program) (loose : List Str) : Bool :=
  bltNames.all fun q => !startupNames.contains q.1 && !loose.contains q.1 && !((recsOf p).map (·.name)).contains q.1 && !((litsOf p).map (·.1)).contains q.1 && !((clssOf p loose).map (·.name)).contains q.1 && !(q.1 == ("__name__" : Str)) &&
    match bootBuiltins q.1, q.2 with
    | some (.builtin a), .builtin b => a == b
    | some (.type a), .type b => a == b
    | _, _ => false

theorem lookup_mem {α : Type} : ∀ {l : List (Nat × α)} {k : Nat} {v : α}, l.lookup k = some v → (k, v) ∈ l
  | [], k, v, h => by cases h
  | (a, b) :: r, k, v, h => by
    rw [List.lookup_cons] at h
    split at h
    · rename_i e
      cases h
      have : k = a := by simpa using e
      subst this
      exact List.mem_cons_self ..
    · exact List.mem_cons_of_mem _ (lookup_mem h)

theorem lookup_zip : ∀ {ps : List Str} {vs : List Value} {x : Str}, vs.length = ps.length → x ∈ ps → ((ps.zip vs).lookup x).isSome = true
  | [], _, _, _, h => by cases h
  | p :: ps, [], _, h, _ => by cases h
  | p :: ps, v :: vs, x, hl, h => by
    rw [List.zip_cons_cons, List.lookup_cons]
    split
    · rfl
    · rename_i e
      refine lookup_zip (by simpa using hl) ?_
      rcases List.mem_cons.mp h with rfl | h
      · simp at e
      · exact h
theorem filterMap_zip : ∀ {ps : List Str} {vs : List Value} (pre : List (Str × Value)), vs.length = ps.length → ps.Nodup → (∀ x ∈ ps, pre.lookup x = none) → ps.filterMap (fun n => ((pre ++ ps.zip vs).lookup n).map (n, ·)) = ps.zip vs
  | [], _, _, _, _, _ => rfl
  | p :: ps, [], _, h, _, _ => by cases h
  | p :: ps, v :: vs, pre, hl, hn, hp => by
    rw [List.nodup_cons] at hn
    have e1 : (pre ++ (p :: ps).zip (v :: vs)).lookup p = some v := by
      rw [List.lookup_append, hp p (List.mem_cons_self ..)]
      simp [List.lookup_cons]
    rw [List.filterMap_cons, e1]
    simp only [Option.map_some]
    rw [List.zip_cons_cons]
    congr 1
    have e2 : pre ++ (p, v) :: ps.zip vs = (pre ++ [(p, v)]) ++ ps.zip vs := by simp
    rw [e2]
    refine filterMap_zip (pre ++ [(p, v)]) (by simpa using hl) hn.2 fun x hx => ?_
    rw [List.lookup_append, hp x (List.mem_cons_of_mem _ hx)]
    have : (x == p) = false := by
      cases e : x == p with
      | false => rfl
      | true => have : x = p := by simpa using e
                subst this; exact absurd hx hn.1
    simp [List.lookup_cons, this]

theorem bind_plain {fd : FuncData} {vals : List Value} (h1 : fd.params.posonlyargs = []) (h2 : fd.params.vararg = none) (h3 : fd.params.kwonlyargs = []) (h4 : fd.params.kwarg = none) (h5 : fd.defaults = .none)
    (hn : (fd.params.args.map (·.arg)).Nodup) (hl : vals.length = (fd.params.args.map (·.arg)).length) : bindArgs fd ⟨vals, []⟩ = pure ((fd.params.args.map (·.arg)).zip vals) := by
  have e1 : ∀ x ∈ fd.params.args.map (·.arg), (((fd.params.args.map (·.arg)).zip vals).lookup x).isNone = false := fun x hx => by
    have := lookup_zip hl hx
    cases e : ((fd.params.args.map (·.arg)).zip vals).lookup x with
    | none => rw [e] at this; cases this
    | some => rfl
  have e2 : (fd.params.args.map (·.arg)).filter (fun n => (((fd.params.args.map (·.arg)).zip vals).lookup n).isNone) = [] := by
    rw [List.filter_eq_nil_iff]; intro x hx; rw [e1 x hx]; simp
  have e3 := filterMap_zip (ps := fd.params.args.map (·.arg)) (vs := vals) [] hl hn fun _ _ => rfl
  rw [List.nil_append] at e3
  unfold bindArgs
  simp only [h1, h2, h3, h4, h5, List.map_nil, List.nil_append, List.forIn_nil, pure_bind, seqItems?]
  have e4 : (notAStandIn Value.none >>= fun _ => (pure none : Sem (Option (Array Value)))) = pure none := rfl
  have e5 : decide (vals.length > (fd.params.args.map (·.arg)).length) = false := by simp [hl]
  rw [e4]
  simp only [pure_bind, e5, Bool.false_and, Bool.false_eq_true, if_false, Option.getD_none, Array.toList_empty, List.drop_nil, List.length_nil, Nat.sub_zero, List.take_length, e2, List.isEmpty_nil, Bool.not_true, List.drop_length, List.zip_nil_left, List.forIn_nil, List.append_nil, e3]
end Mine
end
section
set_option autoImplicit false
set_option linter.unusedVariables false
namespace Mine
open PySem PySem.W PyProof.Rows

section
variable {p : Program} {loose : List Str} {mean : ExcName → Option Value} {mg mb : Str → Option Value} {h : Heap} {prog : Program} {w : World} {tab : Tab} {gl : Nat → Option (Str × MV)}

noncomputable abbrev topG (prog : Program) (w : World) (h : Heap) (tab : Tab) (mg : Str → Option Value) : Glo := ⟨prog, w, h, mkFa (fnOf tab) mg, fun _ => none⟩

theorem tab_at (hchk : tabOk (recsOf p) tab gl = true) {f : Nat} {x : Str} {ns : List Str} {d : Fn} (e : tab.lookup f = some (x, ns, d)) : ∃ r ∈ recsOf p, r.name = x ∧ chkRec (fnOf tab) gl ns d r = true := by
  unfold tabOk at hchk
  rw [List.all_eq_true] at hchk
  have := hchk _ (lookup_mem e)
  rw [List.any_eq_true] at this
  obtain ⟨r, hr, h⟩ := this
  simp only [Bool.and_eq_true, beq_iff_eq] at h
  exact ⟨r, hr, h.1, h.2⟩

theorem fa_name {f : Nat} {a : Addr} (e : mkFa (fnOf tab) mg f = some a) : ∃ x ns d, tab.lookup f = some (x, ns, d) ∧ mg x = some (.ref a) := by
  unfold mkFa at e
  split at e
  · rename_i x hx
    unfold fnOf at hx
    cases q : tab.lookup f with
    | none => rw [q] at hx; cases hx
    | some t =>
      obtain ⟨y, ns, d⟩ := t
      rw [q] at hx; cases hx
      split at e
      · rename_i b hb; cases e; exact ⟨_, ns, d, rfl, hb⟩
      · cases e
  · cases e

theorem top_g (T : Top p loose mean mg mb h) (hi : importsNone p = true) (hchk : tabOk (recsOf p) tab gl = true) : GOk (topG prog w h tab mg) where
  sys := by
    obtain ⟨mm, ⟨o, es, ep, e, _⟩, _⟩ := (T.seer hi).mods
    show (h.get? sysModules).isSome = true
    rw [e]; rfl
  nolimit := T.nolimit
  fns := fun f a e => by
    obtain ⟨x, ns, d, e1, e2⟩ := fa_name e
    obtain ⟨r, hr, rfl, _⟩ := tab_at hchk e1
    obtain ⟨a', o, pm, code, doc, h1, h2, h3, _⟩ := T.fn r hr
    rw [e2] at h1; cases h1
    exact ⟨o, _, h2, h3⟩

theorem top_f (T : Top p loose mean mg mb h) (hchk : tabOk (recsOf p) tab gl = true) (hb : bltOk p loose = true) (hgl : ∀ g x v, gl g = some (x, v) → ∃ u, mg x = some u ∧ ∀ ρ h', h.StaysIn h' → Rep (topG prog w h tab mg) ρ h' v u) :
    FnsOk (topG prog w h tab mg) (fnOf tab) gl (fnP tab) := by
  intro f d a hP e
  obtain ⟨x, ns, d', e1, e2⟩ := fa_name e
  have : d' = d := by unfold fnP at hP; rw [e1] at hP; cases hP; rfl
  subst this
  obtain ⟨r, hr, rfl, hc⟩ := tab_at hchk e1
  obtain ⟨a', o, pm, code, doc, h1, h2, h3, h4⟩ := T.fn r hr
  rw [e2] at h1; cases h1
  simp only [chkRec, Bool.and_eq_true, List.isEmpty_iff, Option.isNone_iff_eq_none, Bool.not_eq_true', beq_iff_eq] at hc
  obtain ⟨⟨⟨⟨⟨⟨⟨⟨⟨c1, c2⟩, c3⟩, c4⟩, c5⟩, c6⟩, c7⟩, c8⟩, c9⟩, c10⟩ := hc
  have hnd : (r.params.args.map (·.arg)).Nodup := by
    have := c9
    simp only [namesOk, Bool.and_eq_true, decide_eq_true_eq] at this
    exact this.1.2.sublist (List.isPrefixOf_iff_prefix.mp this.1.1).sublist
  refine ⟨o, Calls.docDef r.name r.params r.body r.scope pm code doc, r.body, r.params.args.map (fun x : Arg => x.arg), ns, h2, h3, h4, rfl, rfl, c5, c6, c7, fun vals hv => bind_plain c1 c2 c3 c4 rfl hnd hv, c8, c9, c10, ?_⟩
  refine ⟨mg, mb, T.g, T.b, fun f' x' e' => ?_, hgl, fun x' v' hm => ?_⟩
  · unfold fnOf at e'
    cases q : tab.lookup f' with
    | none => rw [q] at e'; cases e'
    | some t =>
      obtain ⟨y, ns', d''⟩ := t
      rw [q] at e'; cases e'
      obtain ⟨r', hr', rfl, _⟩ := tab_at hchk q
      obtain ⟨a'', _, _, _, _, g1, _⟩ := T.fn r' hr'
      refine ⟨a'', ?_, g1⟩
      show mkFa (fnOf tab) mg f' = some a''
      unfold mkFa fnOf
      rw [q]
      simp only [Option.map_some, g1]
  · unfold bltOk at hb
    rw [List.all_eq_true] at hb
    have := hb _ hm
    simp only [Bool.and_eq_true, Bool.not_eq_true', List.contains_eq_mem, decide_eq_false_iff_not, beq_eq_false_iff_ne] at this
    obtain ⟨⟨⟨⟨⟨⟨b1, b2⟩, b3⟩, b4⟩, b5⟩, b6⟩, b7⟩ := this
    refine ⟨T.free x' b1 b2 b3 b4 b5, ?_⟩
    rw [T.builtins x' b6]
    split at b7
    · rename_i q1; simp only [beq_iff_eq] at b7; rw [q1, b7]
    · rename_i q1; simp only [beq_iff_eq] at b7; rw [q1, b7]
    · cases b7

theorem scr_of {P : Params} {a : Addr} {vs : List Value} {is : List Int} {xs : List WData} (W : Well P h (.ref a) (.list xs)) (hl : h.IsList a vs.toArray) (hI : IntsAre vs is) (hz : is.length ≤ line) {ρ : List Addr} {h' : Heap} :
    Rep (topG prog w h tab mg) ρ h' (.scr is) (.ref a) := by
  cases W with
  | @list _ us _ e _ =>
    obtain ⟨o, e', hc, n, hd⟩ := hl
    rw [e] at e'; cases e'
    simp only [Data.seq.injEq] at hd
    have : us = vs := by simpa using hd.1
    subst this
    exact .scr e hI hz

/-- the law's call, from the top -/
theorem law_call (T : Top p loose mean mg mb h) (hi : importsNone p = true) (hchk : tabOk (recsOf p) tab gl = true) (hb : bltOk p loose = true) (hgl : ∀ g x v, gl g = some (x, v) → ∃ u, mg x = some u ∧ ∀ ρ h', h.StaysIn h' → Rep (topG prog w h tab mg) ρ h' v u)
    {s : Shared} (hs : s.heap = h) (hg : s.gens = #[]) {f : Nat} {x : Str} {d : Fn} (hf : fnOf tab f = some x) (hP : fnP tab f = some d) {fa : Addr} (hmg : mg x = some (.ref fa)) (hd : d.args = 1) {is : List Int} {a : Addr}
    (hr : Rep (topG prog w h tab mg) [] h (.scr is) (.ref a)) (hlaw : ∀ K : KT, Closed (fnP tab) K → wpSs K 600 d.body (fin fun v _ => v = .bool true) (fun _ _ => False) (start d [.scr is] [])) {E : Value → Shared → Prop} {Q : Value → Shared → Prop}
    (hQ : ∀ s', (∀ b o, h.get? b = some o → s'.heap.get? b = some o) → s'.os = s.os → s'.gens = #[] → Q (.bool true) s') : wpAny (model prog w) callerA (call (.ref fa) [.ref a]) Q E s := by
  subst hs
  have G : GOk (topG prog w s.heap tab mg) := top_g T hi hchk
  have H : FnsOk (topG prog w s.heap tab mg) (fnOf tab) gl (fnP tab) := top_f T hchk hb hgl
  have hfa : (topG prog w s.heap tab mg).fa f = some fa := by
    show mkFa (fnOf tab) mg f = some fa
    unfold mkFa
    rw [hf]
    simp only [hmg]
  have hH : Hp (topG prog w s.heap tab mg) [] [] s.heap := ⟨fun b o e => e, rfl, List.nodup_nil, fun _ h => (by cases h), fun i o a e => (by simp at e)⟩
  refine wpAny_mono (call_core (C := topG prog w s.heap tab mg) (X := fun _ _ => False) G H hP (vs := [.scr is]) (by rw [hd]; rfl) (hlaw _ (closed G H)) (A := callerA) rfl hH hg (.cons hr .nil) (by show 1 + 300 + 601 ≤ 999; omega) (by show 4 ≤ 3 * 301 + 4; omega) hfa) (fun v s' ⟨ρ', hp', y, st, hH', ry, hq⟩ => ?_) fun _ _ x => x
  subst hq
  cases ry
  exact hQ s' hH'.base st.os (st.gens.trans hg)
theorem post_true (l : OpenLaw) (args ds : List WData) : l.row.toRowW.claim.post args (.bool true) ds = true := by
  show (WShape.has [] (.bool true) .bool && WTm.holds [] (.eq .res (.lit (.bool true))) _) = true
  rw [Bool.and_eq_true]
  have e : same (WData.bool true) (WData.bool true) = true := by decide +kernel
  refine ⟨by decide +kernel, ?_⟩
  unfold WTm.holds
  simp [WTm.value, e]
end
end Mine
end
section
set_option autoImplicit false
namespace Mine
open PySem

/-- 17: joined -/
noncomputable def fn_joined : Fn := ⟨3, 3, [.ite (.cmp .eq (.var 0) (.cst (.str [43]))) [.ret (.bin .mod (.bin .add (.var 1) (.var 2)) (.glob 0 (.int 1000000)))] [], .ite (.cmp .eq (.var 0) (.cst (.str [45]))) [.ret (.bin .mod (.bin .sub (.var 1) (.var 2)) (.glob 0 (.int 1000000)))] [], .ite (.cmp .eq (.var 0) (.cst (.str [42]))) [.ret (.bin .mod (.bin .mul (.var 1) (.var 2)) (.glob 0 (.int 1000000)))] [], .ite (.cmp .eq (.var 0) (.cst (.str [60]))) [.ret (.blt .int [.cmp .lt (.var 1) (.var 2)])] [], .ite (.cmp .eq (.var 0) (.cst (.str [61]))) [.ret (.blt .int [.cmp .eq (.var 1) (.var 2)])] [], .ite (.cmp .eq (.var 2) (.cst (.int 0))) [.ret (.cst .none)] [], .ret (.bin .fdiv (.var 1) (.var 2))]⟩
/-- 18: reckoned -/
noncomputable def fn_reckoned : Fn := ⟨2, 4, [.ite (.cmp .eq (.idx (.var 0) (.cst (.int 0))) (.cst (.str [110, 117, 109, 98, 101, 114]))) [.ret (.idx (.var 0) (.cst (.int 1)))] [], .ite (.cmp .eq (.idx (.var 0) (.cst (.int 0))) (.cst (.str [110, 97, 109, 101]))) [.ret (.idx (.var 1) (.idx (.var 0) (.cst (.int 1))))] [], .asg [2] false (.call 18 [.idx (.var 0) (.cst (.int 1)), .var 1]), .asg [3] false (.call 18 [.idx (.var 0) (.cst (.int 2)), .var 1]), .ite (.or [.isN true (.var 2), .isN true (.var 3)]) [.ret (.cst .none)] [], .ret (.call 17 [.idx (.var 0) (.cst (.int 0)), .var 2, .var 3])]⟩
/-- 19: _law_whole -/
noncomputable def fn_law_whole : Fn := ⟨1, 1, [.ret (.and [.isi (.var 0) [.int], .not (.isi (.var 0) [.bool])])]⟩
/-- 5: _law_cell_at -/
noncomputable def fn_law_cell_at : Fn := ⟨2, 2, [.ite (.cmp .lt (.var 1) (.blt .len [.var 0])) [.ret (.idx (.var 0) (.var 1))] [], .ret (.cst (.int 0))]⟩
/-- 6: _law_mixed -/
noncomputable def fn_law_mixed : Fn := ⟨1, 1, [.ret (.bin .mod (.bin .add (.bin .mul (.var 0) (.cst (.int 48271))) (.cst (.int 7919))) (.cst (.int 2147483647)))]⟩
/-- 7: _law_name_by -/
noncomputable def fn_law_name_by : Fn := ⟨1, 4, [.asg [1] false (.idx (.cst (.str [97, 98, 99, 100, 101, 102, 103, 104, 105, 106, 107, 108, 109, 110, 111, 112, 113, 114, 115, 116, 117, 118, 119, 120, 121, 122])) (.bin .mod (.bin .fdiv (.var 0) (.cst (.int 8))) (.cst (.int 26)))), .asg [2] false (.var 0), .for_ [3] false .range1 [.bin .mod (.var 0) (.cst (.int 8))] [.asg [2] false (.call 6 [.var 2]), .asg [1] false (.bin .add (.var 1) (.idx (.cst (.str [97, 98, 99, 100, 101, 102, 103, 104, 105, 106, 107, 108, 109, 110, 111, 112, 113, 114, 115, 116, 117, 118, 119, 120, 121, 122, 48, 49, 50, 51, 52, 53, 54, 55, 56, 57])) (.bin .mod (.var 2) (.cst (.int 36)))))], .ite (.cmp .inn (.var 1) (.list [.cst (.str [115, 101, 116]), .cst (.str [116, 101, 108, 108]), .cst (.str [115, 107, 105, 112]), .cst (.str [105, 102]), .cst (.str [101, 108, 115, 101]), .cst (.str [119, 104, 105, 108, 101]), .cst (.str [101, 110, 100])])) [.ret (.bin .add (.var 1) (.cst (.str [48])))] [], .ret (.var 1)]⟩
/-- 8: _law_twin -/
noncomputable def fn_law_twin : Fn := ⟨2, 6, [.asg [2] false (.cst (.str [97, 98, 99, 100, 101, 102, 103, 104, 105, 106, 107, 108, 109, 110, 111, 112, 113, 114, 115, 116, 117, 118, 119, 120, 121, 122])), .asg [3] false (.bin .mod (.var 1) (.blt .len [.var 0])), .ite (.cmp .gt (.var 3) (.cst (.int 0))) [.asg [2] false (.bin .add (.var 2) (.cst (.str [48, 49, 50, 51, 52, 53, 54, 55, 56, 57])))] [], .asg [4] false (.bin .add (.bin .add (.mth .find (.var 2) [.idx (.var 0) (.var 3)]) (.cst (.int 1))) (.bin .mod (.bin .fdiv (.var 1) (.cst (.int 8))) (.bin .sub (.blt .len [.var 2]) (.cst (.int 1))))), .asg [5] false (.bin .add (.bin .add (.sl (.var 0) none (some (.var 3))) (.idx (.var 2) (.bin .mod (.var 4) (.blt .len [.var 2])))) (.sl (.var 0) (some (.bin .add (.var 3) (.cst (.int 1)))) none)), .ite (.cmp .inn (.var 5) (.list [.cst (.str [115, 101, 116]), .cst (.str [116, 101, 108, 108]), .cst (.str [115, 107, 105, 112]), .cst (.str [105, 102]), .cst (.str [101, 108, 115, 101]), .cst (.str [119, 104, 105, 108, 101]), .cst (.str [101, 110, 100])])) [.ret (.bin .add (.var 5) (.cst (.str [48])))] [], .ret (.var 5)]⟩
/-- 9: _law_names -/
noncomputable def fn_law_names : Fn := ⟨2, 5, [.asg [2] false (.list []), .for_ [3] false .range1 [.cst (.int 10)] [.asg [0] false (.call 6 [.var 0]), .asg [4] false (.call 7 [.bin .fdiv (.var 0) (.cst (.int 5))]), .ite (.and [.cmp .eq (.bin .mod (.var 3) (.cst (.int 2))) (.cst (.int 1)), .cmp .eq (.bin .mod (.bin .fdiv (.var 1) (.cst (.int 4))) (.cst (.int 2))) (.cst (.int 1))]) [.asg [4] false (.call 8 [.idx (.var 2) (.bin .sub (.var 3) (.cst (.int 1))), .call 6 [.bin .add (.var 1) (.var 3)]])] [], .while_ (.or [.cmp .inn (.var 4) (.var 2), .cmp .inn (.var 4) (.list [.cst (.str [115, 101, 116]), .cst (.str [116, 101, 108, 108]), .cst (.str [115, 107, 105, 112]), .cst (.str [105, 102]), .cst (.str [101, 108, 115, 101]), .cst (.str [119, 104, 105, 108, 101]), .cst (.str [101, 110, 100])])]) [.asg [4] false (.bin .add (.sl (.var 4) none (some (.cst (.int 7)))) (.idx (.cst (.str [97, 98, 99, 100, 101, 102, 103, 104, 105, 106, 107, 108, 109, 110, 111, 112, 113, 114, 115, 116, 117, 118, 119, 120, 121, 122])) (.bin .mod (.bin .add (.bin .add (.var 1) (.blt .len [.var 4])) (.var 3)) (.cst (.int 26))))), .asg [1] false (.bin .add (.var 1) (.cst (.int 5)))], .expr (.mth .append (.var 2) [.var 4])], .ret (.var 2)]⟩
/-- 10: _law_end_by -/
noncomputable def fn_law_end_by : Fn := ⟨2, 2, [.ite (.and [.cmp .ne (.var 1) (.list []), .cmp .gt (.bin .mod (.var 0) (.cst (.int 3))) (.cst (.int 0))]) [.ret (.tup [.cst (.str [110, 97, 109, 101]), .idx (.var 1) (.bin .mod (.bin .fdiv (.var 0) (.cst (.int 3))) (.blt .len [.var 1]))])] [], .ite (.cmp .eq (.bin .mod (.bin .fdiv (.var 0) (.cst (.int 3))) (.cst (.int 4))) (.cst (.int 0))) [.ret (.tup [.cst (.str [110, 117, 109, 98, 101, 114]), .bin .mod (.bin .fdiv (.var 0) (.cst (.int 12))) (.bin .pow (.cst (.int 10)) (.cst (.int 6)))])] [], .ret (.tup [.cst (.str [110, 117, 109, 98, 101, 114]), .bin .mod (.bin .fdiv (.var 0) (.cst (.int 12))) (.cst (.int 5))])]⟩
/-- 11: _law_formula_by -/
noncomputable def fn_law_formula_by : Fn := ⟨5, 7, [.asg [0] false (.call 6 [.var 0]), .ite (.or [.cmp .eq (.var 4) (.cst (.int 1)), .cmp .lt (.bin .mod (.var 0) (.cst (.int 8))) (.cst (.int 3))]) [.ret (.call 10 [.bin .fdiv (.var 0) (.cst (.int 8)), .var 1])] [], .asg [5] false (.idx (.list [.cst (.str [43]), .cst (.str [45]), .cst (.str [42]), .cst (.str [60]), .cst (.str [61]), .cst (.str [43]), .cst (.str [45]), .cst (.str [60]), .cst (.str [47]), .cst (.str [47])]) (.bin .mod (.bin .fdiv (.var 0) (.cst (.int 8))) (.idx (.list [.cst (.int 8), .cst (.int 10)]) (.blt .int [.var 3])))), .asg [6] false (.call 11 [.bin .add (.bin .mul (.var 0) (.cst (.int 3))) (.cst (.int 1)), .var 1, .var 2, .var 3, .bin .sub (.var 4) (.cst (.int 1))]), .ite (.and [.cmp .eq (.var 5) (.cst (.str [47])), .cmp .lt (.bin .mod (.bin .fdiv (.var 0) (.cst (.int 80))) (.cst (.int 4))) (.cst (.int 3))]) [.ret (.tup [.var 5, .var 6, .tup [.cst (.str [110, 117, 109, 98, 101, 114]), .bin .add (.cst (.int 1)) (.bin .mod (.bin .fdiv (.var 0) (.cst (.int 320))) (.cst (.int 9)))]])] [], .ite (.cmp .eq (.var 5) (.cst (.str [47]))) [.ret (.tup [.var 5, .var 6, .call 11 [.bin .add (.bin .mul (.var 0) (.cst (.int 5))) (.cst (.int 2)), .var 2, .var 2, .var 3, .bin .sub (.var 4) (.cst (.int 1))]])] [], .ret (.tup [.var 5, .var 6, .call 11 [.bin .add (.bin .mul (.var 0) (.cst (.int 5))) (.cst (.int 2)), .var 1, .var 2, .var 3, .bin .sub (.var 4) (.cst (.int 1))]])]⟩
/-- 12: _law_deep_formula -/
noncomputable def fn_law_deep_formula : Fn := ⟨2, 7, [.ite (.cmp .ne (.bin .mod (.var 0) (.cst (.int 8))) (.cst (.int 1))) [.ret (.call 11 [.var 0, .var 1, .var 1, .cst (.bool true), .bin .add (.cst (.int 1)) (.bin .mod (.bin .fdiv (.var 0) (.cst (.int 8))) (.cst (.int 5)))])] [], .asg [2] false (.call 10 [.var 0, .var 1]), .asg [3] false (.var 0), .for_ [4] false .range1 [.bin .add (.cst (.int 1)) (.bin .mod (.bin .fdiv (.var 0) (.cst (.int 8))) (.cst (.int 11)))] [.asg [3] false (.call 6 [.var 3]), .asg [5] false (.call 10 [.bin .fdiv (.var 3) (.cst (.int 16)), .var 1]), .asg [6] false (.idx (.list [.cst (.str [43]), .cst (.str [45]), .cst (.str [42]), .cst (.str [47]), .cst (.str [60]), .cst (.str [61])]) (.bin .mod (.var 3) (.cst (.int 6)))), .asg [2] false (.idx (.list [.tup [.var 6, .var 2, .var 5], .tup [.var 6, .var 5, .var 2]]) (.bin .mod (.bin .fdiv (.var 3) (.cst (.int 6))) (.cst (.int 2))))], .ret (.var 2)]⟩
/-- 20: _law_reckoned -/
noncomputable def fn_law_reckoned : Fn := ⟨2, 4, [.ite (.cmp .eq (.idx (.var 0) (.cst (.int 0))) (.cst (.str [110, 117, 109, 98, 101, 114]))) [.ret (.idx (.var 0) (.cst (.int 1)))] [], .ite (.cmp .eq (.idx (.var 0) (.cst (.int 0))) (.cst (.str [110, 97, 109, 101]))) [.ret (.idx (.var 1) (.idx (.var 0) (.cst (.int 1))))] [], .asg [2] false (.call 20 [.idx (.var 0) (.cst (.int 1)), .var 1]), .asg [3] false (.call 20 [.idx (.var 0) (.cst (.int 2)), .var 1]), .ite (.or [.isN true (.var 2), .isN true (.var 3), .and [.cmp .eq (.idx (.var 0) (.cst (.int 0))) (.cst (.str [47])), .cmp .eq (.var 3) (.cst (.int 0))]]) [.ret (.cst .none)] [], .ite (.cmp .eq (.idx (.var 0) (.cst (.int 0))) (.cst (.str [47]))) [.ret (.bin .fdiv (.var 2) (.var 3))] [], .ite (.or [.cmp .eq (.idx (.var 0) (.cst (.int 0))) (.cst (.str [60])), .cmp .eq (.idx (.var 0) (.cst (.int 0))) (.cst (.str [61]))]) [.ret (.blt .int [.or [.and [.cmp .lt (.var 2) (.var 3), .cmp .eq (.idx (.var 0) (.cst (.int 0))) (.cst (.str [60]))], .and [.cmp .eq (.var 2) (.var 3), .cmp .eq (.idx (.var 0) (.cst (.int 0))) (.cst (.str [61]))]]])] [], .ite (.cmp .eq (.idx (.var 0) (.cst (.int 0))) (.cst (.str [42]))) [.ret (.bin .mod (.bin .mul (.var 2) (.var 3)) (.bin .pow (.cst (.int 10)) (.cst (.int 6))))] [], .ret (.bin .mod (.bin .add (.var 2) (.idx (.list [.var 3, .neg (.var 3)]) (.blt .int [.cmp .eq (.idx (.var 0) (.cst (.int 0))) (.cst (.str [45]))]))) (.bin .pow (.cst (.int 10)) (.cst (.int 6))))]⟩
/-- 21: law -/
noncomputable def fn_law_2 : Fn := ⟨1, 11, [.asg [1] false (.call 9 [.call 5 [.var 0, .cst (.int 0)], .call 5 [.var 0, .cst (.int 1)]]), .asg [2] false (.call 12 [.call 5 [.var 0, .cst (.int 2)], .var 1]), .for_ [3] false .range1 [.cst (.int 4)] [.asg [4] false .dict0, .for_ [5, 6] true .enum [.var 1] [.asg [7] false (.call 6 [.bin .add (.call 5 [.var 0, .bin .add (.cst (.int 3)) (.var 5)]) (.var 3)]), .setIdx (.var 4) (.var 6) (.idx (.list [.bin .mod (.bin .fdiv (.var 7) (.cst (.int 8))) (.cst (.int 5)), .bin .mod (.bin .fdiv (.var 7) (.cst (.int 8))) (.bin .pow (.cst (.int 10)) (.cst (.int 6)))]) (.blt .int [.cmp .gt (.bin .mod (.var 7) (.cst (.int 8))) (.cst (.int 4))]))], .asg [8] false (.blt .dict [.var 4]), .asg [9] false (.call 18 [.var 2, .var 8]), .asg [10] false (.call 20 [.var 2, .var 4]), .ite (.or [.cmp .ne (.var 8) (.var 4), .and [.isN true (.var 10), .isN false (.var 9)]]) [.ret (.cst (.bool false))] [], .ite (.and [.isN false (.var 10), .or [.not (.call 19 [.var 9]), .cmp .ne (.var 9) (.var 10)]]) [.ret (.cst (.bool false))] []], .ret (.cst (.bool true))]⟩

noncomputable def gl : Nat → Option (Str × MV)
  | 0 => some ("MODULUS", (.int 1000000))
  | _ => none

noncomputable def tab : Tab := [(17, "joined", ["sign", "one", "other"], fn_joined),
  (18, "reckoned", ["formula", "values", "one", "other"], fn_reckoned),
  (19, "_law_whole", ["_law_found"], fn_law_whole),
  (5, "_law_cell_at", ["_law_script", "_law_k"], fn_law_cell_at),
  (6, "_law_mixed", ["_law_number"], fn_law_mixed),
  (7, "_law_name_by", ["_law_cell", "_law_found", "_law_number", "_law_k"], fn_law_name_by),
  (8, "_law_twin", ["_law_name", "_law_cell", "_law_some", "_law_at", "_law_step", "_law_found"], fn_law_twin),
  (9, "_law_names", ["_law_one", "_law_other", "_law_names_here", "_law_k", "_law_name"], fn_law_names),
  (10, "_law_end_by", ["_law_number", "_law_names_here"], fn_law_end_by),
  (11, "_law_formula_by", ["_law_number", "_law_names_here", "_law_low", "_law_divide", "_law_left", "_law_sign", "_law_one"], fn_law_formula_by),
  (12, "_law_deep_formula", ["_law_cell", "_law_names_here", "_law_found", "_law_number", "_law_k", "_law_other", "_law_sign"], fn_law_deep_formula),
  (20, "_law_reckoned", ["_law_formula", "_law_values", "_law_one", "_law_other"], fn_law_reckoned),
  (21, "law", ["_law_script", "_law_names_here", "_law_formula", "_law_turn", "_law_values", "_law_k", "_law_name", "_law_cell", "_law_handed", "_law_told", "_law_due"], fn_law_2)]
end Mine
end
section
set_option autoImplicit false
namespace Mine

theorem forL_inv {g : Option (Nat × List MV)} {step : MV → (Fl → MS → Prop) → MS → Prop} {Q : Fl → MS → Prop} (I : Nat → MS → Prop) (Rt : MV → MS → Prop) {items : List MV} {m : MS} (h0 : I 0 m) (hg : ∀ i m, I i m → guardOk g m.heap)
    (hstep : ∀ i x m (P : Fl → MS → Prop), items[i]? = some x → I i m → (∀ m', I (i + 1) m' → P .next m') → (∀ m', I (i + 1) m' → P .cont m') → (∀ r m', Rt r m' → P (.ret r) m') → step x P m)
    (hend : ∀ m, I items.length m → Q .next m) (hret : ∀ r m, Rt r m → Q (.ret r) m) : forL g step Q items m := by
  have key : ∀ (l : List MV) (i : Nat) (m : MS), i + l.length = items.length → items.drop i = l → I i m → forL g step Q l m := by
    intro l
    induction l with
    | nil =>
      intro i m hl e hI
      have hl : i = items.length := hl
      subst hl
      rw [forL_nil]
      exact ⟨hg _ m hI, hend m hI⟩
    | cons x l ih =>
      intro i m hl e hI
      have hlt : i < items.length := by simp only [List.length_cons] at hl; omega
      have e' := List.drop_eq_getElem_cons hlt
      rw [e] at e'
      simp only [List.cons.injEq] at e'
      rw [forL_cons]
      refine ⟨hg i m hI, hstep i x m _ (by rw [List.getElem?_eq_getElem hlt, e'.1]) hI (fun m' h' => ?_) (fun m' h' => ?_) fun r m' h' => hret r m' h'⟩
      · exact ih (i + 1) m' (by simp only [List.length_cons] at hl; omega) e'.2.symm h'
      · exact ih (i + 1) m' (by simp only [List.length_cons] at hl; omega) e'.2.symm h'
  exact key items 0 m (by simp) (by simp) h0

theorem while_inv {c : (Bool → MS → Prop) → MS → Prop} {b : (Fl → MS → Prop) → MS → Prop} {Q : Fl → MS → Prop} (I : Nat → MS → Prop) (hno : ∀ m, ¬ I 0 m)
    (hturn : ∀ k m (W : MS → Prop), I (k + 1) m → (∀ m', I k m' → W m') → c (fun t m => match t with
      | true => b (fun f m => match f with
        | .next => W m
        | .cont => W m
        | .brk => Q .next m
        | .ret r => Q (.ret r) m) m
      | false => Q .next m) m) : ∀ (k : Nat) (m : MS), I k m → whileN c b Q k m
  | 0, m, h => (hno m h).elim
  | k + 1, m, h => by
    rw [whileN_succ]
    exact hturn k m (fun m => whileN c b Q k m) h fun m' h' => while_inv I hno hturn k m' h'

/-! heaps that only grow -/
noncomputable abbrev Hpp := List MO
theorem pre_push {h hp : List MO} {o : MO} (x : h <+: hp) : h <+: hp ++ [o] := x.trans (List.prefix_append _ _)
theorem pre_self (h : List MO) : h <+: h := List.prefix_refl _
theorem pre_at {h hp : List MO} (x : h <+: hp) {i : Nat} {o : MO} (e : h[i]? = some o) : hp[i]? = some o := by
  obtain ⟨t, rfl⟩ := x
  rw [List.getElem?_append_left (List.getElem?_eq_some_iff.mp e).1]; exact e
theorem pre_set {h hp : List MO} (x : h <+: hp) {i : Nat} {o : MO} (e : h.length ≤ i) : h <+: hp.set i o := by
  obtain ⟨t, rfl⟩ := x
  rw [List.set_append_right _ _ e]
  exact List.prefix_append _ _
theorem get_last {α : Type} (h : List α) (o : α) : (h ++ [o])[h.length]? = some o := by simp
theorem get_old {α : Type} {h : List α} {o o' : α} {i : Nat} (e : h[i]? = some o) : (h ++ [o'])[i]? = some o := by
  rw [List.getElem?_append_left (List.getElem?_eq_some_iff.mp e).1]; exact e
theorem get_set {α : Type} {h : List α} {o o' : α} {i : Nat} (e : h[i]? = some o) : (h.set i o')[i]? = some o' := by
  have := (List.getElem?_eq_some_iff.mp e).1
  simp [this]

theorem get_push {m : MS} {o : MO} : (m.push o).heap[m.heap.length]? = some o := get_last _ _
theorem get_push_old {m : MS} {o o' : MO} {i : Nat} (e : m.heap[i]? = some o) : (m.push o').heap[i]? = some o := get_old e
theorem get_push2 {m : MS} {o o' : MO} : ((m.push o).push o').heap[m.heap.length]? = some o := get_old (get_last _ _)
theorem get_put {m : MS} {o o' : MO} {i : Nat} (e : m.heap[i]? = some o) : (m.put i o').heap[i]? = some o' := get_set e

theorem iter_range1 {k : Int} {hp : List MO} (h1 : -16777216 ≤ k) (h2 : k ≤ 16777216) : iterOf .range1 [.int k] hp = some ((List.range k.toNat).map (fun (i : Nat) => .int i), none) := by
  unfold iterOf
  simp only [decide_eq_true h1, decide_eq_true h2]
theorem iter_list {r : Nat} {xs : List MV} {hp : List MO} (e : hp[r]? = some (.list xs)) : iterOf .val [.ref r] hp = some (xs, some (r, xs)) := by
  unfold iterOf
  simp only [e]
theorem iter_enum {r : Nat} {xs : List MV} {hp : List MO} (e : hp[r]? = some (.list xs)) : iterOf .enum [.ref r] hp = some (xs.zipIdx.map (fun p => .tup [.int p.2, p.1]), some (r, xs)) := by
  unfold iterOf
  simp only [e]
theorem range_at {k i : Nat} {x : MV} (e : ((List.range k).map (fun (i : Nat) => MV.int i))[i]? = some x) : i < k ∧ x = .int i := by
  simp only [List.getElem?_map, Option.map_eq_some_iff] at e
  obtain ⟨j, h1, h2⟩ := e
  obtain ⟨h3, h4⟩ := List.getElem?_eq_some_iff.mp h1
  simp at h3 h4; subst h4
  exact ⟨h3, h2.symm⟩
theorem range_len (k : Nat) : ((List.range k).map (fun (i : Nat) => MV.int i)).length = k := by simp
theorem enum_at {xs : List MV} {i : Nat} {x : MV} (e : (xs.zipIdx.map (fun p => MV.tup [.int p.2, p.1]))[i]? = some x) : ∃ y, xs[i]? = some y ∧ x = .tup [.int i, y] := by
  simp only [List.getElem?_map, Option.map_eq_some_iff] at e
  obtain ⟨⟨y, j⟩, hj, rfl⟩ := e
  rw [List.getElem?_zipIdx] at hj
  simp only [Option.map_eq_some_iff, Nat.zero_add] at hj
  obtain ⟨y', hy, hj⟩ := hj
  cases hj
  exact ⟨y, hy, rfl⟩
theorem enum_len (xs : List MV) : (xs.zipIdx.map (fun p => MV.tup [.int p.2, p.1])).length = xs.length := by simp

theorem ok_append {hp : List MO} {r : Nat} {xs : List MV} (e : hp[r]? = some (.list xs)) : mthOk .append (.ref r) hp = true := by
  unfold mthOk; simp only [e]

noncomputable def b2n : Bool → Nat
  | true => 1
  | false => 0
noncomputable def sel {α : Type} (d : Bool) (a b : α) : α := match d with
  | true => b
  | false => a
theorem pidx_b2i {α : Type} {a b : α} {d : Bool} : pidx (b2i d) [a, b].length = some (b2n d) := by cases d <;> rfl
theorem get_b2n {α : Type} {a b : α} {d : Bool} : [a, b][b2n d]? = some (sel d a b) := by cases d <;> rfl

/-! texts -/
noncomputable def okS (s : List Nat) : Prop := ∀ c ∈ s, c < 55296
theorem okS.d {s : List Nat} (h : okS s) : D.ok (.str s) = true := by
  simp only [D.ok, List.all_eq_true, decide_eq_true_eq]; exact h
theorem oks_strs : ∀ {ss : List (List Nat)}, (∀ s ∈ ss, okS s) → D.oks (ss.map .str) = true
  | [], _ => rfl
  | s :: ss, h => by
    simp only [List.map_cons, D.oks, Bool.and_eq_true]
    exact ⟨(h s (List.mem_cons_self ..)).d, oks_strs fun t ht => h t (List.mem_cons_of_mem _ ht)⟩
theorem rds_strs {hp : List MO} : ∀ (ss : List (List Nat)), Rds hp (ss.map .str) (ss.map .str)
  | [] => .nil
  | s :: ss => .cons (.str s) (rds_strs ss)
theorem in_strs {hp : List MO} {x : List Nat} {ss : List (List Nat)} {Q : Bool → Prop} (hx : okS x) (hs : ∀ s ∈ ss, okS s) (h : Q (ss.contains x)) : InP hp (.str x) (ss.map .str) Q := by
  refine .mk (.str x) (ss.map .str) (.str x) (rds_strs ss) (Nat.zero_le _) hx.d (oks_strs hs) ?_
  have e : (ss.map D.str).any (fun e => e.deq (.str x)) = ss.contains x := by
    rw [List.any_map, Bool.eq_iff_iff]
    simp only [List.any_eq_true, Function.comp, D.deq, beq_iff_eq, List.contains_iff_mem]
    exact ⟨fun ⟨y, h1, h2⟩ => h2 ▸ h1, fun h => ⟨x, h, rfl⟩⟩
  rw [e]; exact h

theorem pidx_nat {k : Int} {n : Nat} (h0 : 0 ≤ k) (h1 : k < n) : pidx k n = some k.toNat := by
  unfold pidx
  rw [decide_eq_true h0, decide_eq_true h1]
theorem get_some {α : Type} {xs : List α} {i : Nat} (h : i < xs.length) : xs[i]? = some xs[i] := List.getElem?_eq_getElem h

theorem pend_nat {k : Int} {n : Nat} (h : 0 ≤ k) : pend k n = min k.toNat n := by
  unfold pend; rw [decide_eq_true h]
theorem pslice_to {α : Type} {xs : List α} {k : Int} (h : 0 ≤ k) : pslice xs none (some k) = xs.take k.toNat := by
  unfold pslice
  simp only [pend_nat h, List.drop_zero]
  rw [← List.take_eq_take_min]
theorem pslice_from {α : Type} {xs : List α} {k : Int} (h : 0 ≤ k) : pslice xs (some k) none = xs.drop k.toNat := by
  unfold pslice
  simp only [pend_nat h, List.take_length]
  rcases Nat.le_total k.toNat xs.length with q | q
  · rw [Nat.min_eq_left q]
  · rw [Nat.min_eq_right q, List.drop_length, List.drop_eq_nil_of_le q]

theorem le_line {n : Nat} (h : n ≤ 1000000) : n ≤ line := by unfold line; omega
theorem pigeon : ∀ (l t : List (List Nat)), l.Nodup → (∀ x ∈ l, x ∈ t) → l.length ≤ t.length
  | [], _, _, _ => Nat.zero_le _
  | a :: l, t, hn, hs => by
    rw [List.nodup_cons] at hn
    have ha : a ∈ t := hs a (List.mem_cons_self ..)
    have := pigeon l (t.erase a) hn.2 fun x hx => by
      have hne : x ≠ a := fun q => hn.1 (q ▸ hx)
      exact (List.mem_erase_of_ne hne).mpr (hs x (List.mem_cons_of_mem _ hx))
    rw [List.length_erase_of_mem ha] at this
    have := List.length_pos_of_mem ha
    simp only [List.length_cons]; omega
end Mine
end
section
set_option autoImplicit false
namespace Mine
variable {K : KT} (hK : Closed (fnP tab) K)
noncomputable def mix (x : Int) : Int := (x * 48271 + 7919) % 2147483647
theorem mix_pos (x : Int) : 0 ≤ mix x ∧ mix x < 2147483647 := by unfold mix; omega
noncomputable def cell (is : List Int) (k : Int) : Int := match is[k.toNat]? with
  | some v => v
  | none => 0
/-- a name -/
noncomputable def Nm (s : List Nat) : Prop := s ≠ [] ∧ s.length ≤ 8 ∧ ∀ c ∈ s, c < 128
theorem Nm.ok {s : List Nat} (h : Nm s) : okS s := fun c hc => Nat.lt_trans (h.2.2 c hc) (by decide)
noncomputable def kws : List (List Nat) := [[115, 101, 116], [116, 101, 108, 108], [115, 107, 105, 112], [105, 102], [101, 108, 115, 101], [119, 104, 105, 108, 101], [101, 110, 100]]
theorem kws_ok : ∀ s ∈ kws, okS s := by unfold okS kws; decide
theorem kws_len : ∀ s ∈ kws, s.length ≤ 5 := by unfold kws; decide
noncomputable abbrev abc : List Nat := [97, 98, 99, 100, 101, 102, 103, 104, 105, 106, 107, 108, 109, 110, 111, 112, 113, 114, 115, 116, 117, 118, 119, 120, 121, 122]
noncomputable abbrev abc36 : List Nat := [97, 98, 99, 100, 101, 102, 103, 104, 105, 106, 107, 108, 109, 110, 111, 112, 113, 114, 115, 116, 117, 118, 119, 120, 121, 122, 48, 49, 50, 51, 52, 53, 54, 55, 56, 57]
theorem abc_lt : ∀ c ∈ abc, c < 128 := by decide
theorem abc36_lt : ∀ c ∈ abc36, c < 128 := by decide
include hK
theorem k_mixed {n : Nat} {x : Int} {Q : MV → List MO → Prop} {X : XT} {h : List MO} (hq : Q (.int (mix x)) h) : K (n + 1) 6 [.int x] Q X h := by
  refine hK _ _ _ _ _ _ fn_law_mixed rfl rfl ?_
  conv => whnf
  refine ⟨.inr (by unfold small; decide), ?_⟩
  conv => whnf
  exact ⟨by decide, hq⟩
theorem k_cell {n : Nat} {is : List Int} {k : Int} (hk : 0 ≤ k) {Q : MV → List MO → Prop} {X : XT} {h : List MO} (hq : Q (.int (cell is k)) h) : K (n + 1) 5 [.scr is, .int k] Q X h := by
  refine hK _ _ _ _ _ _ fn_law_cell_at rfl rfl ?_
  conv => whnf
  unfold cell at hq
  by_cases hlt : k < is.length
  · rw [decide_eq_true hlt]
    conv => whnf
    rw [pidx_nat hk hlt]
    dsimp only
    rw [get_some (by omega)] at hq ⊢
    exact hq
  · rw [decide_eq_false hlt]
    rw [List.getElem?_eq_none (by omega)] at hq
    exact hq
theorem kw_end {n : Nat} {s : List Nat} {Q : MV → List MO → Prop} {X : XM} {m : MS} (v : Nat) (hv : m.get v = some (.str s)) (hs : Nm s) (hq : ∀ s' h', Nm s' → m.heap <+: h' → Q (.str s') h') :
    wpSs K n [.ite (.cmp .inn (.var v) (.list [.cst (.str [115, 101, 116]), .cst (.str [116, 101, 108, 108]), .cst (.str [115, 107, 105, 112]), .cst (.str [105, 102]), .cst (.str [101, 108, 115, 101]), .cst (.str [119, 104, 105, 108, 101]), .cst (.str [101, 110, 100])])) [.ret (.bin .add (.var v) (.cst (.str [48])))] [], .ret (.var v)] (fin Q) X m := by
  have e : ∀ {Q : PQ} {X : XM} {m' : MS}, m'.vars = m.vars → Q (.str s) m' → wpE K n (.var v) Q X m' := fun {Q X m'} e h => by
    unfold wpE
    have : m'.get v = some (.str s) := by rw [← hv]; unfold MS.get; rw [e]
    rw [this]; exact h
  unfold wpSs wpS wpE
  refine e (X := X) rfl ?_
  conv => whnf
  rw [get_push]
  show InP _ _ (kws.map .str) _
  refine in_strs hs.ok kws_ok ?_
  cases hc : kws.contains s with
  | true =>
    unfold wpSs wpS wpE
    refine e (X := X) rfl ?_
    conv => whnf
    have hl := kws_len s (by simpa using hc)
    refine ⟨by show s.length + 1 ≤ 2 ^ 24; omega, hq _ _ ⟨by simp, by simp; omega, ?_⟩ (pre_push (pre_self _))⟩
    intro c hc
    rcases List.mem_append.mp hc with h | h
    · exact hs.2.2 c h
    · simp at h; omega
  | false =>
    show wpSs K n [.ret (.var v)] _ X _
    unfold wpSs wpS
    refine e (X := X) rfl ?_
    exact hq s _ hs (pre_push (pre_self _))
theorem k_name_by {n : Nat} {x : Int} {Q : MV → List MO → Prop} {X : XT} {h : List MO} (hq : ∀ s h', Nm s → h <+: h' → Q (.str s) h') : K (n + 2) 7 [.int x] Q X h := by
  refine hK _ _ _ _ _ _ fn_law_name_by rfl rfl ?_
  conv => whnf
  refine ⟨by decide, ?_⟩
  conv => whnf
  refine ⟨by decide, ?_⟩
  conv => whnf
  rw [pidx_nat (by omega) (by show (_ : Int) < 26; omega)]
  dsimp only
  rw [get_some (by show _ < 26; omega)]
  conv => whnf
  refine ⟨by decide, ?_⟩
  conv => whnf
  rw [iter_range1 (by omega) (by omega)]
  dsimp only
  refine forL_inv (fun i m => ∃ s z w, m = ⟨[some (.int x), some (.str s), some (.int z), w], h⟩ ∧ s.length = i + 1 ∧ (∀ c ∈ s, c < 128)) (fun _ _ => False) ⟨_, _, _, rfl, rfl, ?_⟩ (fun _ _ _ => trivial) (fun i y m P hy hI hn _ _ => ?_) (fun m hI => ?_) (fun _ _ h => h.elim)
  · intro c hc
    simp only [List.mem_singleton] at hc; subst hc; exact abc_lt _ (List.getElem_mem _)
  · obtain ⟨hi, rfl⟩ := range_at hy
    obtain ⟨s, z, w, rfl, hl, hc⟩ := hI
    conv => whnf
    refine k_mixed hK ?_
    conv => whnf
    refine ⟨by decide, ?_⟩
    conv => whnf
    rw [pidx_nat (by omega) (by show (_ : Int) < 36; omega)]
    dsimp only
    rw [get_some (by show _ < 36; omega)]
    conv => whnf
    refine ⟨by show s.length + 1 ≤ 2 ^ 24; omega, ?_⟩
    refine hn _ ⟨_, _, _, rfl, by simp; omega, ?_⟩
    intro c h
    rcases List.mem_append.mp h with h | h
    · exact hc c h
    · simp only [List.mem_singleton] at h; subst h; exact abc36_lt _ (List.getElem_mem _)
  · obtain ⟨s, z, w, rfl, hl, hc⟩ := hI
    rw [range_len] at hl
    exact kw_end hK 1 rfl ⟨fun q => by rw [q] at hl; simp at hl, by omega, hc⟩ hq
end Mine
end
section
set_option autoImplicit false
namespace Mine
variable {K : KT} (hK : Closed (fnP tab) K)
include hK
theorem twin_rest {n : Nat} {s so : List Nat} {c a : Int} {Q : MV → List MO → Prop} {X : XM} {h : List MO} (hs : Nm s) (ha : 0 ≤ a) (hb : a < s.length) (h1 : 2 ≤ so.length) (h2 : so.length ≤ 36) (h3 : ∀ c ∈ so, c < 128) (hq : ∀ s' h', Nm s' → h <+: h' → Q (.str s') h') :
    wpSs K n (fn_law_twin.body.drop 3) (fin Q) X ⟨[some (.str s), some (.int c), some (.str so), some (.int a), none, none], h⟩ := by
  conv => whnf
  rw [pidx_nat ha hb]
  dsimp only
  rw [get_some (by omega)]
  conv => whnf
  intro k hk
  conv => whnf
  refine ⟨by decide, ?_⟩
  conv => whnf
  refine ⟨by omega, ?_⟩
  conv => whnf
  refine ⟨by omega, ?_⟩
  conv => whnf
  have hm : ∀ x : Int, 0 ≤ x % so.length ∧ x % so.length < so.length := fun x => ⟨Int.emod_nonneg _ (by omega), Int.emod_lt_of_pos _ (by omega)⟩
  rw [pidx_nat (hm _).1 (hm _).2]
  dsimp only
  rw [get_some (by have := hm (k + 1 + c / 8 % (so.length - 1)); omega)]
  conv => whnf
  have hlen := hs.2.1
  rw [pslice_to ha]
  refine ⟨le_line (by rw [List.length_take]; show _ + 1 ≤ _; omega), ?_⟩
  conv => whnf
  rw [pslice_from (by omega)]
  refine ⟨le_line (by rw [List.length_append, List.length_take, List.length_drop]; show _ + 1 + _ ≤ _; omega), ?_⟩
  refine kw_end hK 5 rfl ⟨by simp, ?_, ?_⟩ hq
  · rw [List.length_append, List.length_append, List.length_take, List.length_drop]; show _ + 1 + _ ≤ _; omega
  · intro c hc
    rcases List.mem_append.mp hc with h | h
    · rcases List.mem_append.mp h with h | h
      · exact hs.2.2 c (List.mem_of_mem_take h)
      · simp only [List.mem_singleton] at h; subst h; exact h3 _ (List.getElem_mem _)
    · exact hs.2.2 c (List.mem_of_mem_drop h)

theorem k_twin {n : Nat} {s : List Nat} {c : Int} {Q : MV → List MO → Prop} {X : XT} {h : List MO} (hs : Nm s) (hq : ∀ s' h', Nm s' → h <+: h' → Q (.str s') h') : K (n + 1) 8 [.str s, .int c] Q X h := by
  refine hK _ _ _ _ _ _ fn_law_twin rfl rfl ?_
  have hp : 0 < s.length := List.length_pos_iff.mpr hs.1
  conv => whnf
  refine ⟨by omega, ?_⟩
  conv => whnf
  have h0 : 0 ≤ c % (s.length : Int) := Int.emod_nonneg _ (by omega)
  have h1 : c % (s.length : Int) < s.length := Int.emod_lt_of_pos _ (by omega)
  by_cases q : 0 < c % (s.length : Int)
  · rw [decide_eq_true q]
    conv => whnf
    refine ⟨le_line (by decide), ?_⟩
    exact twin_rest hK (so := abc36) hs h0 h1 (by decide) (by decide) abc36_lt hq
  · rw [decide_eq_false q]
    exact twin_rest hK (so := abc) hs h0 h1 (by decide) (by decide) abc_lt hq
end Mine
end
section
set_option autoImplicit false
namespace Mine

noncomputable def lt26 (x : Int) : Nat := 97 + (x % 26).toNat
theorem abc_at (x : Int) : abc[(x % 26).toNat]? = some (lt26 x) := by
  have h : ∀ i, i < 26 → abc[i]? = some (97 + i) := by decide
  exact h _ (by omega)
theorem lt26_lt (x : Int) : lt26 x < 128 := by unfold lt26; omega
noncomputable def cand (p : List Nat) (o : Int) (j : Nat) : List Nat := p ++ [lt26 (o + 5 * j)]
theorem cand_ne {p : List Nat} {o : Int} {i j : Nat} (h : i < j) (hj : j ≤ 9) : cand p o i ≠ cand p o j := fun e => by
  unfold cand at e
  have := List.append_cancel_left e
  simp only [List.cons.injEq, and_true] at this
  unfold lt26 at this
  omega
theorem cand_in {p : List Nat} {o : Int} {ss : List (List Nat)} (hl : ss.length ≤ 9) (h : ∀ i, i ≤ 9 → cand p o i ∈ ss) : False := by
  have hn : ((List.range 10).map (cand p o)).Nodup := by
    refine List.pairwise_map.mpr ((List.pairwise_lt_range (n := 10)).imp_of_mem fun {a b} ha hb hlt => cand_ne hlt ?_)
    simp at hb; omega
  have := pigeon _ ss hn fun x hx => by
    obtain ⟨i, hi, rfl⟩ := List.mem_map.mp hx
    simp at hi
    exact h i (by omega)
  simp at this; omega

/-- how many turns are left -/
noncomputable def Ph (ss : List (List Nat)) (i : Int) (k : Nat) (s : List Nat) (u : Int) : Prop :=
  21 - s.length ≤ k ∨ ∃ p o j, p.length = 7 ∧ j ≤ 9 ∧ s = cand p o j ∧ (∀ i', i' < j → cand p o i' ∈ ss) ∧ u + 8 + i = o + 5 * ((j : Int) + 1) ∧ 11 - j ≤ k

theorem ph_step {ss : List (List Nat)} {i : Int} {k : Nat} {s : List Nat} {u : Int} (hs : Nm s) (hl : ss.length ≤ 9) (hin : s ∈ ss ∨ s ∈ kws) (h : Ph ss i (k + 1) s u) :
    Nm (s.take 7 ++ [lt26 (u + s.length + i)]) ∧ Ph ss i k (s.take 7 ++ [lt26 (u + s.length + i)]) (u + 5) := by
  have hlen := hs.2.1
  have hne : 0 < s.length := List.length_pos_iff.mpr hs.1
  refine ⟨⟨by simp, by simp; omega, fun c hc => ?_⟩, ?_⟩
  · rcases List.mem_append.mp hc with h | h
    · exact hs.2.2 c (List.mem_of_mem_take h)
    · simp only [List.mem_singleton] at h; subst h; exact lt26_lt _
  · rcases h with h | ⟨p, o, j, hp, hj, hc, hv, hu, hk⟩
    · by_cases q : s.length = 8
      · refine .inr ⟨s.take 7, u + s.length + i, 0, by rw [List.length_take]; omega, by omega, ?_, fun i' hi => by omega, by omega, by omega⟩
        unfold cand; simp
      · refine .inl ?_
        rw [List.length_append, List.length_take]
        show 21 - (min 7 s.length + 1) ≤ k
        omega
    · have h8 : s.length = 8 := by rw [hc]; unfold cand; rw [List.length_append, hp]; rfl
      have hss : s ∈ ss := hin.elim id fun q => by have := kws_len s q; omega
      by_cases q : j = 9
      · subst q
        exact (cand_in (p := p) (o := o) hl fun i' hi => by
          by_cases q : i' = 9
          · subst q; rw [← hc]; exact hss
          · exact hv i' (by omega)).elim
      · refine .inr ⟨p, o, j + 1, hp, by omega, ?_, fun i' hi => ?_, by omega, by omega⟩
        · have : s.take 7 = p := by rw [hc]; unfold cand; rw [← hp]; simp
          rw [this, h8]
          unfold cand
          congr 3
        · by_cases q : i' = j
          · subst q; rw [← hc]; exact hss
          · exact hv i' (by omega)

variable {K : KT} (hK : Closed (fnP tab) K)
include hK

theorem names_while {n : Nat} {s : List Nat} {o u i : Int} {r : Nat} {ss : List (List Nat)} {hp : List MO} {Q : Fl → MS → Prop} {X : XM} (hr : hp[r]? = some (.list (ss.map .str))) (hss : ∀ s ∈ ss, Nm s) (hl : ss.length ≤ 9) (hs : Nm s)
    (hq : ∀ s' u' hp', Nm s' → s' ∉ ss → s' ∉ kws → hp <+: hp' → Q .next ⟨[some (.int o), some (.int u'), some (.ref r), some (.int i), some (.str s')], hp'⟩) :
    wpS K n (.while_ (.or [.cmp .inn (.var 4) (.var 2), .cmp .inn (.var 4) (.list [.cst (.str [115, 101, 116]), .cst (.str [116, 101, 108, 108]), .cst (.str [115, 107, 105, 112]), .cst (.str [105, 102]), .cst (.str [101, 108, 115, 101]), .cst (.str [119, 104, 105, 108, 101]), .cst (.str [101, 110, 100])])])
      [.asg [4] false (.bin .add (.sl (.var 4) none (some (.cst (.int 7)))) (.idx (.cst (.str [97, 98, 99, 100, 101, 102, 103, 104, 105, 106, 107, 108, 109, 110, 111, 112, 113, 114, 115, 116, 117, 118, 119, 120, 121, 122])) (.bin .mod (.bin .add (.bin .add (.var 1) (.blt .len [.var 4])) (.var 3)) (.cst (.int 26))))), .asg [1] false (.bin .add (.var 1) (.cst (.int 5)))])
      Q X ⟨[some (.int o), some (.int u), some (.ref r), some (.int i), some (.str s)], hp⟩ := by
  unfold wpS
  refine ⟨30, while_inv (fun k m => ∃ s u hp', m = ⟨[some (.int o), some (.int u), some (.ref r), some (.int i), some (.str s)], hp'⟩ ∧ hp <+: hp' ∧ Nm s ∧ Ph ss i k s u) (fun m ⟨s, u, hp', _, _, hs, h⟩ => ?_) (fun k m W hI hW => ?_) 30 _ ⟨s, u, hp, rfl, pre_self _, hs, .inl (by omega)⟩⟩
  · have := hs.2.1
    rcases h with h | ⟨_, _, j, _, hj, _, _, _, h⟩ <;> omega
  · obtain ⟨s, u, hp', rfl, hpre, hs, hph⟩ := hI
    have body : ∀ hp'', hp <+: hp'' → (s ∈ ss ∨ s ∈ kws) → wpSs K n [.asg [4] false (.bin .add (.sl (.var 4) none (some (.cst (.int 7)))) (.idx (.cst (.str [97, 98, 99, 100, 101, 102, 103, 104, 105, 106, 107, 108, 109, 110, 111, 112, 113, 114, 115, 116, 117, 118, 119, 120, 121, 122])) (.bin .mod (.bin .add (.bin .add (.var 1) (.blt .len [.var 4])) (.var 3)) (.cst (.int 26))))), .asg [1] false (.bin .add (.var 1) (.cst (.int 5)))]
        (fun f m => match f with
        | .next => W m
        | .cont => W m
        | .brk => Q .next m
        | .ret r => Q (.ret r) m) X ⟨[some (.int o), some (.int u), some (.ref r), some (.int i), some (.str s)], hp''⟩ := fun hp'' hpre hin => by
      obtain ⟨g1, g2⟩ := ph_step hs hl hin hph
      conv => whnf
      refine ⟨by decide, ?_⟩
      conv => whnf
      rw [pidx_nat (by omega) (by show (_ : Int) < 26; omega)]
      dsimp only
      rw [abc_at]
      conv => whnf
      rw [pslice_to (by decide)]
      refine ⟨le_line (by have := hs.2.1; rw [List.length_take]; show _ + 1 ≤ _; omega), ?_⟩
      exact hW _ ⟨_, _, hp'', rfl, hpre, g1, g2⟩
    conv => whnf
    rw [pre_at hpre hr]
    dsimp only
    refine in_strs hs.ok (fun t ht => (hss t ht).ok) ?_
    cases hc : ss.contains s with
    | true => exact body hp' hpre (.inl (by simpa using hc))
    | false =>
      conv => whnf
      rw [get_push]
      show InP _ _ (kws.map .str) _
      refine in_strs hs.ok kws_ok ?_
      cases hc' : kws.contains s with
      | true => exact body _ (pre_push hpre) (.inr (by simpa using hc'))
      | false => exact hq s u _ hs (by simpa using hc) (by simpa using hc') (pre_push hpre)

theorem k_names {n : Nat} {a b : Int} {Q : MV → List MO → Prop} {X : XT} {h : List MO} (hq : ∀ (h' : List MO) (r : Nat) (ss : List (List Nat)), h <+: h' → h.length ≤ r → h'[r]? = some (.list (ss.map .str)) → ss.length = 10 → (∀ s ∈ ss, Nm s) → ss.Nodup → (∀ s ∈ ss, s ∉ kws) → Q (.ref r) h') :
    K (n + 3) 9 [.int a, .int b] Q X h := by
  refine hK _ _ _ _ _ _ fn_law_names rfl rfl ?_
  conv => whnf
  refine forL_inv (fun i m => ∃ (o u : Int) (ss : List (List Nat)) (w3 w4 : Option MV) (hp : List MO), m = ⟨[some (.int o), some (.int u), some (.ref h.length), w3, w4], hp⟩ ∧ h <+: hp ∧ hp[h.length]? = some (.list (ss.map .str)) ∧ ss.length = i ∧ (∀ s ∈ ss, Nm s) ∧ ss.Nodup ∧ (∀ s ∈ ss, s ∉ kws)) (fun _ _ => False)
    ⟨a, b, [], none, none, _, rfl, pre_push (pre_self _), get_last _ _, rfl, by simp, List.nodup_nil, by simp⟩ (fun _ _ _ => trivial) (fun i y m P hy hI hn _ _ => ?_) (fun m hI => ?_) (fun _ _ h => h.elim)
  · obtain ⟨hi, rfl⟩ := range_at hy
    obtain ⟨o, u, ss, w3, w4, hp, rfl, hpre, hr, hl, hss, hnd, hkw⟩ := hI
    have hi : i < 10 := hi
    have rest : ∀ s hp', Nm s → hp <+: hp' → wpSs K (n + 2) (match fn_law_names.body with
      | [_, .for_ _ _ _ _ b, _] => b.drop 3
      | _ => []) P (fun c m => X c m.heap) ⟨[some (.int (mix o)), some (.int u), some (.ref h.length), some (.int i), some (.str s)], hp'⟩ := fun s hp' hs hpre' => by
      unfold wpSs
      refine names_while hK (pre_at hpre' hr) hss (by omega) hs fun s' u' hp'' hs' h1 h2 hpre'' => ?_
      have hr' := pre_at (hpre'.trans hpre'') hr
      conv => whnf
      rw [ok_append hr']
      conv => whnf
      rw [hr']
      refine ⟨by simp only [List.length_map]; unfold line; omega, ?_⟩
      refine hn _ ⟨_, _, ss ++ [s'], _, _, _, rfl, pre_set ((hpre.trans hpre').trans hpre'') (Nat.le_refl _), ?_, by simp [hl], ?_, ?_, ?_⟩
      · rw [get_set hr']; simp
      · intro t ht
        rcases List.mem_append.mp ht with ht | ht
        · exact hss t ht
        · simp at ht; subst ht; exact hs'
      · rw [List.nodup_append]
        exact ⟨hnd, by simp, fun t ht t' ht' => by simp at ht'; subst ht'; exact fun q => h1 (q ▸ ht)⟩
      · intro t ht
        rcases List.mem_append.mp ht with ht | ht
        · exact hkw t ht
        · simp at ht; subst ht; exact h2
    conv => whnf
    refine k_mixed hK ?_
    conv => whnf
    refine ⟨by decide, ?_⟩
    conv => whnf
    refine k_name_by hK fun s h' hs hpre' => ?_
    conv => whnf
    refine ⟨by decide, ?_⟩
    conv => whnf
    have hpre' : hp <+: h' := hpre'
    cases hodd : ((i : Int) % 2 == 1) with
    | false => exact rest s h' hs hpre'
    | true =>
      have hodd : (i : Int) % 2 = 1 := by simpa using hodd
      conv => whnf
      refine ⟨by decide, ?_⟩
      conv => whnf
      refine ⟨by decide, ?_⟩
      conv => whnf
      cases hu : (u / 4 % 2 == 1) with
      | false => exact rest s h' hs hpre'
      | true =>
        conv => whnf
        dsimp only [MS.set, List.set]
        rw [pre_at hpre' hr]
        dsimp only
        have hlt : i - 1 < ss.length := by omega
        rw [pidx_nat (by omega) (by rw [List.length_map]; omega)]
        dsimp only
        have e1 : ((i : Int) - 1).toNat = i - 1 := by omega
        rw [e1, List.getElem?_map, get_some hlt]
        conv => whnf
        refine k_mixed hK ?_
        conv => whnf
        refine k_twin hK (hss _ (List.getElem_mem _)) fun s' h'' hs' hpre'' => ?_
        exact rest s' h'' hs' (hpre'.trans hpre'')
  · obtain ⟨o, u, ss, w3, w4, hp, rfl, hpre, hr, hl, hss, hnd, hkw⟩ := hI
    exact hq hp h.length ss hpre (Nat.le_refl _) hr hl hss hnd hkw
end Mine
end
section
set_option autoImplicit false
namespace Mine

inductive Tm where
  | num (k : Int) | nm (s : List Nat) | op (c : Nat) (a b : Tm)
noncomputable abbrev sNum : List Nat := [110, 117, 109, 98, 101, 114]
noncomputable abbrev sName : List Nat := [110, 97, 109, 101]
noncomputable def Tm.mv : Tm → MV
  | .num k => .tup [.str sNum, .int k]
  | .nm s => .tup [.str sName, .str s]
  | .op c a b => .tup [.str [c], a.mv, b.mv]
noncomputable def Tm.deep : Tm → Nat
  | .op _ a b => max a.deep b.deep + 1
  | _ => 0
noncomputable def isSign (c : Nat) : Prop := c = 43 ∨ c = 45 ∨ c = 42 ∨ c = 60 ∨ c = 61 ∨ c = 47
noncomputable def Tm.ok (p : List Nat → Prop) : Tm → Prop
  | .num k => 0 ≤ k ∧ k < 1000000
  | .nm s => p s
  | .op c a b => isSign c ∧ a.ok p ∧ b.ok p
theorem Tm.ok.mono {p q : List Nat → Prop} (h : ∀ s, p s → q s) : ∀ {t : Tm}, t.ok p → t.ok q
  | .num _, x => x
  | .nm s, x => h s x
  | .op _ _ _, ⟨x, y, z⟩ => ⟨x, y.mono h, z.mono h⟩

theorem deeps_strs : ∀ (ss : List (List Nat)), D.deeps (ss.map .str) = 0
  | [] => rfl
  | s :: ss => by simp only [List.map_cons, D.deeps, D.deep, deeps_strs ss]; rfl
theorem ne_nil {hp : List MO} {r r' : Nat} {ss : List (List Nat)} {Q : Bool → Prop} (h1 : hp[r]? = some (.list (ss.map .str))) (h2 : hp[r']? = some (.list [])) (hs : ∀ s ∈ ss, okS s) (hq : Q (decide (ss = []))) : EqP hp (.ref r) (.ref r') Q := by
  refine .mk (.list (ss.map .str)) (.list []) (.list h1 (rds_strs ss)) (.list h2 .nil) ?_ (oks_strs hs) rfl ?_
  · show D.deeps _ + 1 ≤ 1000
    rw [deeps_strs]; decide
  · cases ss <;> exact hq

variable {K : KT} (hK : Closed (fnP tab) K)
include hK

theorem k_end_by {n : Nat} {x : Int} {r : Nat} {ss : List (List Nat)} {Q : MV → List MO → Prop} {X : XT} {h : List MO} (hr : h[r]? = some (.list (ss.map .str))) (hs : ∀ s ∈ ss, okS s) (hq : ∀ t h', Tm.ok (· ∈ ss) t → t.deep = 0 → h <+: h' → Q t.mv h') :
    K (n + 1) 10 [.int x, .ref r] Q X h := by
  refine hK _ _ _ _ _ _ fn_law_end_by rfl rfl ?_
  have rest : ∀ h', h <+: h' → wpSs K n (fn_law_end_by.body.drop 1) (fin Q) (fun c m => X c m.heap) ⟨[some (.int x), some (.ref r)], h'⟩ := fun h' hpre => by
    conv => whnf
    refine ⟨by decide, ?_⟩
    conv => whnf
    refine ⟨by decide, ?_⟩
    conv => whnf
    cases hc : (x / 3 % 4 == 0) with
    | true =>
      conv => whnf
      refine ⟨by decide, ?_⟩
      conv => whnf
      refine ⟨by decide, ?_⟩
      conv => whnf
      refine ⟨by decide, ?_⟩
      exact hq (.num (x / 12 % 10 ^ (6 : Int).toNat)) h' (by show _ ∧ _; have : (10 : Int) ^ (6 : Int).toNat = 1000000 := by decide
                                                             rw [this]; omega) rfl hpre
    | false =>
      conv => whnf
      refine ⟨by decide, ?_⟩
      conv => whnf
      refine ⟨by decide, ?_⟩
      exact hq (.num (x / 12 % 5)) h' (by show _ ∧ _; omega) rfl hpre
  conv => whnf
  refine ne_nil (ss := ss) (get_push_old hr) get_push hs ?_
  by_cases hn : ss = []
  · rw [decide_eq_true hn]
    exact rest _ (pre_push (pre_self _))
  · rw [decide_eq_false hn]
    conv => whnf
    refine ⟨by decide, ?_⟩
    conv => whnf
    have hpos : 0 < ss.length := List.length_pos_iff.mpr hn
    by_cases hc : 0 < x % 3
    · rw [decide_eq_true hc]
      conv => whnf
      refine ⟨by decide, ?_⟩
      conv => whnf
      rw [get_push_old hr]
      conv => whnf
      rw [List.length_map]
      refine ⟨by omega, ?_⟩
      conv => whnf
      rw [get_push_old hr]
      dsimp only
      have h1 : 0 ≤ x / 3 % (ss.length : Int) := Int.emod_nonneg _ (by omega)
      have h2 : x / 3 % (ss.length : Int) < ss.length := Int.emod_lt_of_pos _ (by omega)
      rw [pidx_nat h1 (by rw [List.length_map]; exact h2)]
      dsimp only
      rw [List.getElem?_map, get_some (by omega)]
      exact hq (.nm _) _ (List.getElem_mem _) rfl (pre_push (pre_self _))
    · rw [decide_eq_false hc]
      exact rest _ (pre_push (pre_self _))
end Mine
end
section
set_option autoImplicit false
namespace Mine

theorem signs10_at : ∀ j, j < 10 → ∃ c, isSign c ∧ [MV.str [43], MV.str [45], MV.str [42], MV.str [60], MV.str [61], MV.str [43], MV.str [45], MV.str [60], MV.str [47], MV.str [47]][j]? = some (.str [c])
  | 0, _ => ⟨43, by unfold isSign; omega, rfl⟩
  | 1, _ => ⟨45, by unfold isSign; omega, rfl⟩
  | 2, _ => ⟨42, by unfold isSign; omega, rfl⟩
  | 3, _ => ⟨60, by unfold isSign; omega, rfl⟩
  | 4, _ => ⟨61, by unfold isSign; omega, rfl⟩
  | 5, _ => ⟨43, by unfold isSign; omega, rfl⟩
  | 6, _ => ⟨45, by unfold isSign; omega, rfl⟩
  | 7, _ => ⟨60, by unfold isSign; omega, rfl⟩
  | 8, _ => ⟨47, by unfold isSign; omega, rfl⟩
  | 9, _ => ⟨47, by unfold isSign; omega, rfl⟩
  | _ + 10, h => by omega
theorem signs6_at : ∀ j, j < 6 → ∃ c, isSign c ∧ [MV.str [43], MV.str [45], MV.str [42], MV.str [47], MV.str [60], MV.str [61]][j]? = some (.str [c])
  | 0, _ => ⟨43, by unfold isSign; omega, rfl⟩
  | 1, _ => ⟨45, by unfold isSign; omega, rfl⟩
  | 2, _ => ⟨42, by unfold isSign; omega, rfl⟩
  | 3, _ => ⟨47, by unfold isSign; omega, rfl⟩
  | 4, _ => ⟨60, by unfold isSign; omega, rfl⟩
  | 5, _ => ⟨61, by unfold isSign; omega, rfl⟩
  | _ + 6, h => by omega

variable {K : KT} (hK : Closed (fnP tab) K)
include hK

theorem k_formula : ∀ (L : Nat) {n : Nat} {x l : Int} {r rl : Nat} {d : Bool} {ss sl : List (List Nat)} {Q : MV → List MO → Prop} {X : XT} {h : List MO}, l = (L : Int) + 1 → h[r]? = some (.list (ss.map .str)) → h[rl]? = some (.list (sl.map .str)) → (∀ s ∈ ss, okS s) → (∀ s ∈ sl, okS s) →
    (∀ t h', Tm.ok (fun s => s ∈ ss ∨ s ∈ sl) t → t.deep ≤ L → h <+: h' → Q t.mv h') → K (n + L + 2) 11 [.int x, .ref r, .ref rl, .bool d, .int l] Q X h := by
  intro L
  induction L with
  | zero =>
    intro n x l r rl d ss sl Q X h hl hr hrl hs hsl hq
    refine hK _ _ _ _ _ _ fn_law_formula_by rfl rfl ?_
    conv => whnf
    refine k_mixed hK ?_
    conv => whnf
    have e : (l == 1) = true := by simp [hl]
    rw [e]
    conv => whnf
    refine ⟨by decide, ?_⟩
    conv => whnf
    refine k_end_by hK hr hs fun t h' ht hd hpre => ?_
    exact hq t h' (ht.mono fun s => .inl) (by omega) hpre
  | succ L ih =>
    intro n x l r rl d ss sl Q X h hl hr hrl hs hsl hq
    refine hK _ _ _ _ _ _ fn_law_formula_by rfl rfl ?_
    conv => whnf
    refine k_mixed hK ?_
    conv => whnf
    have e : (l == 1) = false := by simp [hl]; omega
    rw [e]
    conv => whnf
    refine ⟨by decide, ?_⟩
    conv => whnf
    by_cases hc : mix x % 8 < 3
    · rw [decide_eq_true hc]
      conv => whnf
      refine ⟨by decide, ?_⟩
      conv => whnf
      refine k_end_by hK hr hs fun t h' ht hd hpre => ?_
      exact hq t h' (ht.mono fun s => .inl) (by omega) hpre
    · rw [decide_eq_false hc]
      conv => whnf
      refine ⟨by decide, ?_⟩
      conv => whnf
      rw [get_push]
      dsimp only
      rw [pidx_b2i]
      dsimp only
      rw [get_b2n]
      have hj : ∃ j : Int, (j = 8 ∨ j = 10) ∧ sel d (MV.int 8) (.int 10) = .int j := by
        cases d
        · exact ⟨8, .inl rfl, rfl⟩
        · exact ⟨10, .inr rfl, rfl⟩
      obtain ⟨j, hj, e1⟩ := hj
      rw [e1]
      conv => whnf
      refine ⟨by omega, ?_⟩
      conv => whnf
      rw [get_push2]
      dsimp only
      have h1 : 0 ≤ mix x / 8 % j := Int.emod_nonneg _ (by omega)
      have h2 : mix x / 8 % j < j := Int.emod_lt_of_pos _ (by omega)
      rw [pidx_nat h1 (by show _ < (10 : Int); omega)]
      dsimp only
      obtain ⟨c, hcs, e3⟩ := signs10_at (mix x / 8 % j).toNat (by omega)
      rw [e3]
      conv => whnf
      refine ⟨.inr (by unfold small; decide), ?_⟩
      conv => whnf
      have er : n + (L + 1) + 1 = n + L + 2 := by omega
      rw [er]
      have hp0 : ∀ o o', h <+: (h ++ [o]) ++ [o'] := fun o o' => pre_push (pre_push (pre_self _))
      refine ih (by omega) (pre_at (hp0 _ _) hr) (pre_at (hp0 _ _) hrl) hs hsl fun t h₁ ht hd hpre0 => ?_
      have hpre : h <+: h₁ := (hp0 _ _).trans hpre0
      clear hpre0
      have last : ∀ {h₂ : List MO} {rr : Nat} {sr : List (List Nat)} {V : List MO → List (Option MV)}, h₂[rr]? = some (.list (sr.map .str)) → h₂[rl]? = some (.list (sl.map .str)) → h <+: h₂ → (∀ s ∈ sr, okS s) → (∀ s, s ∈ sr ∨ s ∈ sl → s ∈ ss ∨ s ∈ sl) →
          K (n + L + 2) 11 [.int (mix x * 5 + 2), .ref rr, .ref rl, .bool d, .int (l - 1)] (fun v h' => Q (.tup [.str [c], t.mv, v]) h') (fun c h' => X c h') h₂ := fun {h₂ rr sr V} g1 g2 hp2 g3 g4 => by
        refine ih (by omega) g1 g2 g3 hsl fun t' h' ht' hd' hpre' => ?_
        refine hq (.op c t t') h' ⟨hcs, ht, ht'.mono g4⟩ ?_ (hp2.trans hpre')
        show max t.deep t'.deep + 1 ≤ _
        omega
      conv => whnf
      by_cases h47 : c = 47
      · subst h47
        conv => whnf
        refine ⟨by decide, ?_⟩
        conv => whnf
        refine ⟨by decide, ?_⟩
        conv => whnf
        by_cases h3 : mix x / 80 % 4 < 3
        · rw [decide_eq_true h3]
          conv => whnf
          refine ⟨by decide, ?_⟩
          conv => whnf
          refine ⟨by decide, ?_⟩
          refine hq (.op 47 t (.num (1 + mix x / 320 % 9))) h₁ ⟨hcs, ht, by show _ ∧ _; omega⟩ ?_ hpre
          show max t.deep 0 + 1 ≤ _
          omega
        · rw [decide_eq_false h3]
          conv => whnf
          refine ⟨.inr (by unfold small; decide), ?_⟩
          conv => whnf
          exact last (V := fun _ => []) (pre_at hpre hrl) (pre_at hpre hrl) hpre hsl fun s hs => hs.elim .inr .inr
      · have e47 : ([c] == [47]) = false := by simpa using h47
        rw [e47]
        conv => whnf
        rw [e47]
        conv => whnf
        refine ⟨.inr (by unfold small; decide), ?_⟩
        conv => whnf
        exact last (V := fun _ => []) (pre_at hpre hr) (pre_at hpre hrl) hpre hs fun s hs => hs
end Mine
end
section
set_option autoImplicit false
namespace Mine
variable {K : KT} (hK : Closed (fnP tab) K)
include hK

theorem k_deep {n : Nat} {x : Int} {r : Nat} {ss : List (List Nat)} {Q : MV → List MO → Prop} {X : XT} {h : List MO} (hr : h[r]? = some (.list (ss.map .str))) (hs : ∀ s ∈ ss, okS s)
    (hq : ∀ t h', Tm.ok (· ∈ ss) t → t.deep ≤ 11 → h <+: h' → Q t.mv h') : K (n + 8) 12 [.int x, .ref r] Q X h := by
  refine hK _ _ _ _ _ _ fn_law_deep_formula rfl rfl ?_
  conv => whnf
  refine ⟨by decide, ?_⟩
  conv => whnf
  cases hc : (x % 8 == 1) with
  | false =>
    conv => whnf
    refine ⟨by decide, ?_⟩
    conv => whnf
    refine ⟨by decide, ?_⟩
    conv => whnf
    have e : (n + 7) = (n + 5 - (x / 8 % 5).toNat) + (x / 8 % 5).toNat + 2 := by omega
    rw [e]
    refine k_formula hK (x / 8 % 5).toNat (by omega) hr hr hs hs fun t h' ht hd hpre => ?_
    exact hq t h' (ht.mono fun s h => h.elim id id) (by omega) hpre
  | true =>
    conv => whnf
    refine k_end_by hK hr hs fun t h₁ ht hd hpre => ?_
    have hpre : h <+: h₁ := hpre
    conv => whnf
    refine ⟨by decide, ?_⟩
    conv => whnf
    refine ⟨by decide, ?_⟩
    conv => whnf
    rw [iter_range1 (by omega) (by omega)]
    dsimp only
    refine forL_inv (fun i m => ∃ (t : Tm) (z : Int) (w4 w5 w6 : Option MV) (hp : List MO), m = ⟨[some (.int x), some (.ref r), some t.mv, some (.int z), w4, w5, w6], hp⟩ ∧ t.ok (· ∈ ss) ∧ t.deep ≤ i ∧ h <+: hp) (fun _ _ => False)
      ⟨t, x, none, none, none, _, rfl, ht, by omega, hpre⟩ (fun _ _ _ => trivial) (fun i y m P hy hI hn _ _ => ?_) (fun m hI => ?_) (fun _ _ h => h.elim)
    · obtain ⟨hi, rfl⟩ := range_at hy
      obtain ⟨t, z, w4, w5, w6, hp, rfl, ht, hd, hpre⟩ := hI
      conv => whnf
      refine k_mixed hK ?_
      conv => whnf
      refine ⟨by decide, ?_⟩
      conv => whnf
      refine k_end_by hK (pre_at hpre hr) hs fun t' h₂ ht' hd' hpre' => ?_
      have hpre' : hp <+: h₂ := hpre'
      conv => whnf
      refine ⟨by decide, ?_⟩
      conv => whnf
      rw [get_push]
      dsimp only
      rw [pidx_nat (by omega) (by show _ < (6 : Int); omega)]
      dsimp only
      obtain ⟨c, hcs, e3⟩ := signs6_at (mix z % 6).toNat (by omega)
      rw [e3]
      conv => whnf
      refine ⟨by decide, ?_⟩
      conv => whnf
      refine ⟨by decide, ?_⟩
      conv => whnf
      rw [get_push]
      dsimp only
      rw [pidx_nat (by omega) (by show _ < (2 : Int); omega)]
      dsimp only
      have hpp : ∀ o o', h <+: (h₂ ++ [o]) ++ [o'] := fun o o' => pre_push (pre_push (hpre.trans hpre'))
      by_cases h0 : mix z / 6 % 2 = 0
      · have e0 : (mix z / 6 % 2).toNat = 0 := by omega
        rw [e0]
        refine hn _ ⟨.op c t t', mix z, _, _, _, _, rfl, ⟨hcs, ht, ht'⟩, ?_, hpp _ _⟩
        show max t.deep t'.deep + 1 ≤ _
        omega
      · have e0 : (mix z / 6 % 2).toNat = 1 := by omega
        rw [e0]
        refine hn _ ⟨.op c t' t, mix z, _, _, _, _, rfl, ⟨hcs, ht', ht⟩, ?_, hpp _ _⟩
        show max t'.deep t.deep + 1 ≤ _
        omega
    · obtain ⟨t, z, w4, w5, w6, hp, rfl, ht, hd, hpre⟩ := hI
      rw [range_len] at hd
      exact hq t hp ht (by omega) hpre
end Mine
end
section
set_option autoImplicit false
namespace Mine

noncomputable def ofO : Option Int → MV
  | none => .none
  | some i => .int i
noncomputable def jn (c : Nat) (x y : Int) : Option Int :=
  if c = 43 then some ((x + y) % 1000000) else if c = 45 then some ((x - y) % 1000000) else if c = 42 then some (x * y % 1000000)
  else if c = 60 then some (b2i (decide (x < y))) else if c = 61 then some (b2i (x == y)) else match y == 0 with
    | true => none
    | false => some (x / y)
noncomputable def rk (es : List (List Nat × MV)) : Tm → Option Int
  | .num k => some k
  | .nm s => match dget es s with
    | some (.int v) => some v
    | _ => none
  | .op c a b => match rk es a, rk es b with
    | some x, some y => jn c x y
    | _, _ => none
noncomputable def In6 (v : Int) : Prop := 0 ≤ v ∧ v < 1000000
noncomputable def Good (es : List (List Nat × MV)) (p : List Nat → Prop) : Prop := ∀ s, p s → ∃ v, dget es s = some (.int v) ∧ In6 v
theorem b2i_in (b : Bool) : In6 (b2i b) := by unfold In6; cases b <;> decide
theorem jn_in {c : Nat} {x y v : Int} (hx : In6 x) (hy : In6 y) (h : jn c x y = some v) : In6 v := by
  unfold jn at h
  unfold In6 at *
  repeat' split at h
  all_goals cases h
  all_goals first
    | exact ⟨Int.emod_nonneg _ (by decide), Int.emod_lt_of_pos _ (by decide)⟩
    | exact b2i_in _
    | exact ⟨Int.ediv_nonneg hx.1 hy.1, Int.lt_of_le_of_lt (Int.ediv_le_self y hx.1) hx.2⟩
theorem rk_in {es : List (List Nat × MV)} {p : List Nat → Prop} (g : Good es p) : ∀ {t : Tm} {v : Int}, t.ok p → rk es t = some v → In6 v
  | .num k, v, ht, h => by cases h; exact ht
  | .nm s, v, ht, h => by
    obtain ⟨u, e, hu⟩ := g s ht
    simp only [rk, e] at h
    cases h; exact hu
  | .op c a b, v, ht, h => by
    simp only [rk] at h
    split at h
    · rename_i x y e1 e2
      exact jn_in (rk_in g ht.2.1 e1) (rk_in g ht.2.2 e2) h
    · cases h

variable {K : KT} (hK : Closed (fnP tab) K)
include hK

theorem k_joined {N c : Nat} {x y : Int} {Q : MV → List MO → Prop} {X : XT} {h : List MO} (hN : 1 ≤ N) (hc : isSign c) (hx : In6 x) (hy : In6 y) (hq : Q (ofO (jn c x y)) h) : K N 17 [.str [c], .int x, .int y] Q X h := by
  obtain ⟨n, rfl⟩ : ∃ n, N = n + 1 := ⟨N - 1, by omega⟩
  refine hK _ _ _ _ _ _ fn_joined rfl rfl ?_
  unfold In6 at hx hy
  rcases hc with rfl | rfl | rfl | rfl | rfl | rfl
  · conv => whnf
    exact ⟨by decide, hq⟩
  · conv => whnf
    exact ⟨by decide, hq⟩
  · conv => whnf
    refine ⟨.inr (by unfold small; omega), ?_⟩
    conv => whnf
    exact ⟨by decide, hq⟩
  · conv => whnf
    exact hq
  · conv => whnf
    exact hq
  · conv => whnf
    cases h0 : (y == 0) with
    | true =>
      have e : jn 47 x y = none := by simp only [jn, h0]; rfl
      rw [e] at hq; exact hq
    | false =>
      have e : jn 47 x y = some (x / y) := by simp only [jn, h0]; rfl
      have : y ≠ 0 := by simpa using h0
      conv => whnf
      rw [e] at hq
      exact ⟨by omega, hq⟩

theorem k_reck {es : List (List Nat × MV)} {p : List Nat → Prop} (g : Good es p) {r : Nat} : ∀ (t : Tm) {N : Nat} {Q : MV → List MO → Prop} {X : XT} {h : List MO}, t.deep + 2 ≤ N → h[r]? = some (.dict es) → t.ok p → Q (ofO (rk es t)) h → K N 18 [t.mv, .ref r] Q X h := by
  intro t
  induction t with
  | num k =>
    intro N Q X h hN hr ht hq
    obtain ⟨n, rfl⟩ : ∃ n, N = n + 1 := ⟨N - 1, by omega⟩
    refine hK _ _ _ _ _ _ fn_reckoned rfl rfl ?_
    conv => whnf
    exact hq
  | nm s =>
    intro N Q X h hN hr ht hq
    obtain ⟨n, rfl⟩ : ∃ n, N = n + 1 := ⟨N - 1, by omega⟩
    refine hK _ _ _ _ _ _ fn_reckoned rfl rfl ?_
    obtain ⟨v, e, _⟩ := g s ht
    conv => whnf
    dsimp only [start]
    rw [hr]
    dsimp only
    rw [e]
    simp only [rk, e] at hq
    exact hq
  | op c a b iha ihb =>
    intro N Q X h hN hr ht hq
    obtain ⟨n, rfl⟩ : ∃ n, N = n + 1 := ⟨N - 1, by omega⟩
    have hN : max a.deep b.deep + 1 + 2 ≤ n + 1 := hN
    refine hK _ _ _ _ _ _ fn_reckoned rfl rfl ?_
    obtain ⟨hc, ha, hb⟩ := ht
    have key : wpSs K n (fn_reckoned.body.drop 2) (fin Q) (fun c m => X c m.heap) ⟨[some (Tm.op c a b).mv, some (.ref r), none, none], h⟩ := by
      conv => whnf
      refine iha (by omega) hr ha ?_
      conv => whnf
      refine ihb (by omega) hr hb ?_
      simp only [rk] at hq
      cases e1 : rk es a with
      | none =>
        rw [e1] at hq
        exact hq
      | some x =>
        cases e2 : rk es b with
        | none =>
          rw [e1, e2] at hq
          exact hq
        | some y =>
          rw [e1, e2] at hq
          conv => whnf
          exact k_joined hK (by omega) hc (rk_in g ha e1) (rk_in g hb e2) hq
    rcases hc with rfl | rfl | rfl | rfl | rfl | rfl <;> exact key
end Mine
end
section
set_option autoImplicit false
namespace Mine
variable {K : KT} (hK : Closed (fnP tab) K)
include hK

theorem k_lreck {es : List (List Nat × MV)} {p : List Nat → Prop} (g : Good es p) {r : Nat} : ∀ (t : Tm) {N : Nat} {Q : MV → List MO → Prop} {X : XT} {h : List MO}, t.deep + 2 ≤ N → h[r]? = some (.dict es) → t.ok p → (∀ h', h <+: h' → Q (ofO (rk es t)) h') → K N 20 [t.mv, .ref r] Q X h := by
  intro t
  induction t with
  | num k =>
    intro N Q X h hN hr ht hq
    obtain ⟨n, rfl⟩ : ∃ n, N = n + 1 := ⟨N - 1, by omega⟩
    refine hK _ _ _ _ _ _ fn_law_reckoned rfl rfl ?_
    conv => whnf
    exact hq _ (pre_self _)
  | nm s =>
    intro N Q X h hN hr ht hq
    obtain ⟨n, rfl⟩ : ∃ n, N = n + 1 := ⟨N - 1, by omega⟩
    refine hK _ _ _ _ _ _ fn_law_reckoned rfl rfl ?_
    obtain ⟨v, e, _⟩ := g s ht
    conv => whnf
    dsimp only [start]
    rw [hr]
    dsimp only
    rw [e]
    simp only [rk, e] at hq
    exact hq _ (pre_self _)
  | op c a b iha ihb =>
    intro N Q X h hN hr ht hq
    obtain ⟨n, rfl⟩ : ∃ n, N = n + 1 := ⟨N - 1, by omega⟩
    have hN : max a.deep b.deep + 1 + 2 ≤ n + 1 := hN
    refine hK _ _ _ _ _ _ fn_law_reckoned rfl rfl ?_
    obtain ⟨hc, ha, hb⟩ := ht
    have fin' : ∀ (x y : Int) (h₂ : List MO), h <+: h₂ → In6 x → In6 y → (∀ h', h <+: h' → Q (ofO (jn c x y)) h') →
        wpSs K n (fn_law_reckoned.body.drop 4) (fin Q) (fun c m => X c m.heap) ⟨[some (Tm.op c a b).mv, some (.ref r), some (.int x), some (.int y)], h₂⟩ := fun x y h₂ hp hx hy hq => by
      unfold In6 at hx hy
      have e6 : (10 : Int) ^ (6 : Int).toNat = 1000000 := by decide
      rcases hc with rfl | rfl | rfl | rfl | rfl | rfl
      · conv => whnf
        rw [get_push]
        conv => whnf
        refine ⟨by decide, ?_⟩
        conv => whnf
        refine ⟨by decide, ?_⟩
        rw [e6]
        exact hq _ (pre_push hp)
      · conv => whnf
        rw [get_push]
        conv => whnf
        refine ⟨by decide, ?_⟩
        conv => whnf
        refine ⟨by decide, ?_⟩
        rw [e6, ← Int.sub_eq_add_neg]
        exact hq _ (pre_push hp)
      · conv => whnf
        refine ⟨.inr (by unfold small; omega), ?_⟩
        conv => whnf
        refine ⟨by decide, ?_⟩
        conv => whnf
        refine ⟨by decide, ?_⟩
        rw [e6]
        exact hq _ hp
      · conv => whnf
        cases hlt : decide (x < y) with
        | true =>
          simp only [jn, hlt] at hq
          exact hq _ hp
        | false =>
          simp only [jn, hlt] at hq
          conv => whnf
          cases he : (x == y) with
          | true => exact hq _ hp
          | false => exact hq _ hp
      · conv => whnf
        cases hlt : decide (x < y) with
        | true =>
          have : (x == y) = false := by simp at hlt ⊢; omega
          simp only [jn, this] at hq
          conv => whnf
          rw [this]
          exact hq _ hp
        | false =>
          conv => whnf
          cases he : (x == y) with
          | true =>
            simp only [jn, he] at hq
            exact hq _ hp
          | false =>
            simp only [jn, he] at hq
            exact hq _ hp
      · conv => whnf
        cases h0 : (y == 0) with
        | true =>
          have e : jn 47 x y = none := by simp only [jn, h0]; rfl
          rw [e] at hq; exact hq _ hp
        | false =>
          have e : jn 47 x y = some (x / y) := by simp only [jn, h0]; rfl
          have : y ≠ 0 := by simpa using h0
          conv => whnf
          rw [e] at hq
          exact ⟨by omega, hq _ hp⟩
    have key : wpSs K n (fn_law_reckoned.body.drop 2) (fin Q) (fun c m => X c m.heap) ⟨[some (Tm.op c a b).mv, some (.ref r), none, none], h⟩ := by
      conv => whnf
      refine iha (by omega) hr ha fun h₁ hp1 => ?_
      conv => whnf
      refine ihb (by omega) (pre_at hp1 hr) hb fun h₂ hp2 => ?_
      have hp2 : h <+: h₂ := hp1.trans hp2
      simp only [rk] at hq
      cases e1 : rk es a with
      | none =>
        rw [e1] at hq
        exact hq _ hp2
      | some x =>
        cases e2 : rk es b with
        | none =>
          rw [e1, e2] at hq
          exact hq _ hp2
        | some y =>
          rw [e1, e2] at hq
          exact fin' x y h₂ hp2 (rk_in g ha e1) (rk_in g hb e2) hq
    rcases hc with rfl | rfl | rfl | rfl | rfl | rfl <;> exact key

theorem k_whole {n : Nat} {v : Int} {Q : MV → List MO → Prop} {X : XT} {h : List MO} (hq : Q (.bool true) h) : K (n + 1) 19 [.int v] Q X h := by
  refine hK _ _ _ _ _ _ fn_law_whole rfl rfl ?_
  conv => whnf
  exact hq
end Mine
end
section
set_option autoImplicit false
namespace Mine

theorem dget_same : ∀ (es : List (List Nat × MV)) (s : List Nat) (v : MV), dget (dset es s v) s = some v
  | [], s, v => by simp [dset, dget]
  | (k, w) :: r, s, v => by
    unfold dset
    cases e : k == s with
    | true => simp only [dget, e]
    | false => simp only [dget, e]; exact dget_same r s v
theorem dget_other : ∀ (es : List (List Nat × MV)) (s s' : List Nat) (v : MV), s ≠ s' → dget (dset es s v) s' = dget es s'
  | [], s, s', v, h => by
    have : (s == s') = false := by simpa using h
    simp only [dset, dget, this]
  | (k, w) :: r, s, s', v, h => by
    unfold dset
    cases e : k == s with
    | true =>
      have : (k == s') = false := by
        have : k = s := by simpa using e
        subst this; simpa using h
      simp only [dget, this]
    | false =>
      simp only [dget]
      rw [dget_other r s s' v h]
noncomputable def DOk (es : List (List Nat × MV)) : Prop := (es.map (·.1)).Nodup ∧ ∀ e ∈ es, ∃ k, e.2 = .int k ∧ In6 k
theorem dset_mem : ∀ (es : List (List Nat × MV)) (s : List Nat) (v : MV) (e : List Nat × MV), e ∈ dset es s v → e = (s, v) ∨ (e ∈ es)
  | [], s, v, e, h => by simp [dset] at h; exact .inl h
  | (k, w) :: r, s, v, e, h => by
    unfold dset at h
    cases q : k == s with
    | true =>
      have : k = s := by simpa using q
      subst this
      rw [q] at h
      rcases List.mem_cons.mp h with h | h
      · exact .inl h
      · exact .inr (List.mem_cons_of_mem _ h)
    | false =>
      rw [q] at h
      rcases List.mem_cons.mp h with h | h
      · exact .inr (h ▸ List.mem_cons_self ..)
      · exact (dset_mem r s v e h).imp id (List.mem_cons_of_mem _)
theorem dset_keys : ∀ (es : List (List Nat × MV)) (s : List Nat) (v : MV), (es.map (·.1)).Nodup → ((dset es s v).map (·.1)).Nodup
  | [], s, v, _ => by simp [dset]
  | (k, w) :: r, s, v, h => by
    simp only [List.map_cons, List.nodup_cons] at h
    unfold dset
    cases q : k == s with
    | true => simp only [List.map_cons, List.nodup_cons]; exact h
    | false =>
      simp only [List.map_cons, List.nodup_cons]
      refine ⟨fun hm => ?_, dset_keys r s v h.2⟩
      obtain ⟨e, he, hk⟩ := List.mem_map.mp hm
      rcases dset_mem r s v e he with rfl | he
      · simp at hk; subst hk; simp at q
      · exact h.1 (List.mem_map.mpr ⟨e, he, hk⟩)
theorem DOk.set {es : List (List Nat × MV)} (x : DOk es) {s : List Nat} {k : Int} (hk : In6 k) : DOk (dset es s (.int k)) :=
  ⟨dset_keys es s _ x.1, fun e he => by
    rcases dset_mem es s _ e he with rfl | he
    · exact ⟨k, rfl, hk⟩
    · exact x.2 e he⟩

variable {K : KT} (hK : Closed (fnP tab) K)
include hK

theorem turn_ok {n : Nat} {is : List Int} {r : Nat} {ss : List (List Nat)} {t : Tm} {i : Nat} {hp : List MO} {w4 w5 w6 w7 w8 w9 w10 : Option MV} {P : Fl → MS → Prop} {X : XM} (hr : hp[r]? = some (.list (ss.map .str))) (hl : ss.length = 10) (hs : ∀ s ∈ ss, Nm s) (ht : t.ok (· ∈ ss)) (hd : t.deep ≤ 11)
    (hn : ∀ hp' w4 w5 w6 w7 w8 w9 w10, hp'[r]? = some (.list (ss.map .str)) → P .next ⟨[some (.scr is), some (.ref r), some t.mv, some (.int i), w4, w5, w6, w7, w8, w9, w10], hp'⟩) :
    wpSs K (n + 20) (match fn_law_2.body with
      | [_, _, .for_ _ _ _ _ b, _] => b
      | _ => []) P X ⟨[some (.scr is), some (.ref r), some t.mv, some (.int i), w4, w5, w6, w7, w8, w9, w10], hp⟩ := by
  conv => whnf
  dsimp only [MS.set, MS.push, List.set]
  rw [iter_enum (get_old hr)]
  dsimp only
  refine forL_inv (fun j m => ∃ (w5 w6 w7 : Option MV) (hp' : List MO) (es : List (List Nat × MV)), m = ⟨[some (.scr is), some (.ref r), some t.mv, some (.int i), some (.ref hp.length), w5, w6, w7, w8, w9, w10], hp'⟩ ∧
      hp'[r]? = some (.list (ss.map .str)) ∧ hp'[hp.length]? = some (.dict es) ∧ DOk es ∧ es.length ≤ j ∧ Good es (· ∈ ss.take j)) (fun _ _ => False)
    ⟨w5, w6, w7, _, [], rfl, get_old hr, get_last _ _, ⟨List.nodup_nil, by simp⟩, Nat.zero_le _, fun s h => by simp at h⟩ (fun j m hI => ?_) (fun j y m P' hy hI hn' _ _ => ?_) (fun m hI => ?_) (fun _ _ h => h.elim)
  · obtain ⟨_, _, _, hp', _, rfl, h1, _⟩ := hI
    exact h1
  · obtain ⟨y', hy', rfl⟩ := enum_at hy
    rw [List.getElem?_map, Option.map_eq_some_iff] at hy'
    obtain ⟨s, hsj, rfl⟩ := hy'
    obtain ⟨v5, v6, v7, hp', es, rfl, h1, h2, h3, h4, h5⟩ := hI
    have hj : j < ss.length := (List.getElem?_eq_some_iff.mp hsj).1
    conv => whnf
    refine ⟨rfl, ?_⟩
    conv => whnf
    refine k_cell hK (by omega) ?_
    conv => whnf
    refine k_mixed hK ?_
    conv => whnf
    refine ⟨by decide, ?_⟩
    conv => whnf
    refine ⟨by decide, ?_⟩
    conv => whnf
    refine ⟨by decide, ?_⟩
    conv => whnf
    refine ⟨by decide, ?_⟩
    conv => whnf
    refine ⟨by decide, ?_⟩
    conv => whnf
    refine ⟨by decide, ?_⟩
    conv => whnf
    rw [get_push]
    dsimp only
    rw [pidx_b2i]
    dsimp only
    rw [get_b2n]
    have hv : ∀ (z : Int) (d : Bool), ∃ v, sel d (MV.int (z / 8 % 5)) (.int (z / 8 % 10 ^ (6 : Int).toNat)) = .int v ∧ In6 v := fun z d => by
      have e6 : (10 : Int) ^ (6 : Int).toNat = 1000000 := by decide
      cases d
      · exact ⟨_, rfl, by unfold In6; omega⟩
      · refine ⟨_, rfl, ?_⟩
        rw [e6]; unfold In6; omega
    obtain ⟨v, ev, hv⟩ := hv _ _
    rw [ev]
    conv => whnf
    dsimp only [setAll, MS.set, MS.push, List.set]
    rw [get_old h2]
    refine ⟨Nat.lt_of_le_of_lt h4 (by unfold line; omega), ?_⟩
    have hne : hp.length ≠ r := fun q => by rw [q] at h2; rw [h1] at h2; cases h2
    refine hn' _ ⟨_, _, _, _, dset es s (.int v), rfl, ?_, get_set (get_old h2), h3.set hv, Nat.le_trans (dset_len es s _) (by omega), fun s' hs' => ?_⟩
    · rw [List.getElem?_set_ne hne]; exact get_old h1
    · by_cases q : s = s'
      · subst q; exact ⟨v, dget_same _ _ _, hv⟩
      · rw [dget_other _ _ _ _ q]
        refine h5 s' ?_
        rw [List.take_succ, hsj] at hs'
        simp only [Option.toList_some, List.mem_append, List.mem_singleton] at hs'
        exact hs'.elim id fun e => absurd e.symm q
  · obtain ⟨v5, v6, v7, hp', es, rfl, h1, h2, h3, h4, h5⟩ := hI
    rw [enum_len, List.length_map] at h4 h5
    rw [List.take_length] at h5
    conv => whnf
    dsimp only
    rw [h2]
    conv => whnf
    refine k_reck hK h5 t (by omega) get_push ht ?_
    conv => whnf
    refine k_lreck hK h5 t (by omega) (get_old h2) ht fun h₂ hpre => ?_
    have e1 : h₂[hp'.length]? = some (.dict es) := pre_at hpre get_push
    have e2 : h₂[hp.length]? = some (.dict es) := pre_at hpre (get_old h2)
    have e3 : h₂[r]? = some (.list (ss.map .str)) := pre_at hpre (get_old h1)
    conv => whnf
    refine .dicts _ _ es rfl rfl e1 e2 (fun e he => let ⟨k, hk, _⟩ := h3.2 e he; ⟨k, hk⟩) h3.1 ?_
    cases hrk : rk es t with
    | none =>
      conv => whnf
      exact hn h₂ _ _ _ _ _ _ _ e3
    | some v =>
      conv => whnf
      refine k_whole hK ?_
      conv => whnf
      have ev : (v == v) = true := by simp
      rw [ev]
      exact hn h₂ _ _ _ _ _ _ _ e3

theorem law_ok (is : List Int) : wpSs K 600 fn_law_2.body (fin fun v _ => v = .bool true) (fun _ _ => False) (start fn_law_2 [.scr is] []) := by
  conv => whnf
  refine k_cell hK (by decide) ?_
  conv => whnf
  refine k_cell hK (by decide) ?_
  conv => whnf
  refine k_names hK fun h₁ r ss hpre hlen hr hl hs hnd hkw => ?_
  conv => whnf
  refine k_cell hK (by decide) ?_
  conv => whnf
  refine k_deep hK hr (fun s h => (hs s h).ok) fun t h₂ ht hd hpre2 => ?_
  have hr2 : h₂[r]? = some (.list (ss.map .str)) := pre_at hpre2 hr
  conv => whnf
  refine forL_inv (fun i m => ∃ hp w3 w4 w5 w6 w7 w8 w9 w10, m = ⟨[some (.scr is), some (.ref r), some t.mv, w3, w4, w5, w6, w7, w8, w9, w10], hp⟩ ∧ hp[r]? = some (.list (ss.map .str))) (fun _ _ => False)
    ⟨_, _, _, _, _, _, _, _, _, rfl, hr2⟩ (fun _ _ _ => trivial) (fun i y m P hy hI hn _ _ => ?_) (fun m hI => ?_) (fun _ _ h => h.elim)
  · obtain ⟨hi, rfl⟩ := range_at hy
    obtain ⟨hp, w3, w4, w5, w6, w7, w8, w9, w10, rfl, h1⟩ := hI
    exact turn_ok hK (n := 580) (i := i) h1 hl hs ht hd fun hp' _ _ _ _ _ _ _ e => hn _ ⟨hp', _, _, _, _, _, _, _, _, rfl, e⟩
  · obtain ⟨hp, w3, w4, w5, w6, w7, w8, w9, w10, rfl, h1⟩ := hI
    rfl
end Mine
end
open PySem PySem.W PyProof.Rows Mine
set_option Elab.async false
set_option maxRecDepth 100000
set_option maxHeartbeats 8000000
theorem PySem.Challenge.cw_uf010009_02_holds : PySem.Challenge.rw_uf010009_02.Holds := by
  w_on; o_law; o_head Hook.none; (case hw => w_witness2)
  intro w s₀ s₁ mg mb G Y fa o pm cd doc dV kV ho hd hcd hD hmg hg args vals as hpre hlay hrd hwl hlo
  have V := (Ground.X G).2
  have T := G.T
  clear hd hcd hD
  wrow_args hpre hlay hrd hwl hlo
  rename Well _ _ _ _ => hW
  rename IntsAre _ _ => hI
  rename Heap.IsList _ _ _ => hL
  rename (¬ _ < _) => hc
  refine law_call T (tab := Mine.tab) (gl := Mine.gl) (f := 21) (x := "law") (d := fn_law_2) ?zzimp ?zzchk ?zzblt ?zzhgl rfl hg rfl rfl hmg rfl (scr_of hW hL hI ?zzhz) (fun K hK => law_ok hK _) ?zzhQ
  case zzimp => decide +kernel
  case zzchk => decide +kernel
  case zzblt => decide +kernel
  case zzhz => unfold line; omega
  case zzhgl =>
    intro g x v e
    unfold Mine.gl at e
    split at e
    · cases e
      obtain ⟨u, h1, h2⟩ := V.val _ (List.mem_cons_self ..)
      refine ⟨u, h1, fun ρ h' _ => ?_⟩
      cases h2
      exact .int _ _
    · cases e
  case zzhQ =>
    intro s' h1 h2 h3
    refine GoodW.toG ⟨.inl ⟨_, .bool true, [], rfl, ?_, ?_, ?_, ?_⟩, h1, h2, h3⟩
    · exact fun _ => rfl
    · exact .bool _
    · exact post_true _ _ _
    · exact fun _ => ⟨List.nodup_nil, fun _ h => by cases h⟩
