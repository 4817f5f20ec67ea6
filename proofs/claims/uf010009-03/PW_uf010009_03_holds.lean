import PyProof.Rows.All
import PyProof.Rules2
import PyProof.TupleIter
import PyProof.AutoSeq1
import PyProof.Rules3
import PyProof.SliceSyntax
import PyProof.ForAny
import PyProof.CallRoads
import PyProof.CallType
import PyProof.CallStr
import PyProof.Cells
import PyProof.StrLoop
import PyProof.StrWalks
import PyProof.CompFree
import PyProof.Conv_int
import PyProof.Conv_int_bool
import PyProof.MeetsSeq
import PyProof.DictKinds
import PyProof.DictRoads
import PyProof.DictTruth
import PyProof.DictStraight
import PyProof.DictCopy
import PyProof.DictIter
import PyProof.EnumStmt
import PyProof.P3Eq
import PyProof.NeData
import PyProof.StrLawsIn
import PyProof.SliceStr2
import PyProof.StrOps
import PyProof.StrBlock
import PyProof.StrLawsChain
import PyProof.WalksMore
import PyProof.RangeFor
import PyProof.IsiHeapPairs
import PyProof.IsiNone
import PyProof.IsiPairs
import PyProof.IsiSeqPairs
import PyProof.ListCopy
import PyProof.ListIndexNeg
import PyProof.Rows.TupAssign
import PyProof.Rows.TupSub
import PyProof.Rows.TupIn
import PyProof.WalksPairs
import PyProof.StrCalls2
import PyProof.Rows.StrSplitAre
import PyProof.Rows.Many
import PyProof.Rows.Exc
import PyProof.Rows.StrBin
import PyProof.Rows.RuleU_int
import PyProof.Rows.RuleB_mul
import PyProof.Rows.RuleB_sub
import PyProof.Rows.RuleB_pow
import PyProof.Rows.FactsT1
import PyProof.WalksEnum
import PyProof.Rows.RuleB_floordiv
import PyProof.Rows.RuleB_mod
import PyProof.StrCalls3
import PyProof.Rows.StrTemp
import PyProof.Rows.RuleB_small
import PyProof.Rows.RuleC_int
import PyProof.TupleOps
import PyProof.SliceMore
import PyProof.StrLawsTight
import PyProof.RulesDelMore
import PyProof.Rows.SeqMore
import PyProof.Rows.TupAdd
import PyProof.TupleOfSeq
import PyProof.Rows.ReprOcc
import PyProof.Rows.SortStr
import Wide.Well
import Wide.Loose
import Open.Row
import Open.Line
import KE.IntTextText
import KE.KDictOf
import PySem.Challenge.RW_uf010009_03
set_option Elab.async false
set_option genSizeOf false
set_option genInjectivity false
set_option bootstrap.genMatcherCode false
section
set_option tactic.hygienic false
namespace Mine
noncomputable def useD : Bool := false
end Mine
end
section
set_option genSizeOf false
set_option genInjectivity false
set_option tactic.hygienic false
namespace Mine


inductive MV where
  | none | bool (b : Bool) | int (i : Int) | str (s : List Nat) | tup (xs : List MV) | ref (i : Nat) | inst (c i : Nat) | exc (c : Nat) | scr (is : List Int) | gt (ss : List (List Nat))

inductive MO where
  | list (xs : List MV) | dict (es : List (List Nat × MV))

structure MS where
  vars : List (Option MV)
  heap : List MO

inductive Fl where
  | next | brk | cont | ret (v : MV)

noncomputable abbrev XT := Nat → List MO → Prop
noncomputable abbrev XM := Nat → MS → Prop
noncomputable abbrev KT := Nat → Nat → List MV → (MV → List MO → Prop) → XT → List MO → Prop

inductive Op where
  | add | sub | mul | fdiv | mod | pow
inductive Cmp where
  | eq | ne | lt | le | gt | ge | inn | nin
inductive Bi where
  | len | int | str | list | tuple | dict | sortedSet | sorted | sum | min | max | all | listRev
inductive Me where
  | append | extend | insert | pop | clear | count | index | find | split | join | get
inductive TS where
  | int | bool | str | list | tuple | dict | cls (c : Nat)
inductive IK where
  | val | range1 | range2 | enum

inductive ME where
  | cst (v : MV)
  | var (i : Nat)
  | glob (g : Nat) (v : MV)
  | bin (op : Op) (a b : ME)
  | neg (a : ME)
  | not (a : ME)
  | and (es : List ME)
  | or (es : List ME)
  | cmp (op : Cmp) (a b : ME)
  | cmp2 (op op' : Cmp) (a b c : ME)
  | isN (pos : Bool) (a : ME)
  | call (f : Nat) (args : List ME)
  | blt (b : Bi) (args : List ME)
  | mth (k : Me) (o : ME) (args : List ME)
  | umth (f : Nat) (o : ME) (args : List ME)
  | new (c f : Nat) (args : List ME)
  | attr (o : ME) (x : List Nat)
  | idx (o i : ME)
  | sl (o : ME) (lo hi : Option ME)
  | list (es : List ME)
  | tup (es : List ME)
  | dict0
  | comp (elt : ME) (t : List Nat) (many : Bool) (k : IK) (src : List ME) (ifs : List ME)
  | isi (a : ME) (ts : List TS)

inductive MSt where
  | asg (t : List Nat) (many : Bool) (e : ME)
  | setAttr (o : ME) (x : List Nat) (e : ME)
  | setIdx (o i e : ME)
  | expr (e : ME)
  | ite (c : ME) (a b : List MSt)
  | for_ (t : List Nat) (many : Bool) (k : IK) (src : List ME) (body : List MSt)
  | while_ (c : ME) (body : List MSt)
  | ret (e : ME)
  | cont
  | raise (c : Nat)
  | try_ (body : List MSt) (c : Nat) (v : Nat) (h : List MSt)

noncomputable def MS.set (m : MS) (i : Nat) (v : MV) : MS := ⟨m.vars.set i (some v), m.heap⟩
noncomputable def MS.get (m : MS) (i : Nat) : Option MV := match m.vars[i]? with
  | some (some v) => some v
  | _ => none
noncomputable def MS.push (m : MS) (o : MO) : MS := ⟨m.vars, m.heap ++ [o]⟩
noncomputable def MS.put (m : MS) (i : Nat) (o : MO) : MS := ⟨m.vars, m.heap.set i o⟩

noncomputable def small (x : Int) : Prop := x.natAbs < 2 ^ 63
noncomputable def line : Nat := 2 ^ 24

noncomputable abbrev PQ := MV → MS → Prop

inductive D where
  | none | bool (b : Bool) | int (i : Int) | str (s : List Nat) | list (xs : List D) | tup (xs : List D)

mutual
noncomputable def D.deq : D → D → Bool
  | .none, .none => true
  | .bool a, .bool b => a == b
  | .bool a, .int j => (if a then 1 else 0) == j
  | .int i, .bool b => i == (if b then 1 else 0)
  | .int i, .int j => i == j
  | .str x, .str y => x == y
  | .list xs, .list ys => D.deqs xs ys
  | .tup xs, .tup ys => D.deqs xs ys
  | _, _ => false
noncomputable def D.deqs : List D → List D → Bool
  | [], [] => true
  | x :: xs, y :: ys => D.deq x y && D.deqs xs ys
  | _, _ => false
end
mutual
noncomputable def D.deep : D → Nat
  | .list xs | .tup xs => D.deeps xs + 1
  | _ => 0
noncomputable def D.deeps : List D → Nat
  | [] => 0
  | x :: xs => max (D.deep x) (D.deeps xs)
end
mutual
noncomputable def D.ok : D → Bool
  | .list xs | .tup xs => D.oks xs
  | .str s => s.all (fun c => decide (c < 55296))
  | _ => true
noncomputable def D.oks : List D → Bool
  | [] => true
  | x :: xs => D.ok x && D.oks xs
end
mutual
inductive Rd (hp : List MO) : MV → D → Prop
  | none : Rd hp .none .none
  | bool (b) : Rd hp (.bool b) (.bool b)
  | int (i) : Rd hp (.int i) (.int i)
  | str (s) : Rd hp (.str s) (.str s)
  | tup {xs ds} : Rds hp xs ds → Rd hp (.tup xs) (.tup ds)
  | list {i xs ds} : hp[i]? = some (.list xs) → Rds hp xs ds → Rd hp (.ref i) (.list ds)
inductive Rds (hp : List MO) : List MV → List D → Prop
  | nil : Rds hp [] []
  | cons {x xs d ds} : Rd hp x d → Rds hp xs ds → Rds hp (x :: xs) (d :: ds)
end

noncomputable def aeq : MV → MV → Option Bool
  | .none, .none => some true
  | .bool a, .bool b => some (a == b)
  | .int i, .int j => some (i == j)
  | .str x, .str y => some (x == y)
  | .none, .int _ | .none, .str _ | .none, .bool _ | .int _, .none | .int _, .str _ | .str _, .none | .str _, .int _ | .bool _, .none | .str _, .bool _ | .bool _, .str _ => some false
  | _, _ => none

inductive EqP (hp : List MO) (x y : MV) (Q : Bool → Prop) : Prop
  | mk (d e : D) (hd : Rd hp x d) (he : Rd hp y e) (hk : d.deep ≤ 1000) (h1 : d.ok = true) (h2 : e.ok = true) (hq : Q (d.deq e))
  | dicts (hu : useD = true) (i j : Nat) (es : List (List Nat × MV)) (hx : x = .ref i) (hy : y = .ref j) (hi : hp[i]? = some (.dict es)) (hj : hp[j]? = some (.dict es)) (hl : ∀ e ∈ es, ∃ k, e.2 = .int k) (hn : (es.map (·.1)).Nodup) (hq : Q true)
  | nil (i j : Nat) (xs : List MV) (hx : x = .ref i) (hy : y = .ref j) (hi : hp[i]? = some (.list xs)) (hj : hp[j]? = some (.list [])) (hq : Q xs.isEmpty)

inductive InP (hp : List MO) (x : MV) (ys : List MV) (Q : Bool → Prop) : Prop
  | mk (d : D) (es : List D) (hd : Rd hp x d) (he : Rds hp ys es) (hk : d.deep ≤ 1000) (h1 : d.ok = true) (h2 : D.oks es = true) (hq : Q (es.any (fun e => e.deq d)))

noncomputable def dget : List (List Nat × MV) → List Nat → Option MV
  | [], _ => none
  | (k, v) :: r, x => match k == x with
    | true => some v
    | false => dget r x
noncomputable def dset : List (List Nat × MV) → List Nat → MV → List (List Nat × MV)
  | [], x, v => [(x, v)]
  | (k, w) :: r, x, v => match k == x with
    | true => (k, v) :: r
    | false => (k, w) :: dset r x v
noncomputable def ddel : List (List Nat × MV) → List Nat → List (List Nat × MV)
  | [], _ => []
  | (k, w) :: r, x => match k == x with
    | true => r
    | false => (k, w) :: ddel r x

noncomputable def onS (x : MV) (f : List Nat → Prop) : Prop := match x with
  | .str s => f s
  | _ => False
theorem onS_inv {x : MV} {f : List Nat → Prop} (h : onS x f) : ∃ s, x = .str s ∧ f s := by
  cases x with
  | str s => exact ⟨s, rfl, h⟩
  | _ => exact h.elim
noncomputable def wpInO (o : Option MO) (x : MV) (Q : Bool → Prop) (hp : List MO) : Prop := match o with
  | some (.list ys) => InP hp x ys Q
  | some (.dict es) => onS x fun s => Q (dget es s).isSome
  | none => False
noncomputable def wpIn (x c : MV) (Q : Bool → Prop) (hp : List MO) : Prop :=
  match c with
  | .tup ys => InP hp x ys Q
  | .gt ss => InP hp x (ss.map .str) Q
  | .ref i => wpInO hp[i]? x Q hp
  | .str s => match x with
    | .str [a] => Q (s.contains a)
    | _ => False
  | _ => False

noncomputable def wpCmp (op : Cmp) (x y : MV) (Q : Bool → MS → Prop) (m : MS) : Prop :=
  match op with
  | .eq => match aeq x y with
    | some b => Q b m
    | none => EqP m.heap x y (fun b => Q b m)
  | .ne => match aeq x y with
    | some b => Q (!b) m
    | none => EqP m.heap x y (fun b => Q (!b) m)
  | .lt => match x, y with
    | .int i, .int j => Q (decide (i < j)) m
    | _, _ => False
  | .le => match x, y with
    | .int i, .int j => Q (decide (i ≤ j)) m
    | _, _ => False
  | .gt => match x, y with
    | .int i, .int j => Q (decide (j < i)) m
    | _, _ => False
  | .ge => match x, y with
    | .int i, .int j => Q (decide (j ≤ i)) m
    | _, _ => False
  | .inn => wpIn x y (fun b => Q b m) m.heap
  | .nin => wpIn x y (fun b => Q (!b) m) m.heap

noncomputable def wpAdd (a b : MV) (Q : PQ) (m : MS) : Prop := match a with
  | .int x => match b with
    | .int y => Q (.int (x + y)) m
    | _ => False
  | .str x => match b with
    | .str y => x.length + y.length ≤ line ∧ Q (.str (x ++ y)) m
    | _ => False
  | .tup x => match b with
    | .tup y => x.length + y.length ≤ line ∧ Q (.tup (x ++ y)) m
    | _ => False
  | .ref i => match b with
    | .ref j => match m.heap[i]?, m.heap[j]? with
      | some (.list x), some (.list y) => x.length + y.length ≤ line ∧ Q (.ref m.heap.length) (m.push (.list (x ++ y)))
      | _, _ => False
    | _ => False
  | _ => False
noncomputable def wpInt2 (op : Op) (x y : Int) (Q : PQ) (m : MS) : Prop := match op with
  | .add => Q (.int (x + y)) m
  | .sub => Q (.int (x - y)) m
  | .mul => (small x ∨ small y) ∧ Q (.int (x * y)) m
  | .fdiv => (0 < y ∧ y < 2 ^ 30) ∧ Q (.int (x / y)) m
  | .mod => 0 < y ∧ Q (.int (x % y)) m
  | .pow => (x = 10 ∧ (y = 6 ∨ y = 9)) ∧ Q (.int (x ^ y.toNat)) m
noncomputable def wpNum (op : Op) (a b : MV) (Q : PQ) (m : MS) : Prop := match a with
  | .int x => match b with
    | .int y => wpInt2 op x y Q m
    | _ => False
  | _ => False
noncomputable def wpBin (op : Op) (a b : MV) (Q : PQ) (m : MS) : Prop := match op with
  | .add => wpAdd a b Q m
  | .sub => wpNum .sub a b Q m
  | .mul => wpNum .mul a b Q m
  | .fdiv => wpNum .fdiv a b Q m
  | .mod => wpNum .mod a b Q m
  | .pow => wpNum .pow a b Q m

noncomputable def pidx (k : Int) (n : Nat) : Option Nat :=
  match decide (0 ≤ k), decide (k < (n : Int)), decide (-(n : Int) ≤ k) with
  | true, true, _ => some k.toNat
  | false, _, true => some (k + n).toNat
  | _, _, _ => none
noncomputable def pend (k : Int) (n : Nat) : Nat :=
  match decide (0 ≤ k) with
  | true => min k.toNat n
  | false => (k + n).toNat
noncomputable def pslice {α : Type} (xs : List α) (lo hi : Option Int) : List α :=
  let a := match lo with
    | none => 0
    | some k => pend k xs.length
  let b := match hi with
    | none => xs.length
    | some k => pend k xs.length
  (xs.take b).drop a

noncomputable def wpIdx (x i : MV) (Q : PQ) (m : MS) : Prop :=
  match x, i with
  | .tup xs, .int k => match pidx k xs.length with
    | some j => match xs[j]? with
      | some v => Q v m
      | none => False
    | none => False
  | .str s, .int k => match pidx k s.length with
    | some j => match s[j]? with
      | some c => Q (.str [c]) m
      | none => False
    | none => False
  | .ref r, .int k => match m.heap[r]? with
    | some (.list xs) => match pidx k xs.length with
      | some j => match xs[j]? with
        | some v => Q v m
        | none => False
      | none => False
    | _ => False
  | .scr xs, .int k => match pidx k xs.length with
    | some j => match xs[j]? with
      | some v => Q (.int v) m
      | none => False
    | none => False
  | .ref r, .str s => match m.heap[r]? with
    | some (.dict es) => match dget es s with
      | some v => Q v m
      | none => False
    | _ => False
  | _, _ => False

noncomputable def optInt : Option MV → Option (Option Int)
  | none => some none
  | some (.int k) => some (some k)
  | some _ => none
noncomputable def wpSl (x : MV) (lo hi : Option MV) (Q : PQ) (m : MS) : Prop :=
  match optInt lo, optInt hi with
  | some lo, some hi => match x with
    | .str s => Q (.str (pslice s lo hi)) m
    | .tup _ => False
    | .scr xs => Q (.ref m.heap.length) (m.push (.list (pslice (xs.map .int) lo hi)))
    | .ref r => match m.heap[r]? with
      | some (.list xs) => Q (.ref m.heap.length) (m.push (.list (pslice xs lo hi)))
      | _ => False
    | _ => False
  | _, _ => False

noncomputable def slt : List Nat → List Nat → Bool
  | [], [] => false
  | [], _ :: _ => true
  | _ :: _, [] => false
  | a :: x, b :: y => match decide (a < b), a == b with
    | true, _ => true
    | false, true => slt x y
    | false, false => false
noncomputable def sins (s : List Nat) : List (List Nat) → List (List Nat)
  | [] => [s]
  | t :: r => match slt s t, s == t with
    | true, _ => s :: t :: r
    | false, true => t :: r
    | false, false => t :: sins s r
noncomputable def sset : List (List Nat) → List (List Nat)
  | [] => []
  | s :: r => sins s (sset r)

noncomputable def b2i : Bool → Int
  | true => 1
  | false => 0

inductive SortP (xs : List MV) (Q : List (List Nat) → Prop) : Prop
  | mk (ss : List (List Nat)) (he : xs = ss.map .str) (hl : (sset ss).length < 64) (hz : ss.length < 4000) (hq : Q (sset ss))

inductive SumP (xs : List MV) (Q : Int → Prop) : Prop
  | mk (is : List Int) (he : xs = is.map .int) (hb : ∀ i ∈ is, 0 ≤ i ∧ i ≤ 1000000) (hl : is.length ≤ 1000000) (hq : Q is.sum)

noncomputable def dec (k : Int) : List Nat := (toString k).toList.map Char.toNat
noncomputable def wpLen (x : MV) (Q : PQ) (m : MS) : Prop := match x with
  | .tup xs => Q (.int xs.length) m
  | .str xs => Q (.int xs.length) m
  | .scr xs => Q (.int xs.length) m
  | .ref r => match m.heap[r]? with
    | some (.list xs) => Q (.int xs.length) m
    | some (.dict xs) => Q (.int xs.length) m
    | none => False
  | _ => False
noncomputable def wpListOf (x : MV) (Q : PQ) (m : MS) : Prop := match x with
  | .ref r => match m.heap[r]? with
    | some (.list xs) => Q (.ref m.heap.length) (m.push (.list xs))
    | _ => False
  | .tup xs => Q (.ref m.heap.length) (m.push (.list xs))
  | _ => False
noncomputable def wpBlt1 (b : Bi) (x : MV) (Q : PQ) (m : MS) : Prop := match b with
  | .len => wpLen x Q m
  | .int => match x with
    | .bool b => Q (.int (b2i b)) m
    | .str s => ∃ k : Int, s = dec k ∧ (0 ≤ k ∧ k < 1000000) ∧ Q (.int k) m
    | _ => False
  | .str => match x with
    | .str s => Q (.str s) m
    | .int k => (0 ≤ k ∧ k < 1000000) ∧ Q (.str (dec k)) m
    | _ => False
  | .list => wpListOf x Q m
  | .tuple => match x with
    | .ref r => match m.heap[r]? with
      | some (.list xs) => Q (.tup xs) m
      | _ => False
    | _ => False
  | .dict => match x with
    | .ref r => match m.heap[r]? with
      | some (.dict es) => Q (.ref m.heap.length) (m.push (.dict es))
      | _ => False
    | _ => False
  | .sortedSet => match x with
    | .ref r => match m.heap[r]? with
      | some (.list xs) => SortP xs (fun ss => Q (.ref m.heap.length) (m.push (.list (ss.map .str))))
      | _ => False
    | _ => False
  | _ => False
noncomputable def wpBlt (b : Bi) (vs : List MV) (Q : PQ) (m : MS) : Prop := match vs with
  | [x] => wpBlt1 b x Q m
  | _ => False

noncomputable def lst (o : MV) (hp : List MO) : Option (Nat × List MV) := match o with
  | .ref r => match hp[r]? with
    | some (.list xs) => some (r, xs)
    | _ => none
  | _ => none
noncomputable def glue (c : Nat) : List (List Nat) → List Nat
  | [] => []
  | [w] => w
  | w :: r => w ++ c :: glue c r
noncomputable def onL (o : Option (Nat × List MV)) (f : Nat → List MV → Prop) : Prop := match o with
  | some q => f q.1 q.2
  | none => False
noncomputable def on1 (vs : List MV) (f : MV → Prop) : Prop := match vs with
  | [v] => f v
  | _ => False
noncomputable def onO {α : Type} (o : Option α) (f : α → Prop) : Prop := match o with
  | some a => f a
  | none => False
theorem onL_inv {o : Option (Nat × List MV)} {f : Nat → List MV → Prop} (h : onL o f) : ∃ r xs, o = some (r, xs) ∧ f r xs := by
  cases o with
  | none => exact h.elim
  | some q => exact ⟨q.1, q.2, rfl, h⟩
theorem on1_inv {vs : List MV} {f : MV → Prop} (h : on1 vs f) : ∃ v, vs = [v] ∧ f v := by
  cases vs with
  | nil => exact h.elim
  | cons v r =>
    cases r with
    | nil => exact ⟨v, rfl, h⟩
    | cons => exact h.elim
theorem onO_inv {α : Type} {o : Option α} {f : α → Prop} (h : onO o f) : ∃ a, o = some a ∧ f a := by
  cases o with
  | none => exact h.elim
  | some a => exact ⟨a, rfl, h⟩
noncomputable def wpMth (k : Me) (o : MV) (vs : List MV) (Q : PQ) (m : MS) : Prop := match k with
  | .append => onL (lst o m.heap) fun r xs => on1 vs fun v => xs.length < line ∧ Q .none (m.put r (.list (xs ++ [v])))
  | .extend => onL (lst o m.heap) fun r xs => on1 vs fun v => onL (lst v m.heap) fun _ ys => xs.length + ys.length ≤ line ∧ Q .none (m.put r (.list (xs ++ ys)))
  | .pop => onL (lst o m.heap) fun r xs => vs = [] ∧ onO xs[xs.length - 1]? fun v => Q v (m.put r (.list xs.dropLast))
  | .find => on1 vs fun v => onS v fun _ => ∀ k : Int, -1 ≤ k → Q (.int k) m
  | .split => onS o fun s => on1 vs fun v => onS v fun y => ∃ c, y = [c] ∧ s.length < 1000000 ∧ ∀ ws : List (List Nat), ws ≠ [] → (∀ w ∈ ws, c ∉ w) → glue c ws = s → Q (.ref m.heap.length) (m.push (.list (ws.map .str)))
  | _ => False

noncomputable def mthOk (k : Me) (x : MV) (hp : List MO) : Bool := match k with
  | .append => (lst x hp).isSome
  | .extend => (lst x hp).isSome
  | .pop => (lst x hp).isSome
  | .find => match x with
    | .str _ => true
    | _ => false
  | .split => match x with
    | .str _ => true
    | _ => false
  | _ => false

noncomputable def tyO (o : Option MO) (t : TS) : Option Bool := match o with
  | some (.list _) => match t with
    | .list => some true
    | _ => some false
  | some (.dict _) => match t with
    | .dict => some true
    | _ => some false
  | none => none
noncomputable def tyOf (hp : List MO) : MV → TS → Option Bool
  | .none, _ => some false
  | .bool _, .bool => some true
  | .bool _, .int => some true
  | .bool _, _ => some false
  | .int _, .int => some true
  | .int _, _ => some false
  | .str _, .str => some true
  | .str _, _ => some false
  | .tup _, .tuple => some true
  | .tup _, _ => some false
  | .ref r, t => tyO hp[r]? t
  | _, _ => none

noncomputable abbrev Its := Option (List MV × Option (Nat × List MV))
noncomputable def itVal (hp : List MO) (x : MV) : Its := match x with
  | .ref r => match hp[r]? with
    | some (.list xs) => some (xs, some (r, xs))
    | _ => none
  | .tup xs => some (xs, none)
  | .str s => match s.all (fun c => decide (c < 128)) with
    | true => some (s.map (fun c => .str [c]), none)
    | false => none
  | _ => none
noncomputable def itR1 (x : MV) : Its := match x with
  | .int n => match decide (-16777216 ≤ n ∧ n ≤ 16777216) with
    | true => some ((List.range n.toNat).map (fun (i : Nat) => .int i), none)
    | false => none
  | _ => none
noncomputable def itR2 (x y : MV) : Its := match x with
  | .int a => match y with
    | .int b => match decide ((0 ≤ a ∧ a ≤ 16777216) ∧ 0 ≤ b ∧ b ≤ 16777216) with
      | true => some ((List.range (b - a).toNat).map (fun (i : Nat) => .int (a + i)), none)
      | false => none
    | _ => none
  | _ => none
noncomputable def itEnum (hp : List MO) (x : MV) : Its := match x with
  | .ref r => match hp[r]? with
    | some (.list xs) => some (xs.zipIdx.map (fun p => .tup [.int p.2, p.1]), some (r, xs))
    | _ => none
  | _ => none
noncomputable def iterOf (k : IK) (vs : List MV) (hp : List MO) : Its :=
  match vs with
  | [x] => match k with
    | .val => itVal hp x
    | .range1 => itR1 x
    | .enum => itEnum hp x
    | .range2 => none
  | [x, y] => match k with
    | .range2 => itR2 x y
    | _ => none
  | _ => none

noncomputable def guardOk (g : Option (Nat × List MV)) (hp : List MO) : Prop := match g with
  | none => True
  | some (r, xs) => hp[r]? = some (.list xs)

noncomputable def setAll (t : List Nat) (xs : List MV) (m : MS) : MS := match t, xs with
  | i :: t, x :: xs => setAll t xs (m.set i x)
  | _, _ => m

noncomputable def asg (t : List Nat) (many : Bool) (v : MV) (Q : MS → Prop) (m : MS) : Prop :=
  match many, t, v with
  | false, [i], v => Q (m.set i v)
  | true, t, .tup xs => t.length = xs.length ∧ Q (setAll t xs m)
  | _, _, _ => False

noncomputable def forLr (g : Option (Nat × List MV)) (step : MV → (Fl → MS → Prop) → MS → Prop) (Q : Fl → MS → Prop) : List MV → MS → Prop
  | [], m => guardOk g m.heap ∧ Q .next m
  | v :: vs, m => guardOk g m.heap ∧ step v (fun f m => match f with
    | .next => forLr g step Q vs m
    | .cont => forLr g step Q vs m
    | .brk => Q .next m
    | .ret r => Q (.ret r) m) m
@[irreducible] noncomputable def forL (g : Option (Nat × List MV)) (step : MV → (Fl → MS → Prop) → MS → Prop) (Q : Fl → MS → Prop) : List MV → MS → Prop := forLr g step Q

noncomputable def compLr (g : Option (Nat × List MV)) (step : MV → (Option MV → MS → Prop) → MS → Prop) (Q : List MV → MS → Prop) : List MV → List MV → MS → Prop
  | [], acc, m => guardOk g m.heap ∧ Q acc m
  | v :: vs, acc, m => guardOk g m.heap ∧ step v (fun r m => match r with
    | some x => compLr g step Q vs (acc ++ [x]) m
    | none => compLr g step Q vs acc m) m
@[irreducible] noncomputable def compL (g : Option (Nat × List MV)) (step : MV → (Option MV → MS → Prop) → MS → Prop) (Q : List MV → MS → Prop) : List MV → List MV → MS → Prop := compLr g step Q

noncomputable def whileNr (c : (Bool → MS → Prop) → MS → Prop) (b : (Fl → MS → Prop) → MS → Prop) (Q : Fl → MS → Prop) : Nat → MS → Prop
  | 0, _ => False
  | k + 1, m => c (fun t m => match t with
    | true => b (fun f m => match f with
      | .next => whileNr c b Q k m
      | .cont => whileNr c b Q k m
      | .brk => Q .next m
      | .ret r => Q (.ret r) m) m
    | false => Q .next m) m
@[irreducible] noncomputable def whileN (c : (Bool → MS → Prop) → MS → Prop) (b : (Fl → MS → Prop) → MS → Prop) (Q : Fl → MS → Prop) : Nat → MS → Prop := whileNr c b Q

theorem forL_nil {g : Option (Nat × List MV)} {step : MV → (Fl → MS → Prop) → MS → Prop} {Q : Fl → MS → Prop} {m : MS} : forL g step Q [] m = (guardOk g m.heap ∧ Q .next m) := by unfold forL; rfl
theorem forL_cons {g : Option (Nat × List MV)} {step : MV → (Fl → MS → Prop) → MS → Prop} {Q : Fl → MS → Prop} {v : MV} {vs : List MV} {m : MS} : forL g step Q (v :: vs) m = (guardOk g m.heap ∧ step v (fun f m => match f with
    | .next => forL g step Q vs m
    | .cont => forL g step Q vs m
    | .brk => Q .next m
    | .ret r => Q (.ret r) m) m) := by unfold forL; rfl
theorem compL_nil {g : Option (Nat × List MV)} {step : MV → (Option MV → MS → Prop) → MS → Prop} {Q : List MV → MS → Prop} {acc : List MV} {m : MS} : compL g step Q [] acc m = (guardOk g m.heap ∧ Q acc m) := by unfold compL; rfl
theorem compL_cons {g : Option (Nat × List MV)} {step : MV → (Option MV → MS → Prop) → MS → Prop} {Q : List MV → MS → Prop} {v : MV} {vs acc : List MV} {m : MS} : compL g step Q (v :: vs) acc m = (guardOk g m.heap ∧ step v (fun r m => match r with
    | some x => compL g step Q vs (acc ++ [x]) m
    | none => compL g step Q vs acc m) m) := by unfold compL; rfl
theorem whileN_zero {c : (Bool → MS → Prop) → MS → Prop} {b : (Fl → MS → Prop) → MS → Prop} {Q : Fl → MS → Prop} {m : MS} : whileN c b Q 0 m = False := by unfold whileN; rfl
theorem whileN_succ {c : (Bool → MS → Prop) → MS → Prop} {b : (Fl → MS → Prop) → MS → Prop} {Q : Fl → MS → Prop} {k : Nat} {m : MS} : whileN c b Q (k + 1) m = c (fun t m => match t with
    | true => b (fun f m => match f with
      | .next => whileN c b Q k m
      | .cont => whileN c b Q k m
      | .brk => Q .next m
      | .ret r => Q (.ret r) m) m
    | false => Q .next m) m := by unfold whileN; rfl

noncomputable def isNn (p : Bool) (x : MV) : Bool := match x with
  | .none => p
  | _ => !p

noncomputable def ofBool (Q : Bool → MS → Prop) : PQ := fun v m => match v with
  | .bool b => Q b m
  | _ => False

mutual
noncomputable def wpE (K : KT) (n : Nat) : ME → PQ → XM → MS → Prop
  | .cst v, Q, _, m => Q v m
  | .glob _ v, Q, _, m => Q v m
  | .var i, Q, _, m => match m.get i with
    | some v => Q v m
    | none => False
  | .bin op a b, Q, X, m => wpE K n a (fun x m => wpE K n b (fun y m => wpBin op x y Q m) X m) X m
  | .neg a, Q, X, m => wpE K n a (fun x m => match x with
    | .int i => Q (.int (-i)) m
    | _ => False) X m
  | .not a, Q, X, m => wpE K n a (ofBool fun b m => Q (.bool (!b)) m) X m
  | .and es, Q, X, m => wpAnd K n es Q X m
  | .or es, Q, X, m => wpOr K n es Q X m
  | .cmp op a b, Q, X, m => wpE K n a (fun x m => wpE K n b (fun y m => wpCmp op x y (fun b m => Q (.bool b) m) m) X m) X m
  | .cmp2 op op' a b c, Q, X, m => wpE K n a (fun x m => wpE K n b (fun y m => wpCmp op x y (fun t m => match t with
    | true => wpE K n c (fun z m => wpCmp op' y z (fun b m => Q (.bool b) m) m) X m
    | false => Q (.bool false) m) m) X m) X m
  | .isN p a, Q, X, m => wpE K n a (fun x m => Q (.bool (isNn p x)) m) X m
  | .call f args, Q, X, m => wpEs K n args (fun vs m => K n f vs (fun v h => Q v ⟨m.vars, h⟩) (fun c h => X c ⟨m.vars, h⟩) m.heap) X m
  | .blt b args, Q, X, m => wpEs K n args (fun vs m => wpBlt b vs Q m) X m
  | .mth k o args, Q, X, m => wpE K n o (fun x m => match mthOk k x m.heap with
    | true => wpEs K n args (fun vs m => wpMth k x vs Q m) X m
    | false => False) X m
  | .umth _ _ _, _, _, _ => False
  | .new _ _ _, _, _, _ => False
  | .attr _ _, _, _, _ => False
  | .idx o i, Q, X, m => wpE K n o (fun x m => wpE K n i (fun y m => wpIdx x y Q m) X m) X m
  | .sl o lo hi, Q, X, m => wpE K n o (fun x m => wpO K n lo (fun l m => wpO K n hi (fun h m => wpSl x l h Q m) X m) X m) X m
  | .list es, Q, X, m => wpEs K n es (fun vs m => Q (.ref m.heap.length) (m.push (.list vs))) X m
  | .tup es, Q, X, m => wpEs K n es (fun vs m => Q (.tup vs) m) X m
  | .dict0, Q, _, m => Q (.ref m.heap.length) (m.push (.dict []))
  | .comp elt t many k src ifs, Q, X, m => wpEs K n src (fun vs m => match iterOf k vs m.heap with
    | some (items, g) => compL g (fun v P m => asg t many v (fun m => wpIfs K n ifs (fun b m => match b with
        | true => wpE K n elt (fun x m => P (some x) m) X m
        | false => P none m) X m) m) (fun acc m' => Q (.ref m'.heap.length) ⟨m.vars, m'.heap ++ [.list acc]⟩) items [] m
    | none => False) X m
  | .isi a ts, Q, X, m => wpE K n a (fun x m => match ts with
    | [t] => match tyOf m.heap x t with
      | some b => Q (.bool b) m
      | none => False
    | [t, u] => match tyOf m.heap x t, tyOf m.heap x u with
      | some b, some c => Q (.bool (b || c)) m
      | _, _ => False
    | _ => False) X m
noncomputable def wpEs (K : KT) (n : Nat) : List ME → (List MV → MS → Prop) → XM → MS → Prop
  | [], Q, _, m => Q [] m
  | e :: r, Q, X, m => wpE K n e (fun v m => wpEs K n r (fun vs m => Q (v :: vs) m) X m) X m
noncomputable def wpO (K : KT) (n : Nat) : Option ME → (Option MV → MS → Prop) → XM → MS → Prop
  | none, Q, _, m => Q none m
  | some e, Q, X, m => wpE K n e (fun v m => Q (some v) m) X m
noncomputable def wpAnd (K : KT) (n : Nat) : List ME → PQ → XM → MS → Prop
  | [], _, _, _ => False
  | [e], Q, X, m => wpE K n e Q X m
  | e :: r, Q, X, m => wpE K n e (ofBool fun b m => match b with
    | true => wpAnd K n r Q X m
    | false => Q (.bool false) m) X m
noncomputable def wpOr (K : KT) (n : Nat) : List ME → PQ → XM → MS → Prop
  | [], _, _, _ => False
  | [e], Q, X, m => wpE K n e Q X m
  | e :: r, Q, X, m => wpE K n e (ofBool fun b m => match b with
    | true => Q (.bool true) m
    | false => wpOr K n r Q X m) X m
noncomputable def wpIfs (K : KT) (n : Nat) : List ME → (Bool → MS → Prop) → XM → MS → Prop
  | [], Q, _, m => Q true m
  | e :: r, Q, X, m => wpE K n e (ofBool fun b m => match b with
    | true => wpIfs K n r Q X m
    | false => Q false m) X m
end

mutual
noncomputable def wpS (K : KT) (n : Nat) : MSt → (Fl → MS → Prop) → XM → MS → Prop
  | .asg t many e, Q, X, m => wpE K n e (fun v m => asg t many v (fun m => Q .next m) m) X m
  | .setAttr _ _ _, _, _, _ => False
  | .setIdx o i e, Q, X, m => wpE K n e (fun v m => wpE K n o (fun x m => wpE K n i (fun y m => match x, y with
    | .ref r, .str s => match m.heap[r]? with
      | some (.dict es) => es.length < line ∧ Q .next (m.put r (.dict (dset es s v)))
      | _ => False
    | _, _ => False) X m) X m) X m
  | .expr e, Q, X, m => wpE K n e (fun v m => match v with
    | .none => Q .next m
    | .bool _ => Q .next m
    | .int _ => Q .next m
    | .str _ => Q .next m
    | _ => False) X m
  | .ite c a b, Q, X, m => wpE K n c (ofBool fun t m => match t with
    | true => wpSs K n a Q X m
    | false => wpSs K n b Q X m) X m
  | .for_ t many k src body, Q, X, m => wpEs K n src (fun vs m => match iterOf k vs m.heap with
    | some (items, g) => forL g (fun v P m => asg t many v (fun m => wpSs K n body P X m) m) Q items m
    | none => False) X m
  | .while_ c body, Q, X, m => ∃ k, whileN (fun P m => wpE K n c (ofBool P) X m) (fun P m => wpSs K n body P X m) Q k m
  | .ret e, Q, X, m => wpE K n e (fun v m => Q (.ret v) m) X m
  | .cont, Q, _, m => Q .cont m
  | .raise _, _, _, _ => False
  | .try_ _ _ _ _, _, _, _ => False
noncomputable def wpSs (K : KT) (n : Nat) : List MSt → (Fl → MS → Prop) → XM → MS → Prop
  | [], Q, _, m => Q .next m
  | s :: r, Q, X, m => wpS K n s (fun f m => match f with
    | .next => wpSs K n r Q X m
    | f => Q f m) X m
end

noncomputable def fin (Q : MV → List MO → Prop) : Fl → MS → Prop := fun f m => match f with
  | .ret v => Q v m.heap
  | .next => Q .none m.heap
  | _ => False

structure Fn where
  args : Nat
  slots : Nat
  body : List MSt

noncomputable def start (d : Fn) (vs : List MV) (h : List MO) : MS := ⟨vs.map some ++ List.replicate (d.slots - d.args) none, h⟩

noncomputable def Closed (P : Nat → Option Fn) (K : KT) : Prop :=
  ∀ n f vs Q X h d, P f = some d → vs.length = d.args → wpSs K n d.body (fin Q) (fun c m => X c m.heap) (start d vs h) → K (n + 1) f vs Q X h

end Mine
end
section
set_option tactic.hygienic false
namespace Mine
noncomputable def useSS : Bool := false
end Mine
end
section
set_option autoImplicit false
set_option linter.unusedVariables false
set_option tactic.hygienic false
namespace Mine
open PySem PyProof.Rows

noncomputable abbrev tupO (items : List Value) (n : Nat) : Obj := { cls := .type "tuple", dict := none, data := .seq items.toArray n, slots := #[] }
noncomputable abbrev listO (items : List Value) (n : Nat) : Obj := { cls := .type "list", dict := none, data := .seq items.toArray n, slots := #[] }
noncomputable abbrev dictO (es : List DictEntry) (n : Nat) : Obj := { cls := .type "dict", dict := none, data := .dict es.toArray n, slots := #[] }
noncomputable abbrev instO (C : Addr) (d : Addr) : Obj := { cls := .ref C, dict := some d, data := .plain, slots := #[] }
noncomputable abbrev str (s : List Nat) : Str := ⟨s.toArray⟩

structure Glo where
  prog : Program
  w : World
  base : Heap
  fa : Nat → Option Addr
  ca : Nat → Option Addr

noncomputable def Solid (o : Obj) : Prop := (o.cls = .type "tuple" ∧ ∃ xs n, o.data = .seq xs n) ∨ ((∃ c, o.cls = .ref c) ∧ (o.data = .plain ∨ ∃ vs, o.data = .fields vs))
noncomputable def Solids (h h' : Heap) : Prop := ∀ a o, h.get? a = some o → Solid o → h'.get? a = some o

mutual
inductive Rep (C : Glo) (ρ : List Addr) (h : Heap) : MV → Value → Prop
  | none : Rep C ρ h .none .none
  | bool (b) : Rep C ρ h (.bool b) (.bool b)
  | int (i t) : Rep C ρ h (.int i) (.int i t)
  | str (s t) : s.length ≤ line → Rep C ρ h (.str s) (.str (str s) t)
  | tup {a n xs items} : h.get? a = some (tupO items n) → RepL C ρ h xs items → xs.length ≤ line → Rep C ρ h (.tup xs) (.ref a)
  | ref {i a} : ρ[i]? = some a → Rep C ρ h (.ref i) (.ref a)
  | scr {is a items n} : C.base.get? a = some (listO items n) → IntsAre items is → is.length ≤ line → Rep C ρ h (.scr is) (.ref a)
  | gt {ss a o items n} : C.base.get? a = some o → o.cls = .type "tuple" → o.data = .seq items.toArray n → RepL C ρ h (ss.map .str) items → Rep C ρ h (.gt ss) (.ref a)
  | inst {c i a k d} : C.ca c = some k → ρ[i]? = some d → h.get? a = some (instO k d) → Rep C ρ h (.inst c i) (.ref a)
inductive RepL (C : Glo) (ρ : List Addr) (h : Heap) : List MV → List Value → Prop
  | nil : RepL C ρ h [] []
  | cons {x v xs vs} : Rep C ρ h x v → RepL C ρ h xs vs → RepL C ρ h (x :: xs) (v :: vs)
end

theorem solid_tup {items : List Value} {n : Nat} : Solid (tupO items n) := .inl ⟨rfl, _, _, rfl⟩
theorem solid_inst {C d : Addr} : Solid (instO C d) := .inr ⟨⟨_, rfl⟩, .inl rfl⟩
theorem pre_get {ρ ρ' : List Addr} (hp : ρ <+: ρ') {i : Nat} {a : Addr} (h : ρ[i]? = some a) : ρ'[i]? = some a := by
  obtain ⟨t, rfl⟩ := hp
  rw [List.getElem?_append_left (List.getElem?_eq_some_iff.mp h).1]; exact h

section
variable {C : Glo} {ρ ρ' : List Addr} {h h' : Heap}
theorem Rep.up (hs : Solids h h') (hp : ρ <+: ρ') {x : MV} {v : Value} (r : Rep C ρ h x v) : Rep C ρ' h' x v :=
  Rep.rec (motive_1 := fun x v _ => Rep C ρ' h' x v) (motive_2 := fun x v _ => RepL C ρ' h' x v) .none (fun b => .bool b) (fun i t => .int i t) (fun s t z => .str s t z) (fun e _ z l => .tup (hs _ _ e solid_tup) l z) (fun e => .ref (pre_get hp e)) (fun e l z => .scr e l z) (fun e1 e2 e3 _ l => .gt e1 e2 e3 l) (fun e1 e2 e3 => .inst e1 (pre_get hp e2) (hs _ _ e3 solid_inst)) .nil (fun _ _ a b => .cons a b) r
theorem RepL.up (hs : Solids h h') (hp : ρ <+: ρ') {x : List MV} {v : List Value} (r : RepL C ρ h x v) : RepL C ρ' h' x v :=
  RepL.rec (motive_1 := fun x v _ => Rep C ρ' h' x v) (motive_2 := fun x v _ => RepL C ρ' h' x v) .none (fun b => .bool b) (fun i t => .int i t) (fun s t z => .str s t z) (fun e _ z l => .tup (hs _ _ e solid_tup) l z) (fun e => .ref (pre_get hp e)) (fun e l z => .scr e l z) (fun e1 e2 e3 _ l => .gt e1 e2 e3 l) (fun e1 e2 e3 => .inst e1 (pre_get hp e2) (hs _ _ e3 solid_inst)) .nil (fun _ _ a b => .cons a b) r

theorem ints_rep {is : List Int} {items : List Value} (r : IntsAre items is) : RepL C ρ h (is.map .int) items := by
  induction r with
  | nil => exact .nil
  | cons n t r ih => exact .cons (.int n t) ih
theorem RepL.length {xs : List MV} {vs : List Value} (r : RepL C ρ h xs vs) : vs.length = xs.length := by
  induction xs generalizing vs with
  | nil => cases r; rfl
  | cons x xs ih =>
    cases r with
    | cons a b => exact congrArg (· + 1) (ih b)
theorem RepL.get {xs : List MV} {vs : List Value} (r : RepL C ρ h xs vs) {i : Nat} {x : MV} (e : xs[i]? = some x) : ∃ v, vs[i]? = some v ∧ Rep C ρ h x v := by
  induction xs generalizing vs i with
  | nil => cases e
  | cons y xs ih =>
    cases r with
    | cons a b =>
      cases i with
      | zero => cases e; exact ⟨_, rfl, a⟩
      | succ i => exact ih b e
theorem RepL.append {xs : List MV} {vs : List Value} {ys : List MV} {ws : List Value} (r : RepL C ρ h xs vs) (l : RepL C ρ h ys ws) : RepL C ρ h (xs ++ ys) (vs ++ ws) := by
  induction xs generalizing vs with
  | nil => cases r; exact l
  | cons x xs ih =>
    cases r with
    | cons a b => exact .cons a (ih b)
theorem RepL.take {xs : List MV} {vs : List Value} (k : Nat) (r : RepL C ρ h xs vs) : RepL C ρ h (xs.take k) (vs.take k) := by
  induction xs generalizing vs k with
  | nil => cases r; rw [List.take_nil, List.take_nil]; exact .nil
  | cons x xs ih =>
    cases r with
    | cons a b =>
      cases k with
      | zero => exact .nil
      | succ k => exact .cons a (ih k b)
theorem RepL.drop {xs : List MV} {vs : List Value} (k : Nat) (r : RepL C ρ h xs vs) : RepL C ρ h (xs.drop k) (vs.drop k) := by
  induction xs generalizing vs k with
  | nil => cases r; rw [List.drop_nil, List.drop_nil]; exact .nil
  | cons x xs ih =>
    cases r with
    | cons a b =>
      cases k with
      | zero => exact .cons a b
      | succ k => exact ih k b
theorem RepL.set {xs : List MV} {vs : List Value} (k : Nat) {x : MV} {v : Value} (r : RepL C ρ h xs vs) (q : Rep C ρ h x v) : RepL C ρ h (xs.set k x) (vs.set k v) := by
  induction xs generalizing vs k with
  | nil => cases r; exact .nil
  | cons y xs ih =>
    cases r with
    | cons a b =>
      cases k with
      | zero => exact .cons q b
      | succ k => exact .cons a (ih k b)
end

inductive RepK (C : Glo) (ρ : List Addr) (h : Heap) : List (List Nat × MV) → List (Str × Value) → Prop
  | nil : RepK C ρ h [] []
  | cons {k x v es ds} : Rep C ρ h x v → RepK C ρ h es ds → RepK C ρ h ((k, x) :: es) ((str k, v) :: ds)
theorem RepK.up {C : Glo} {ρ ρ' : List Addr} {h h' : Heap} (hs : Solids h h') (hp : ρ <+: ρ') {x v} (r : RepK C ρ h x v) : RepK C ρ' h' x v := by
  induction r with
  | nil => exact .nil
  | cons a _ ih => exact .cons (a.up hs hp) ih

noncomputable def RepO (C : Glo) (ρ : List Addr) (h : Heap) : MO → Addr → Prop
  | .list xs, a => ∃ items n, h.get? a = some (listO items n) ∧ RepL C ρ h xs items ∧ xs.length ≤ line
  | .dict es, a => ∃ kvs, h.DictOf (strKind C.prog C.w) a kvs ∧ RepK C ρ h es kvs ∧ es.length ≤ line

structure Hp (C : Glo) (ρ : List Addr) (hp : List MO) (h : Heap) : Prop where
  base : C.base.StaysIn h
  len : ρ.length = hp.length
  nodup : ρ.Nodup
  fresh : ∀ a ∈ ρ, C.base.get? a = none
  objs : ∀ (i : Nat) (o : MO) (a : Addr), hp[i]? = some o → ρ[i]? = some a → RepO C ρ h o a

inductive Loc where
  | nm (L : Addr) (x : Str)
  | cl (c : Addr)

structure Fm where
  env : Env
  A : Around
  W : List Addr
  V : List Addr
  lay : Nat → Option Loc
  outer : List Env

noncomputable def Holds (C : Glo) (ρ : List Addr) (h : Heap) : Loc → MV → Prop
  | .nm L x, v => ∃ f w, h.Ns L f ∧ f x = some w ∧ Rep C ρ h v w
  | .cl c, v => ∃ w, h.IsCell c (some w) ∧ Rep C ρ h v w

noncomputable def WOk (h : Heap) (a : Addr) : Prop := ∃ o, h.get? a = some o ∧ ((∃ es n, o.data = .dict es n) ∨ ∃ v, o.data = .cell v)

noncomputable def OutOk (C : Glo) (ρ W : List Addr) (h : Heap) (env : Env) : Prop :=
  env.scope.kind ≠ .module ∧ ∃ L o es n, env.frame = some L ∧ C.base.get? L = none ∧ L ∉ ρ ∧ L ∉ W ∧ h.get? L = some o ∧ o.cls = .type "frame" ∧ o.data = .dict es n

structure Rel (C : Glo) (F : Fm) (ρ : List Addr) (m : MS) (s : Shared) : Prop where
  hp : Hp C ρ m.heap s.heap
  ns : ∃ f, s.heap.Ns F.env.locals f
  w : ∀ a ∈ F.W ++ F.V, a ∉ ρ ∧ C.base.get? a = none ∧ WOk s.heap a
  vars : ∀ i v, m.get i = some v → ∃ l, F.lay i = some l ∧ Holds C ρ s.heap l v
  cells : ∀ i c, F.lay i = some (.cl c) → ∃ v, s.heap.IsCell c v
  out : ∀ e ∈ F.outer, OutOk C ρ F.W s.heap e
  gens : s.gens = #[]

structure Step (W : List Addr) (ρ : List Addr) (s : Shared) (ρ' : List Addr) (s' : Shared) : Prop where
  pre : ρ <+: ρ'
  new : ∀ a ∈ ρ', a ∈ ρ ∨ s.heap.get? a = none
  keep : ∀ a o, s.heap.get? a = some o → a ∉ ρ → a ∉ W → s'.heap.get? a = some o ∨ (o.cls = .type "frame" ∧ ∃ sl, s'.heap.get? a = some { o with slots := sl })
  solid : Solids s.heap s'.heap
  alive : ∀ a o, s.heap.get? a = some o → ∃ o', s'.heap.get? a = some o'
  gens : s'.gens = s.gens
  os : s'.os = s.os

theorem Step.refl (W ρ : List Addr) (s : Shared) : Step W ρ s ρ s := ⟨List.prefix_refl _, fun _ h => .inl h, fun _ _ e _ _ => .inl e, fun _ _ e _ => e, fun _ o e => ⟨o, e⟩, rfl, rfl⟩
theorem Step.trans {W ρ ρ₁ ρ₂ : List Addr} {s s₁ s₂ : Shared} (x : Step W ρ s ρ₁ s₁) (y : Step W ρ₁ s₁ ρ₂ s₂) : Step W ρ s ρ₂ s₂ where
  pre := x.pre.trans y.pre
  new := fun a h => (y.new a h).elim (fun h => x.new a h) fun h => .inr (by
    cases e : s.heap.get? a with
    | none => rfl
    | some o => obtain ⟨o', e'⟩ := x.alive a o e; rw [h] at e'; cases e')
  keep := fun a o e h1 h2 => by
    have h1' : a ∉ ρ₁ := fun h => (x.new a h).elim h1 fun h => by rw [h] at e; cases e
    rcases x.keep a o e h1 h2 with e1 | ⟨hc, sl, e1⟩
    · exact y.keep a o e1 h1' h2
    · rcases y.keep a _ e1 h1' h2 with e2 | ⟨_, sl2, e2⟩
      · exact .inr ⟨hc, sl, e2⟩
      · exact .inr ⟨hc, sl2, e2⟩
  solid := fun a o e h => y.solid a o (x.solid a o e h) h
  alive := fun a o e => let ⟨o', e'⟩ := x.alive a o e; y.alive a o' e'
  gens := y.gens.trans x.gens
  os := y.os.trans x.os

theorem Rep.step {C : Glo} {W ρ ρ' : List Addr} {s s' : Shared} {x : MV} {v : Value} (r : Rep C ρ s.heap x v) (st : Step W ρ s ρ' s') : Rep C ρ' s'.heap x v := r.up st.solid st.pre
theorem RepL.step {C : Glo} {W ρ ρ' : List Addr} {s s' : Shared} {x : List MV} {v : List Value} (r : RepL C ρ s.heap x v) (st : Step W ρ s ρ' s') : RepL C ρ' s'.heap x v := r.up st.solid st.pre

noncomputable def Er (C : Glo) (F : Fm) (X : XM) (ρ : List Addr) (s : Shared) : Value → Shared → Prop := fun _ _ => False
theorem Er.back {C : Glo} {F : Fm} {X : XM} {ρ ρ₁ : List Addr} {s s₁ : Shared} (_st : Step F.W ρ s ρ₁ s₁) : ∀ e s', Er C F X ρ₁ s₁ e s' → Er C F X ρ s e s' := fun _ _ h => h

noncomputable abbrev mod (C : Glo) : Model := model C.prog C.w

noncomputable def Out (C : Glo) (F : Fm) (ρ : List Addr) (s : Shared) (Q : PQ) : Value → Shared → Prop :=
  fun v s' => ∃ ρ' m' x, Step F.W ρ s ρ' s' ∧ Rel C F ρ' m' s' ∧ Rep C ρ' s'.heap x v ∧ Q x m'
theorem Out.back {C : Glo} {F : Fm} {Q : PQ} {ρ ρ₁ : List Addr} {s s₁ : Shared} (st : Step F.W ρ s ρ₁ s₁) : ∀ v s', Out C F ρ₁ s₁ Q v s' → Out C F ρ s Q v s' :=
  fun _ _ ⟨ρ', m', x, a, b⟩ => ⟨ρ', m', x, st.trans a, b⟩
noncomputable def WPv (C : Glo) (F : Fm) (X : XM) (t : Sem Value) (Q : PQ) (m : MS) : Prop :=
  ∀ s ρ, Rel C F ρ m s → wpAny (mod C) F.A t (Out C F ρ s Q) (Er C F X ρ s) s
theorem WPv.then {C : Glo} {F : Fm} {X : XM} {t : Sem Value} {Q : PQ} {m : MS} {s : Shared} {ρ : List Addr} {P : Value → Shared → Prop} (h : WPv C F X t Q m) (R : Rel C F ρ m s)
    (k : ∀ ρ₁ s₁ m₁ x v, Step F.W ρ s ρ₁ s₁ → Rel C F ρ₁ m₁ s₁ → Rep C ρ₁ s₁.heap x v → Q x m₁ → P v s₁) : wpAny (mod C) F.A t P (Er C F X ρ s) s :=
  wpAny_mono (h s ρ R) (fun v s₁ ⟨ρ₁, m₁, x, a, b, c, d⟩ => k ρ₁ s₁ m₁ x v a b c d) fun _ _ e => e
theorem backV {C : Glo} {F : Fm} {X : XM} {A : Around} {t : Sem Value} {Q : PQ} {ρ ρ₁ : List Addr} {s s₁ s₂ : Shared} (st : Step F.W ρ s ρ₁ s₁) (h : wpAny (mod C) A t (Out C F ρ₁ s₁ Q) (Er C F X ρ₁ s₁) s₂) :
    wpAny (mod C) A t (Out C F ρ s Q) (Er C F X ρ s) s₂ := wpAny_mono h (Out.back st) (Er.back st)

end Mine
end
section
set_option autoImplicit false
set_option linter.unusedVariables false
set_option tactic.hygienic false
namespace Mine
open PySem

noncomputable def Loc.addr : Loc → Addr
  | .nm L _ => L
  | .cl c => c

theorem ns_unique {h : Heap} {a : Addr} {f g : Str → Option Value} (x : h.Ns a f) (y : h.Ns a g) : f = g := by
  obtain ⟨o, es, ep, ho, hd, _, hf⟩ := x
  obtain ⟨o', es', ep', ho', hd', _, hg⟩ := y
  rw [ho] at ho'; cases ho'
  rw [hd] at hd'; cases hd'
  funext n; rw [← hf, ← hg]

theorem ns_data {h h' : Heap} {a : Addr} {f : Str → Option Value} (x : h.Ns a f) (k : ∀ o, h.get? a = some o → ∃ o', h'.get? a = some o' ∧ o'.data = o.data) : h'.Ns a f := by
  obtain ⟨o, es, ep, ho, hd, r⟩ := x
  obtain ⟨o', ho', hd'⟩ := k o ho
  exact ⟨o', es, ep, ho', hd'.trans hd, r⟩
theorem cell_data {h h' : Heap} {a : Addr} {v : Option Value} (x : h.IsCell a v) (k : ∀ o, h.get? a = some o → ∃ o', h'.get? a = some o' ∧ o'.data = o.data) : h'.IsCell a v := by
  obtain ⟨o, ho, hd⟩ := x
  obtain ⟨o', ho', hd'⟩ := k o ho
  exact ⟨o', ho', hd'.trans hd⟩

section
variable {C : Glo} {F : Fm} {ρ ρ' : List Addr} {h h' : Heap} {m : MS} {s s' : Shared}

noncomputable def KeepD (h h' : Heap) (a : Addr) : Prop := ∀ o, h.get? a = some o → ∃ o', h'.get? a = some o' ∧ o'.data = o.data ∧ o'.cls = o.cls
noncomputable def KeepX (h h' : Heap) (a : Addr) : Prop := ∀ o, h.get? a = some o → h'.get? a = some o
theorem KeepX.d {h h' : Heap} {a : Addr} (k : KeepX h h' a) : KeepD h h' a := fun o e => ⟨o, k o e, rfl, rfl⟩
theorem KeepD.e {h h' : Heap} {a : Addr} (k : KeepD h h' a) : ∀ o, h.get? a = some o → ∃ o', h'.get? a = some o' ∧ o'.data = o.data := fun o e => let ⟨o', x, y, _⟩ := k o e; ⟨o', x, y⟩

theorem Holds.up {l : Loc} {v : MV} (x : Holds C ρ h l v) (hs : Solids h h') (hp : ρ <+: ρ') (k : KeepD h h' l.addr) : Holds C ρ' h' l v := by
  cases l with
  | nm L x' => obtain ⟨f, w, hn, e, r⟩ := x; exact ⟨f, w, ns_data hn k.e, e, r.up hs hp⟩
  | cl c => obtain ⟨w, hc, r⟩ := x; exact ⟨w, cell_data hc k.e, r.up hs hp⟩

theorem RepO.up {o : MO} {a : Addr} (x : RepO C ρ h o a) (hs : Solids h h') (hp : ρ <+: ρ') (k : KeepX h h' a) : RepO C ρ' h' o a := by
  cases o with
  | list xs => obtain ⟨items, n, e, l, z⟩ := x; exact ⟨items, n, k _ e, l.up hs hp, z⟩
  | dict es =>
    obtain ⟨kvs, ⟨o, ds, ep, e, r⟩, l, z⟩ := x
    exact ⟨kvs, ⟨o, ds, ep, k _ e, r⟩, l.up hs hp, z⟩

theorem Hp.up {hp : List MO} (x : Hp C ρ hp h) (hs : Solids h h') (k : ∀ a ∈ ρ, KeepX h h' a) (hb : C.base.StaysIn h') : Hp C ρ hp h' :=
  ⟨hb, x.len, x.nodup, x.fresh, fun i o a e1 e2 => (x.objs i o a e1 e2).up hs (List.prefix_refl _) (k a (List.mem_of_getElem? e2))⟩

theorem Hp.alloc {hp : List MO} (x : Hp C ρ hp h) (hs : Solids h h') (k : ∀ a ∈ ρ, KeepX h h' a) (hb : C.base.StaysIn h') {o : MO} {a : Addr} (ha : a ∉ ρ) (hf : C.base.get? a = none)
    (hr : RepO C (ρ ++ [a]) h' o a) : Hp C (ρ ++ [a]) (hp ++ [o]) h' := by
  refine ⟨hb, by simp [x.len], ?_, ?_, ?_⟩
  · exact List.nodup_append.mpr ⟨x.nodup, by simp, fun b hb c hc => by simp at hc; subst hc; exact fun e => ha (e ▸ hb)⟩
  · intro b hb
    rcases List.mem_append.mp hb with hb | hb
    · exact x.fresh b hb
    · simp at hb; subst hb; exact hf
  · intro i o' b e1 e2
    rcases Nat.lt_trichotomy i hp.length with hi | hi | hi
    · rw [List.getElem?_append_left hi] at e1
      rw [List.getElem?_append_left (by rw [x.len]; exact hi)] at e2
      exact (x.objs i o' b e1 e2).up hs (List.prefix_append _ _) (k b (List.mem_of_getElem? e2))
    · subst hi
      rw [List.getElem?_append_right (Nat.le_refl _)] at e1
      rw [← x.len, List.getElem?_append_right (Nat.le_refl _)] at e2
      simp at e1 e2; subst e1; subst e2; exact hr
    · rw [List.getElem?_eq_none (by simp; (first | lia | omega))] at e1; cases e1

theorem Hp.put {hp : List MO} (x : Hp C ρ hp h) (hs : Solids h h') {i : Nat} {a : Addr} (hi : ρ[i]? = some a) (k : ∀ b ∈ ρ, b ≠ a → KeepX h h' b) (hb : C.base.StaysIn h') {o : MO}
    (hr : RepO C ρ h' o a) : Hp C ρ (hp.set i o) h' := by
  refine ⟨hb, by simp [x.len], x.nodup, x.fresh, fun j o' b e1 e2 => ?_⟩
  by_cases e : i = j
  · subst e
    rw [hi] at e2; cases e2
    have hlt : i < hp.length := by rw [← x.len]; exact (List.getElem?_eq_some_iff.mp hi).1
    rw [List.getElem?_set_self hlt] at e1; cases e1
    exact hr
  · rw [List.getElem?_set_ne e] at e1
    refine (x.objs j o' b e1 e2).up hs (List.prefix_refl _) (k b (List.mem_of_getElem? e2) fun q => ?_)
    subst q
    have h1 := (List.getElem?_eq_some_iff.mp hi)
    have h2 := (List.getElem?_eq_some_iff.mp e2)
    exact e ((List.getElem_inj x.nodup).mp (h1.2.trans h2.2.symm))

structure FmOk (F : Fm) : Prop where
  loc : F.env.locals ∈ F.W
  lay : ∀ i l, F.lay i = some l → l.addr ∈ F.W ++ F.V
  inj : ∀ i j l, F.lay i = some l → F.lay j = some l → i = j
  kind : F.env.scope.kind = .function
  hn : F.A.handled = none

theorem Rel.up {hpN : List MO} (x : Rel C F ρ m s) (ok : FmOk F) (hs : Solids s.heap s'.heap) (hpre : ρ <+: ρ') (hH : Hp C ρ' hpN s'.heap) (hnew : ∀ a ∈ ρ', a ∈ ρ ∨ s.heap.get? a = none)
    (hW : ∀ a ∈ F.W ++ F.V, KeepD s.heap s'.heap a) (ho : ∀ e ∈ F.outer, ∀ L, e.frame = some L → KeepD s.heap s'.heap L) (hg : s'.gens = s.gens) : Rel C F ρ' ⟨m.vars, hpN⟩ s' where
  hp := hH
  ns := let ⟨f, hf⟩ := x.ns; ⟨f, ns_data hf (hW _ (List.mem_append_left _ ok.loc)).e⟩
  w := fun a ha => by
    obtain ⟨h1, h2, o, h3, h4⟩ := x.w a ha
    obtain ⟨o', e', d', _⟩ := hW a ha o h3
    refine ⟨fun hm => (hnew a hm).elim h1 fun q => (by rw [q] at h3; cases h3), h2, o', e', by rw [d']; exact h4⟩
  vars := fun i v e => let ⟨l, h1, h2⟩ := x.vars i v e; ⟨l, h1, h2.up hs hpre (hW _ (ok.lay i l h1))⟩
  cells := fun i c e => let ⟨v, h1⟩ := x.cells i c e; ⟨v, cell_data h1 (hW c (ok.lay i _ e)).e⟩
  out := fun e he => by
    obtain ⟨k, L, o, es, n, h1, h2, h3, h4, h5, h6, h7⟩ := x.out e he
    obtain ⟨o', e', d', c'⟩ := ho e he L h1 o h5
    exact ⟨k, L, o', es, n, h1, h2, fun hm => (hnew L hm).elim h3 fun q => (by rw [q] at h5; cases h5), h4, e', c'.trans h6, d'.trans h7⟩
  gens := hg.trans x.gens

theorem Rel.grow (x : Rel C F ρ m s) (ok : FmOk F) (hk : ∀ a o, s.heap.get? a = some o → s'.heap.get? a = some o) (hg : s'.gens = s.gens) (hos : s'.os = s.os) :
    Rel C F ρ m s' ∧ Step F.W ρ s ρ s' :=
  ⟨x.up ok (fun a o e _ => hk a o e) (List.prefix_refl _) (x.hp.up (fun a o e _ => hk a o e) (fun a _ o e => hk a o e) fun b o e => hk b o (x.hp.base b o e)) (fun a h => .inl h) (fun a _ o e => ⟨o, hk a o e, rfl, rfl⟩)
    (fun _ _ L _ o e => ⟨o, hk L o e, rfl, rfl⟩) hg,
   ⟨List.prefix_refl _, fun _ h => .inl h, fun a o e _ _ => .inl (hk a o e), fun a o e _ => hk a o e, fun a o e => ⟨o, hk a o e⟩, hg, hos⟩⟩
theorem Rel.tok (x : Rel C F ρ m s) (ok : FmOk F) (t : Nat) : Rel C F ρ m { s with toks := t } ∧ Step F.W ρ s ρ { s with toks := t } := x.grow ok (fun _ _ e => e) rfl rfl

theorem fresh_at {h : Heap} {a : Addr} (ha : h.objs.size ≤ a) : h.get? a = none := by
  cases e : h.get? a with
  | none => rfl
  | some o => exact absurd (Heap.lt_size e) (Nat.not_lt.mpr ha)

theorem base_fresh (x : Hp C ρ m.heap s.heap) {a : Addr} (ha : s.heap.get? a = none) : C.base.get? a = none := by
  cases e : C.base.get? a with
  | none => rfl
  | some o => have := x.base a o e; rw [ha] at this; cases this
theorem Hp.there (x : Hp C ρ m.heap s.heap) {a : Addr} (ha : a ∈ ρ) : ∃ o, s.heap.get? a = some o := by
  obtain ⟨i, hi, rfl⟩ := List.getElem_of_mem ha
  have hi' : i < m.heap.length := by rw [← x.len]; exact hi
  have := x.objs i m.heap[i] ρ[i] (List.getElem?_eq_getElem hi') (List.getElem?_eq_getElem hi)
  cases hm : m.heap[i] with
  | list xs => rw [hm] at this; obtain ⟨_, _, e, _⟩ := this; exact ⟨_, e⟩
  | dict es => rw [hm] at this; obtain ⟨_, ⟨_, _, _, e, _⟩, _⟩ := this; exact ⟨_, e⟩

theorem Rel.alloc (x : Rel C F ρ m s) (ok : FmOk F) (hk : ∀ a o, s.heap.get? a = some o → s'.heap.get? a = some o) (hg : s'.gens = s.gens) (hos : s'.os = s.os)
    {o : MO} {a : Addr} (ha : s.heap.get? a = none) (hr : RepO C (ρ ++ [a]) s'.heap o a) : Rel C F (ρ ++ [a]) (m.push o) s' ∧ Step F.W ρ s (ρ ++ [a]) s' := by
  have hn : ∀ b ∈ ρ ++ [a], b ∈ ρ ∨ s.heap.get? b = none := fun b hb => by
    rcases List.mem_append.mp hb with hb | hb
    · exact .inl hb
    · simp at hb; subst hb; exact .inr ha
  refine ⟨x.up ok (fun a o e _ => hk a o e) (List.prefix_append _ _) (x.hp.alloc (fun a o e _ => hk a o e) (fun a _ o e => hk a o e) (fun b o e => hk b o (x.hp.base b o e)) (fun hm => ?_) (base_fresh x.hp ha) hr) hn
    (fun a _ o e => ⟨o, hk a o e, rfl, rfl⟩) (fun _ _ L _ o e => ⟨o, hk L o e, rfl, rfl⟩) hg, ⟨List.prefix_append _ _, hn, fun a o e _ _ => .inl (hk a o e), fun a o e _ => hk a o e, fun a o e => ⟨o, hk a o e⟩, hg, hos⟩⟩
  obtain ⟨o', e⟩ := x.hp.there hm
  rw [ha] at e; cases e

theorem solids_but {a : Addr} (hk : ∀ b o, b ≠ a → h.get? b = some o → h'.get? b = some o) (ha : ∀ o, h.get? a = some o → ¬ Solid o) : Solids h h' := fun b o e hs => by
  by_cases q : b = a
  · subst q; exact absurd hs (ha o e)
  · exact hk b o q e
theorem repO_not_solid {o : MO} {a : Addr} (x : RepO C ρ h o a) : ∀ ob, h.get? a = some ob → ¬ Solid ob := fun ob e hs => by
  cases o with
  | list xs =>
    obtain ⟨items, n, e', _⟩ := x
    rw [e'] at e; cases e
    rcases hs with ⟨q, _⟩ | ⟨⟨c, q⟩, _⟩ <;> simp at q
  | dict es =>
    obtain ⟨kvs, ⟨o', ds, ep, e', ⟨hc, _⟩, _⟩, _⟩ := x
    rw [e'] at e; cases e
    rcases hs with ⟨q, _⟩ | ⟨⟨c, q⟩, _⟩ <;> rw [hc] at q <;> simp at q
theorem wok_not_solid {a : Addr} (x : WOk h a) : ∀ ob, h.get? a = some ob → ¬ Solid ob := fun ob e hs => by
  obtain ⟨o, e', d⟩ := x
  rw [e'] at e; cases e
  rcases hs with ⟨_, xs, n, q⟩ | ⟨_, q | ⟨vs, q⟩⟩ <;> rcases d with ⟨es, k, d⟩ | ⟨v, d⟩ <;> rw [d] at q <;> cases q

theorem RepO.there {o : MO} {a : Addr} (x : RepO C ρ h o a) : ∃ ob, h.get? a = some ob := by
  cases o with
  | list xs => obtain ⟨_, _, e, _⟩ := x; exact ⟨_, e⟩
  | dict es => obtain ⟨_, ⟨_, _, _, e, _⟩, _⟩ := x; exact ⟨_, e⟩

theorem Rel.put (x : Rel C F ρ m s) (ok : FmOk F) {i : Nat} {a : Addr} (hi : ρ[i]? = some a) {o₀ o : MO} (h0 : m.heap[i]? = some o₀) (hk : ∀ b ob, b ≠ a → s.heap.get? b = some ob → s'.heap.get? b = some ob) (hg : s'.gens = s.gens) (hos : s'.os = s.os)
    (hr : RepO C ρ s'.heap o a) : Rel C F ρ (m.put i o) s' ∧ Step F.W ρ s ρ s' := by
  have ham : a ∈ ρ := List.mem_of_getElem? hi
  have hs : Solids s.heap s'.heap := solids_but hk (repO_not_solid (x.hp.objs i o₀ a h0 hi))
  have hb : C.base.StaysIn s'.heap := fun b ob e => hk b ob (fun q => by rw [q, x.hp.fresh a ham] at e; cases e) (x.hp.base b ob e)
  refine ⟨x.up ok hs (List.prefix_refl _) (x.hp.put hs hi (fun b hb hne ob e => hk b ob hne e) hb hr) (fun b h => .inl h) (fun b hb ob e => ⟨ob, hk b ob (fun q => (x.w b hb).1 (q ▸ ham)) e, rfl, rfl⟩)
    (fun e he L hL ob eb => ⟨ob, hk L ob (fun q => ?_) eb, rfl, rfl⟩) hg, ⟨List.prefix_refl _, fun b h => .inl h, fun b ob e h1 _ => .inl (hk b ob (fun q => h1 (q ▸ ham)) e), hs, fun b ob e => ?_, hg, hos⟩⟩
  · obtain ⟨_, L', _, _, _, h1, _, h3, _⟩ := x.out e he
    rw [hL] at h1; cases h1
    exact h3 (q ▸ ham)
  · by_cases q : b = a
    · subst q; exact hr.there
    · exact ⟨ob, hk b ob q e⟩

set_option tactic.hygienic true in
theorem MS.get_set (m : MS) (i j : Nat) (v w : MV) (h : (m.set i v).get j = some w) : (j = i ∧ w = v) ∨ (j ≠ i ∧ m.get j = some w) := by
  unfold MS.get MS.set at h
  simp only at h
  by_cases e : i = j
  · subst e
    rw [List.getElem?_set] at h
    simp only [if_true] at h
    split at h
    · rename_i hh
      split at hh
      · cases hh; cases h; exact .inl ⟨rfl, rfl⟩
      · cases hh
    · cases h
  · rw [List.getElem?_set_ne e] at h
    exact .inr ⟨fun q => e q.symm, h⟩

theorem Rel.own (x : Rel C F ρ m s) (ok : FmOk F) {a : Addr} (ha : a ∈ F.W) (hsb : Heap.SameBut a s.heap s'.heap) (hg : s'.gens = s.gens) (hos : s'.os = s.os) {m' : MS} (hm : m'.heap = m.heap)
    (hw : WOk s'.heap a) (hns : ∃ f, s'.heap.Ns F.env.locals f) (hcell : ∀ v, s.heap.IsCell a v → ∃ w, s'.heap.IsCell a w)
    (hv : Solids s.heap s'.heap → ∀ i v, m'.get i = some v → ∃ l, F.lay i = some l ∧ Holds C ρ s'.heap l v) : Rel C F ρ m' s' ∧ Step F.W ρ s ρ s' := by
  have hk : ∀ b ob, b ≠ a → s.heap.get? b = some ob → s'.heap.get? b = some ob := fun b ob q e => (hsb.2 b q).trans e
  have hL := x.w _ (List.mem_append_left _ ha)
  have hs : Solids s.heap s'.heap := solids_but hk (wok_not_solid hL.2.2)
  refine ⟨⟨?_, hns, fun b hb => ?_, hv hs, fun i c e => ?_, fun e he => ?_, hg.trans x.gens⟩, ⟨List.prefix_refl _, fun b h => .inl h, fun b ob e h1 h2 => .inl (hk b ob (fun q => h2 (q ▸ ha)) e), hs, fun b ob e => ?_, hg, hos⟩⟩
  · rw [hm]
    exact x.hp.up hs (fun b hb ob e => hk b ob (fun q => hL.1 (q ▸ hb)) e) fun b ob e => hk b ob (fun q => by rw [q, hL.2.1] at e; cases e) (x.hp.base b ob e)
  · obtain ⟨h1, h2, o, h3, h4⟩ := x.w b hb
    refine ⟨h1, h2, ?_⟩
    by_cases q : b = a
    · subst q; exact hw
    · exact ⟨o, hk b o q h3, h4⟩
  · obtain ⟨v, o, h1, h2⟩ := x.cells i c e
    by_cases q : c = a
    · subst q; exact hcell v ⟨o, h1, h2⟩
    · exact ⟨v, o, hk c o q h1, h2⟩
  · obtain ⟨k, L, o, es, n, h1, h2, h3, h4, h5, h6, h7⟩ := x.out e he
    exact ⟨k, L, o, es, n, h1, h2, h3, h4, hk L o (fun q => h4 (q ▸ ha)) h5, h6, h7⟩
  · by_cases q : b = a
    · subst q; obtain ⟨o, e, _⟩ := hw; exact ⟨o, e⟩
    · exact ⟨ob, hk b ob q e⟩

theorem Rel.setName (x : Rel C F ρ m s) (ok : FmOk F) {i : Nat} {n : Str} (hi : F.lay i = some (.nm F.env.locals n)) {f : Str → Option Value} {v : Value} {w : MV} (hf : s.heap.Ns F.env.locals f)
    (hn : s'.heap.Ns F.env.locals (fun y => if y = n then some v else f y)) (hsb : Heap.SameBut F.env.locals s.heap s'.heap) (hg : s'.gens = s.gens) (hos : s'.os = s.os) (hr : Rep C ρ s.heap w v) :
    Rel C F ρ (m.set i w) s' ∧ Step F.W ρ s ρ s' := by
  refine x.own ok ok.loc hsb hg hos rfl ?_ ⟨_, hn⟩ (fun v hc => ?_) fun hs j u e => ?_
  · obtain ⟨o, es, ep, ho, hd, _⟩ := hn
    exact ⟨o, ho, .inl ⟨es, ep, hd⟩⟩
  · exfalso
    obtain ⟨o', es, ep, ho, hd, _⟩ := hf
    obtain ⟨o, g1, g2⟩ := hc
    rw [ho] at g1; cases g1; rw [hd] at g2; cases g2
  · rcases MS.get_set m i j w u e with ⟨rfl, rfl⟩ | ⟨hne, e⟩
    · exact ⟨_, hi, _, v, hn, by simp, hr.up hs (List.prefix_refl _)⟩
    · obtain ⟨l, h1, h2⟩ := x.vars j u e
      refine ⟨l, h1, ?_⟩
      by_cases q : l.addr = F.env.locals
      · cases l with
        | nm L y =>
          simp only [Loc.addr] at q; subst q
          obtain ⟨g, z, g1, g2, g3⟩ := h2
          have := ns_unique g1 hf; subst this
          refine ⟨_, z, hn, ?_, g3.up hs (List.prefix_refl _)⟩
          have : y ≠ n := fun q => by subst q; exact hne (ok.inj j i _ h1 hi)
          simp [this, g2]
        | cl c =>
          simp only [Loc.addr] at q; subst q
          exfalso
          obtain ⟨z, ⟨o, g1, g2⟩, _⟩ := h2
          obtain ⟨o', es, ep, ho, hd, _⟩ := hf
          rw [ho] at g1; cases g1; rw [hd] at g2; cases g2
      · exact h2.up hs (List.prefix_refl _) fun o e => ⟨o, (hsb.2 _ q).trans e, rfl, rfl⟩

theorem Rel.setCell (x : Rel C F ρ m s) (ok : FmOk F) {i : Nat} {c : Addr} (hi : F.lay i = some (.cl c)) (hcm : c ∈ F.W) {v₀ : Option Value} {v : Value} {w : MV} (h0 : s.heap.IsCell c v₀)
    (hn : s'.heap.IsCell c (some v)) (hsb : Heap.SameBut c s.heap s'.heap) (hg : s'.gens = s.gens) (hos : s'.os = s.os) (hr : Rep C ρ s.heap w v) :
    Rel C F ρ (m.set i w) s' ∧ Step F.W ρ s ρ s' := by
  refine x.own ok hcm hsb hg hos rfl ?_ ?_ (fun _ _ => ⟨_, hn⟩) fun hs j u e => ?_
  · obtain ⟨o, ho, hd⟩ := hn
    exact ⟨o, ho, .inr ⟨_, hd⟩⟩
  · obtain ⟨f, hf⟩ := x.ns
    refine ⟨f, hf.sameBut hsb fun q => ?_⟩
    obtain ⟨o, es, ep, ho, hd, _⟩ := hf
    obtain ⟨o', g1, g2⟩ := h0
    rw [← q, ho] at g1; cases g1; rw [hd] at g2; cases g2
  · rcases MS.get_set m i j w u e with ⟨rfl, rfl⟩ | ⟨hne, e⟩
    · exact ⟨_, hi, v, hn, hr.up hs (List.prefix_refl _)⟩
    · obtain ⟨l, h1, h2⟩ := x.vars j u e
      refine ⟨l, h1, ?_⟩
      by_cases q : l.addr = c
      · cases l with
        | nm L y =>
          simp only [Loc.addr] at q; subst q
          exfalso
          obtain ⟨g, z, ⟨o, es, ep, ho, hd, _⟩, _⟩ := h2
          obtain ⟨o', g1, g2⟩ := h0
          rw [ho] at g1; cases g1; rw [hd] at g2; cases g2
        | cl c' =>
          simp only [Loc.addr] at q; subst q
          exact absurd (ok.inj j i _ h1 hi) hne
      · exact h2.up hs (List.prefix_refl _) fun o e => ⟨o, (hsb.2 _ q).trans e, rfl, rfl⟩
end
end Mine
end
section
set_option autoImplicit false
set_option linter.unusedVariables false
set_option maxRecDepth 100000
set_option tactic.hygienic false
namespace Mine
open PySem PyProof.Rows

theorem dec_nat (n : Nat) : dec n = (Nat.toDigits 10 n).map Char.toNat := by
  show (Nat.repr n).toList.map Char.toNat = _
  rw [Nat.toList_repr]
theorem dec_digits (n : Nat) : NumText.AllDigits (dec n) := by
  intro c hc
  rw [dec_nat] at hc
  obtain ⟨ch, h, rfl⟩ := List.mem_map.mp hc
  exact digit_range (Nat.isDigit_of_mem_toDigits (by decide) (by decide) h)
theorem dec_pos (n : Nat) : dec n ≠ [] := fun e => by
  have h := toDigits_len_ge 10 n
  rw [← List.length_map (f := Char.toNat), ← dec_nat, e] at h
  exact absurd h (by decide)
theorem dec_len {i : Int} (h : 0 ≤ i ∧ i < 1000000) : 1 ≤ (dec i).length ∧ (dec i).length ≤ 6 := by
  obtain ⟨n, rfl⟩ := Int.eq_ofNat_of_zero_le h.1
  have e : (dec n).length = (Nat.repr n).length := by
    show ((Nat.repr n).toList.map Char.toNat).length = _
    rw [List.length_map, String.length_toList]
  refine ⟨?_, ?_⟩
  · rw [dec_nat, List.length_map]
    exact toDigits_len_ge 10 n
  · rw [e]
    exact (Nat.length_repr_le_iff (by decide)).mpr (by (first | lia | omega))
theorem dec_step {n : Nat} (h : 10 ≤ n) : dec n = dec (n / 10 : Nat) ++ [48 + n % 10] := by
  have hm : n % 10 < 10 := Nat.mod_lt n (by decide)
  have t : Nat.toDigits 10 (n / 10) ++ Nat.toDigits 10 (n % 10) = Nat.toDigits 10 (10 * (n / 10) + n % 10) := Nat.toDigits_append_toDigits (by decide) (by (first | lia | omega)) hm
  rw [Nat.div_add_mod] at t
  have d : ∀ d : Nat, d < 10 → (Nat.digitChar d).toNat = 48 + d := by decide
  rw [dec_nat, dec_nat, ← t, List.map_append, Nat.toDigits_of_lt_base hm, List.map_singleton, d _ hm]
theorem dec_one {n : Nat} (h : n < 10) : dec n = [48 + n] := by
  have d : ∀ d : Nat, d < 10 → (Nat.digitChar d).toNat = 48 + d := by decide
  rw [dec_nat, Nat.toDigits_of_lt_base h, List.map_singleton, d _ h]
theorem dec_val (n : Nat) : NumText.digitsVal (dec n) = n := by
  induction n using Nat.strongRecOn with
  | _ n ih =>
    rcases Nat.lt_or_ge n 10 with h | h
    · rw [dec_one h]
      show 0 * 10 + (48 + n - 48) = n
      (first | lia | omega)
    · rw [dec_step h, NumText.digitsVal_snoc, ih _ (by (first | lia | omega))]
      (first | lia | omega)
theorem dec_read {i : Int} (h : 0 ≤ i ∧ i < 1000000) : intText? (str (dec i)) = some i := by
  obtain ⟨n, rfl⟩ := Int.eq_ofNat_of_zero_le h.1
  have hl := dec_len h
  have e := intText_digits (x := str (dec n)) (dec_digits n) (fun e => by
    have e' : dec n = [] := e
    rw [e'] at hl; exact absurd hl.1 (by decide)) (by
    show (dec n).toArray.size ≤ 4300
    rw [List.size_toArray]; (first | lia | omega))
  have e' : NumText.digitsVal (str (dec n)).cps.toList = n := dec_val n
  rw [e'] at e
  exact e

theorem no_int : typeLookup (.type "str") "__int__" = pure none := by rw [typeLookup_type, builtinLookup_eq_fast]; kernel_rfl
theorem noIndex : typeLookup (.type "str") "__index__" = pure none := by rw [typeLookup_type, builtinLookup_eq_fast]; kernel_rfl
theorem no_trunc : typeLookup (.type "str") "__trunc__" = pure none := by rw [typeLookup_type, builtinLookup_eq_fast]; kernel_rfl

theorem from_text {M : Model} {A : Around} {E : Value → Shared → Prop} {s : Shared} {Q : Value → Shared → Prop} {v : Value} {text : List Nat} {n : Int}
    (hs : (text.takeWhile (· != 0)).length ≤ 640) (hr : (int_private% "readNumeral") 0 10 (text.takeWhile (· != 0)) = (int_private% "Numeral.value") n)
    (ha : ((text.takeWhile (· != 0)).length == text.length) = true) (h : Q (.int n s.toks) { s with toks := s.toks + 1 }) : wpAny M A ((int_private% "intFromText") v text 10) Q E s := by
  obtain ⟨hp, g, d, tk, os⟩ := s
  have hs' := decide_eq_true hs
  have ha' := decide_eq_true ha
  repeat (any_goals (first | assumption | (with_reducible refine wpAny_ite_true hs' ?_) | (with_reducible refine wpAny_ite_true ha' ?_) | wp_step))
  all_goals (try rw [hr])
  all_goals (try dsimp only)
  repeat (any_goals (first | assumption | (with_reducible refine wpAny_ite_true hs' ?_) | (with_reducible refine wpAny_ite_true ha' ?_) | wp_step))

structure Kept (p : Prop) : Prop where
  it : p
set_option maxHeartbeats 4000000 in
theorem new_text {x : Str} {u : Tok} {n : Int} (hl : x.length ≤ 640) (hn : intText? x = some n) : Gives (Builtin.«int.__new__» ⟨[.type "int", .str x u], []⟩) (.int n) :=
  .of_wp fun M A E s Q h => by
    obtain ⟨hp, g, d, tk, os⟩ := s
    have f1 := PySem.F.conv_sub_int
    have f2 := PySem.F.madeHere_int
    have f3 := no_int
    have f4 := noIndex
    have f5 := no_trunc
    have hs : (numSeenOf x).length ≤ 640 := Nat.le_trans (seen_length x) hl
    have hk := Kept.mk (show (int_private% "readNumeral") 0 10 (numSeenOf x) = (int_private% "Numeral.value") n ∧ ((numSeenOf x).length == (numTextOf x).length) = true from by
      rcases read0 x hs with ⟨m, h1, h2, h3⟩ | ⟨h1, _⟩
      · rw [hn] at h1; cases h1; exact ⟨h3, h2⟩
      · rw [hn] at h1; cases h1)
    have hs' := Kept.mk hs
    clear hs hl hn
    repeat (any_goals (first
      | assumption
      | ((with_reducible show wpAny _ _ ((int_private% "intFromText") _ _ _) _ _ _); refine from_text hs'.it hk.it.1 hk.it.2 ?_)
      | wp_step))
    all_goals first | exact ⟨_, rfl, h⟩ | skip
theorem int_text {C : Glo} {A : Around} {E P : Value → Shared → Prop} {s : Shared} {i : Int} {t : Tok} (h : 0 ≤ i ∧ i < 1000000) (hp : P (.int i s.toks) { s with toks := s.toks + 1 }) : wpAny (mod C) A (call (.type "int") [.str (str (dec i)) t]) P E s :=
  call_int_1 (new_text (by show (dec i).toArray.size ≤ 640; rw [List.size_toArray]; exact Nat.le_trans (dec_len h).2 (by decide)) (dec_read h)).meets (show (Made.int i).post _ s from ⟨rfl, hp⟩)
end Mine
end
section
set_option autoImplicit false
set_option linter.unusedVariables false
set_option tactic.hygienic false
namespace Mine
open PySem

section
variable {C : Glo} {F : Fm} {X : XM} {ρ : List Addr} {m : MS} {s : Shared} {Q : PQ} {E : Value → Shared → Prop} {A : Around}

theorem small_bits {x : Int} (h : small x) : Builtin.Int.intBits x ≤ 64 := by
  unfold small at h
  refine intBits_le_64 ?_ ?_ <;> (first | lia | omega)
theorem fdiv_pos' {x y : Int} (h : 0 < y) : x.fdiv y = x / y := Int.fdiv_eq_ediv_of_nonneg x (Int.le_of_lt h)
theorem fmod_pos' {x y : Int} (h : 0 < y) : x.fmod y = x % y := Int.fmod_eq_emod_of_nonneg x (Int.le_of_lt h)
theorem line_is : line = sizeLine := rfl

theorem outTok (R : Rel C F ρ m s) (ok : FmOk F) {x : MV} {v : Value} {t : Nat} (hr : Rep C ρ s.heap x v) (h : Q x m) : Out C F ρ s Q v { s with toks := t } :=
  let ⟨R', st⟩ := R.tok ok t; ⟨ρ, m, x, st, R', hr, h⟩
theorem outSame (R : Rel C F ρ m s) {x : MV} {v : Value} (hr : Rep C ρ s.heap x v) (h : Q x m) : Out C F ρ s Q v s := ⟨ρ, m, x, .refl _ _ _, R, hr, h⟩
theorem outTup (R : Rel C F ρ m s) (ok : FmOk F) {xs : List MV} {vs : List Value} (hr : RepL C ρ s.heap xs vs) (hz : xs.length ≤ line) (h : Q (.tup xs) m) {t : Nat} :
    Out C F ρ s Q (.ref s.heap.objs.size) { s with heap := s.heap.push (tupO vs 0), toks := t } := by
  obtain ⟨R', st⟩ := R.grow (s' := { s with heap := s.heap.push (tupO vs 0), toks := t }) ok (fun a o e => Heap.get?_push_of_some _ e) rfl rfl
  exact ⟨ρ, m, _, st, R', .tup (Heap.get?_push_size _ rfl) (hr.step st) hz, h⟩
theorem outList (R : Rel C F ρ m s) (ok : FmOk F) {xs : List MV} {vs : List Value} (hr : RepL C ρ s.heap xs vs) (hz : xs.length ≤ line) (h : Q (.ref m.heap.length) (m.push (.list xs))) {t : Nat} :
    Out C F ρ s Q (.ref s.heap.objs.size) { s with heap := s.heap.push (listO vs 0), toks := t } := by
  have hk : ∀ a o, s.heap.get? a = some o → (s.heap.push (listO vs 0)).get? a = some o := fun a o e => Heap.get?_push_of_some _ e
  obtain ⟨R', st⟩ := R.alloc (s' := { s with heap := s.heap.push (listO vs 0), toks := t }) ok hk rfl rfl (o := .list xs) (a := s.heap.objs.size) (fresh_at (Nat.le_refl _))
    ⟨vs, 0, Heap.get?_push_size _ rfl, hr.up (fun a o e _ => hk a o e) (List.prefix_append _ _), hz⟩
  refine ⟨_, _, _, st, R', .ref (i := m.heap.length) ?_, h⟩
  rw [← R.hp.len, List.getElem?_append_right (Nat.le_refl _)]; simp

theorem str_append (x y : List Nat) : str x ++ str y = str (x ++ y) := by
  show (⟨x.toArray ++ y.toArray⟩ : Str) = ⟨(x ++ y).toArray⟩
  simp
theorem str_length (x : List Nat) : (str x).length = x.length := by simp [Str.length]
theorem str_cps (x : List Nat) : (str x).cps.toList = x := by simp

noncomputable def opIs : Op → Operator
  | .add => .Add | .sub => .Sub | .mul => .Mult | .fdiv => .FloorDiv | .mod => .Mod | .pow => .Pow

theorem add_tup_ok (R : Rel C F ρ m s) (ok : FmOk F) {x y : List MV} {v w : Value} (hx : Rep C ρ s.heap (.tup x) v) (hy : Rep C ρ s.heap (.tup y) w) (h : x.length + y.length ≤ line ∧ Q (.tup (x ++ y)) m) :
    wpAny (mod C) A (binaryOp .Add v w) (Out C F ρ s Q) E s := by
  obtain ⟨hl, hq⟩ := h
  have hx' := hx
  have hy' := hy
  cases hx with | @tup t n _ vs gx lx zx => cases hy with | @tup b n2 _ ws gy ly zy =>
  have e : vs.toArray ++ ws.toArray = (vs ++ ws).toArray := by simp
  by_cases hv : vs = []
  · subst hv
    cases lx
    exact concat_meets ⟨_, gx, rfl⟩ ⟨_, gy, rfl⟩ noFill_tuple_add seq_tuple_add PySem.F.slot_tuple_add PySem.F.entry_tuple_add (PySem.F.args_tuple_add_2 _ _)
      (PyProof.Rows.tuple_addW0 t b ([] : List Value).toArray ws.toArray n n2 none none #[] #[] (by simp)) ⟨gx, gy, outSame R hy' hq⟩
  · by_cases hw : ws = []
    · subst hw
      cases ly
      exact concat_meets ⟨_, gx, rfl⟩ ⟨_, gy, rfl⟩ noFill_tuple_add seq_tuple_add PySem.F.slot_tuple_add PySem.F.entry_tuple_add (PySem.F.args_tuple_add_2 _ _)
        (PyProof.Rows.tuple_addW1 t b vs.toArray ([] : List Value).toArray n n2 none none #[] #[] (by simpa using hv) (by simp)) ⟨gx, gy, outSame R hx' (by simpa using hq)⟩
    · refine concat_meets ⟨_, gx, rfl⟩ ⟨_, gy, rfl⟩ noFill_tuple_add seq_tuple_add PySem.F.slot_tuple_add PySem.F.entry_tuple_add (PySem.F.args_tuple_add_2 _ _)
        (PyProof.Rows.tuple_addW2 t b vs.toArray ws.toArray n n2 none none #[] #[] (by simpa using hv) (by simpa using hw) (by rw [List.size_toArray, List.size_toArray, lx.length, ly.length]; exact hl)) ⟨gx, gy, ?_⟩
      rw [e]
      exact outTup R ok (lx.append ly) (by simpa using hl) hq

theorem num_ok (R : Rel C F ρ m s) (ok : FmOk F) {op : Op} (hop : op ≠ .add) {x y : Int} {t u : Tok} (h : wpInt2 op x y Q m) : wpAny (mod C) A (binaryOp (opIs op) (.int x t) (.int y u)) (Out C F ρ s Q) E s := by
  cases op with
  | add => exact absurd rfl hop
  | sub => exact PyProof.Rows.sub_int' (outTok R ok (.int _ _) h)
  | mul => exact PyProof.Rows.mul_int (outTok R ok (.int _ _) h.2) (h.1.elim (fun h => .of_left (small_bits h)) fun h => .of_right (small_bits h))
  | fdiv =>
    refine PyProof.Rows.floordiv_int (Int.ne_of_gt h.1.1) ?_ (.inl (PyProof.noPylong_small (by have := h.1; (first | lia | omega))))
    rw [fdiv_pos' h.1.1]; exact outTok R ok (.int _ _) h.2
  | mod =>
    refine PyProof.Rows.mod_int' (Int.ne_of_gt h.1) ?_
    rw [fmod_pos' h.1]; exact outTok R ok (.int _ _) h.2
  | pow =>
    obtain ⟨⟨rfl, hy⟩, hq⟩ := h
    exact PyProof.Rows.pow_int_small (by (first | lia | omega)) (by (first | lia | omega)) (by decide) (outTok R ok (.int _ _) hq)
theorem num_of {op : Op} {x y : MV} {v w : Value} (hx : Rep C ρ s.heap x v) (hy : Rep C ρ s.heap y w) (h : wpNum op x y Q m) : ∃ a b t u, v = .int a t ∧ w = .int b u ∧ wpInt2 op a b Q m := by
  cases hx with
  | int a t =>
    cases hy with
    | int b u => exact ⟨a, b, t, u, rfl, rfl, h⟩
    | _ => exact (show False from h).elim
  | _ => exact (show False from h).elim
set_option tactic.hygienic true in
theorem add_ok (R : Rel C F ρ m s) (ok : FmOk F) {x y : MV} {v w : Value} (hx : Rep C ρ s.heap x v) (hy : Rep C ρ s.heap y w) (h : wpAdd x y Q m) : wpAny (mod C) A (binaryOp (opIs .add) v w) (Out C F ρ s Q) E s := by
  cases hx with
  | int a t =>
    cases hy with
    | int b u => exact wpAny_add_int (outTok R ok (.int _ _) h)
    | _ => exact (show False from h).elim
  | str a t zx =>
    cases hy with
    | str b u zy =>
      have h : a.length + b.length ≤ line ∧ Q (.str (a ++ b)) m := h
      refine P.add_str ?_
      rw [str_length, str_length]
      by_cases ea : a = []
      · subst ea; exact outSame R (.str b u zy) (by simpa using h.2)
      · by_cases eb : b = []
        · subst eb; rw [if_neg (by simpa using ea), if_pos (by simp)]; exact outSame R (.str a t zx) (by simpa using h.2)
        · rw [if_neg (by simpa using ea), if_neg (by simpa using eb), str_append]
          refine ⟨by rw [str_length, List.length_append]; exact h.1, outTok R ok (.str _ _ (by rw [List.length_append]; exact h.1)) h.2⟩
    | _ => exact (show False from h).elim
  | tup g l z =>
    cases hy with
    | tup g' l' z' => exact add_tup_ok R ok (.tup g l z) (.tup g' l' z') h
    | _ => exact (show False from h).elim
  | ref ea =>
    cases hy with
    | ref eb =>
      simp only [wpAdd] at h
      split at h
      · rename_i x y e1 e2
        obtain ⟨ix, nx, gx, lx, zx⟩ := R.hp.objs _ _ _ e1 ea
        obtain ⟨iy, ny, gy, ly, zy⟩ := R.hp.objs _ _ _ e2 eb
        have e : ix.toArray ++ iy.toArray = (ix ++ iy).toArray := by simp
        refine P.add_list gx gy ?_ (by simp only [List.size_toArray, lx.length, ly.length]; exact h.1)
        rw [e]
        exact outList R ok (lx.append ly) (by rw [List.length_append]; exact h.1) h.2
      · exact h.elim
    | _ => exact (show False from h).elim
  | _ => exact (show False from h).elim
theorem bin_ok (R : Rel C F ρ m s) (ok : FmOk F) {op : Op} {x y : MV} {v w : Value} (hx : Rep C ρ s.heap x v) (hy : Rep C ρ s.heap y w) (h : wpBin op x y Q m) :
    wpAny (mod C) A (binaryOp (opIs op) v w) (Out C F ρ s Q) E s := by
  by_cases hop : op = .add
  · subst hop; exact add_ok R ok hx hy h
  · have h : wpNum op x y Q m := by cases op <;> first | exact h | exact absurd rfl hop
    obtain ⟨a, b, t, u, rfl, rfl, h⟩ := num_of hx hy h
    exact num_ok R ok hop h
end
end Mine
end
section
set_option autoImplicit false
set_option linter.unusedVariables false
set_option tactic.hygienic false
namespace Mine
open PySem

mutual
noncomputable def D.py : D → PyData
  | .none => .none
  | .bool b => .bool b
  | .int i => .int i
  | .str s => .str (Mine.str s)
  | .list xs => .list (D.pys xs)
  | .tup xs => .tuple (D.pys xs)
noncomputable def D.pys : List D → List PyData
  | [] => []
  | x :: xs => D.py x :: D.pys xs
end

theorem str_eq_iff {x y : List Nat} : (Mine.str x == Mine.str y) = (x == y) := by
  rw [Bool.eq_iff_iff]; simp
mutual
theorem D.eqv_py : ∀ (d e : D), PyData.eqv d.py e.py = d.deq e
  | .none, e => by cases e <;> rfl
  | .bool b, e => by cases e <;> rfl
  | .int b, e => by cases e <;> rfl
  | .str b, e => by
    cases e with
    | str c => exact str_eq_iff
    | _ => rfl
  | .list xs, e => by
    cases e with
    | list ys => exact D.eqvs_py xs ys
    | _ => rfl
  | .tup xs, e => by
    cases e with
    | tup ys => exact D.eqvs_py xs ys
    | _ => rfl
theorem D.eqvs_py : ∀ (d e : List D), PyData.eqvAll (D.pys d) (D.pys e) = D.deqs d e
  | [], [] => rfl
  | [], _ :: _ => rfl
  | _ :: _, [] => rfl
  | x :: xs, y :: ys => by show (PyData.eqv x.py y.py && PyData.eqvAll (D.pys xs) (D.pys ys)) = (x.deq y && D.deqs xs ys); rw [D.eqv_py x y, D.eqvs_py xs ys]
end
mutual
theorem D.lay_py : ∀ (d : D), d.ok = true → d.py.canLay0 = true
  | .none, _ => rfl
  | .bool b, _ => rfl
  | .int b, _ => rfl
  | .str b, h => by
    show PyData.strOk (Mine.str b) = true
    simp only [PyData.strOk, List.all_toArray, List.all_eq_true, decide_eq_true_eq]
    intro c hc; have := of_decide_eq_true (List.all_eq_true.mp h c hc); (first | lia | omega)
  | .list xs, h => D.lays_py xs h
  | .tup xs, h => D.lays_py xs h
theorem D.lays_py : ∀ (d : List D), D.oks d = true → PyData.canLayAll0 (D.pys d) = true
  | [], _ => rfl
  | x :: xs, h => by
    have h : x.ok = true ∧ D.oks xs = true := (Bool.and_eq_true_iff ..).mp h
    exact (Bool.and_eq_true_iff ..).mpr ⟨D.lay_py x h.1, D.lays_py xs h.2⟩
end
mutual
theorem D.depth_py : ∀ (d : D), d.py.depth = d.deep
  | .none => rfl
  | .bool b => rfl
  | .int b => rfl
  | .str b => rfl
  | .list xs => by show PyData.depthAll (D.pys xs) + 1 = D.deeps xs + 1; rw [D.depths_py xs]
  | .tup xs => by show PyData.depthAll (D.pys xs) + 1 = D.deeps xs + 1; rw [D.depths_py xs]
theorem D.depths_py : ∀ (d : List D), PyData.depthAll (D.pys d) = D.deeps d
  | [] => rfl
  | x :: xs => by show max x.py.depth (PyData.depthAll (D.pys xs)) = max x.deep (D.deeps xs); rw [D.depth_py x, D.depths_py xs]
end

section
variable {C : Glo} {F : Fm} {X : XM} {ρ : List Addr} {m : MS} {s : Shared} {E : Value → Shared → Prop} {A : Around} {h : Heap} {hp : List MO}

mutual
theorem Rd.reads (H : Hp C ρ hp h) : ∀ {x : MV} {d : D} {v : Value}, Rd hp x d → Rep C ρ h x v → ∃ as, Reads h v d.py as
  | _, _, _, .none => fun r => by cases r; exact ⟨_, .none⟩
  | _, _, _, .bool b => fun r => by cases r; exact ⟨_, .bool b⟩
  | _, _, _, .int i => fun r => by cases r; exact ⟨_, .int i _⟩
  | _, _, _, .str i => fun r => by cases r; exact ⟨_, .str _ _⟩
  | _, _, _, .tup l => fun r => by
    cases r with | tup e r _ =>
    obtain ⟨as, q⟩ := Rds.reads H l r
    exact ⟨_, .tuple e rfl rfl q⟩
  | _, _, _, .list hi l => fun r => by
    cases r with | ref e =>
    obtain ⟨items, n, g, r, _⟩ := H.objs _ _ _ hi e
    obtain ⟨as, q⟩ := Rds.reads H l r
    exact ⟨_, .list g rfl rfl q⟩
theorem Rds.reads (H : Hp C ρ hp h) : ∀ {x : List MV} {d : List D} {v : List Value}, Rds hp x d → RepL C ρ h x v → ∃ as, ReadsAll h v (D.pys d) as
  | _, _, _, .nil => fun r => by cases r; exact ⟨_, .nil⟩
  | _, _, _, .cons a b => fun r => by
    cases r with | cons r l =>
    obtain ⟨as, q⟩ := Rd.reads H a r
    obtain ⟨bs, q'⟩ := Rds.reads H b l
    exact ⟨_, .cons q q'⟩
end

noncomputable def OutB (s : Shared) (P : Bool → Prop) : Value → Shared → Prop := fun r s' => ∃ b t, r = .bool b ∧ s' = { s with toks := t } ∧ P b

theorem eqP_ok (R : Hp C ρ hp s.heap) {x y : MV} {v w : Value} (hx : Rep C ρ s.heap x v) (hy : Rep C ρ s.heap y w) {d e : D} (hd : Rd hp x d) (he : Rd hp y e) (hk : d.deep ≤ 1000) (h1 : d.ok = true) (h2 : e.ok = true)
    (hu : A.units + 1000 < cLine) {P : Bool → Prop} (h : P (d.deq e)) : wpAny (mod C) A (compareOp .Eq v w) (OutB s P) E s := by
  obtain ⟨as, ra⟩ := hd.reads R hx
  obtain ⟨bs, rb⟩ := he.reads R hy
  refine SeqAt.compareEq_reads ra rb (d.lay_py h1) (e.lay_py h2) ?_ ⟨_, s.toks, rfl, rfl, ?_⟩
  · rw [D.depth_py, D.depth_py]; (first | lia | omega)
  · rw [D.eqv_py]; exact h
theorem neP_ok (R : Hp C ρ hp s.heap) {x y : MV} {v w : Value} (hx : Rep C ρ s.heap x v) (hy : Rep C ρ s.heap y w) {d e : D} (hd : Rd hp x d) (he : Rd hp y e) (hk : d.deep ≤ 1000) (h1 : d.ok = true) (h2 : e.ok = true)
    (hu : A.units + 1000 < cLine) {P : Bool → Prop} (h : P (!d.deq e)) : wpAny (mod C) A (compareOp .NotEq v w) (OutB s P) E s := by
  obtain ⟨as, ra⟩ := hd.reads R hx
  obtain ⟨bs, rb⟩ := he.reads R hy
  refine SeqAt.compareNe_reads ra rb (d.lay_py h1) (e.lay_py h2) ?_ ⟨_, s.toks, rfl, rfl, ?_⟩
  · rw [D.depth_py, D.depth_py]; (first | lia | omega)
  · rw [D.eqv_py]; exact h

inductive Atm : MV → Value → Prop
  | none : Atm .none .none
  | bool (b) : Atm (.bool b) (.bool b)
  | int (i t) : Atm (.int i) (.int i t)
  | str (s t) : Atm (.str s) (.str (Mine.str s) t)
theorem Rep.atm {x : MV} {v : Value} (hx : Rep C ρ h x v) : Atm x v ∨ ∀ y, aeq x y = Option.none ∧ aeq y x = Option.none := by
  cases hx with
  | none => exact .inl .none
  | bool => exact .inl (.bool _)
  | int => exact .inl (.int _ _)
  | str => exact .inl (.str _ _)
  | _ => exact .inr fun y => ⟨rfl, by cases y <;> rfl⟩
open SeqAt in
theorem aeq_ok {x y : MV} {v w : Value} (hx : Rep C ρ s.heap x v) (hy : Rep C ρ s.heap y w) {b : Bool} (h : aeq x y = some b) : RcAt A s v w b ∧ RcNeAt A s v w (!b) := by
  rcases hx.atm with hx | hx
  · rcases hy.atm with hy | hy
    · cases hx with
      | none =>
        cases hy with
        | none => cases h; exact ⟨RcAt.none_none, RcNeAt.none_none⟩
        | bool q => cases h; exact ⟨RcAt.none_bool q, RcNeAt.none_bool q⟩
        | int q qt => cases h; exact ⟨RcAt.none_int q qt, RcNeAt.none_int q qt⟩
        | str q qt => cases h; exact ⟨RcAt.none_str (Mine.str q) qt, RcNeAt.none_str (Mine.str q) qt⟩
      | bool p =>
        cases hy with
        | none => cases h; exact ⟨RcAt.bool_none p, RcNeAt.bool_none p⟩
        | bool q => cases h; exact ⟨RcAt.bool_bool p q, RcNeAt.bool_bool p q⟩
        | int q qt => cases h
        | str q qt => cases h; exact ⟨RcAt.bool_str p (Mine.str q) qt, RcNeAt.bool_str p (Mine.str q) qt⟩
      | int p pt =>
        cases hy with
        | none => cases h; exact ⟨RcAt.int_none p pt, RcNeAt.int_none p pt⟩
        | bool q => cases h
        | int q qt => cases h; exact ⟨RcAt.int_int p pt q qt, RcNeAt.int_int p pt q qt⟩
        | str q qt => cases h; exact ⟨RcAt.int_str p pt (Mine.str q) qt, RcNeAt.int_str p pt (Mine.str q) qt⟩
      | str p pt =>
        cases hy with
        | none => cases h; exact ⟨RcAt.str_none (Mine.str p) pt, RcNeAt.str_none (Mine.str p) pt⟩
        | bool q => cases h; exact ⟨RcAt.str_bool (Mine.str p) pt q, RcNeAt.str_bool (Mine.str p) pt q⟩
        | int q qt => cases h; exact ⟨RcAt.str_int (Mine.str p) pt q qt, RcNeAt.str_int (Mine.str p) pt q qt⟩
        | str q qt => cases h; rw [← str_eq_iff]; exact ⟨RcAt.str_str (Mine.str p) pt (Mine.str q) qt, RcNeAt.str_str (Mine.str p) pt (Mine.str q) qt⟩
    · rw [(hy x).2] at h; cases h
  · rw [(hx y).1] at h; cases h

end
end Mine
end
section
set_option autoImplicit false
set_option linter.unusedVariables false
set_option tactic.hygienic false
namespace Mine
open PySem

structure GOk (C : Glo) : Prop where
  sys : (C.base.get? sysModules).isSome = true
  nolimit : C.base.NoLimit
  fns : ∀ f a, C.fa f = some a → ∃ o fd, C.base.get? a = some o ∧ o.data = .func fd

section
variable {C : Glo} {F : Fm} {X : XM} {ρ : List Addr} {m : MS} {s : Shared} {E : Value → Shared → Prop} {A : Around} {h : Heap} {hp : List MO}

theorem not_sys (G : GOk C) (H : Hp C ρ hp h) {a : Addr} (ha : a ∈ ρ) : (a == sysModules) = false := by
  have := H.fresh a ha
  cases e : a == sysModules with
  | false => rfl
  | true =>
    have : a = sysModules := by simpa using e
    subst this
    have g := G.sys
    rw [H.fresh _ ha] at g
    cases g

theorem RepK.length : ∀ {es : List (List Nat × MV)} {kvs : List (Str × Value)}, RepK C ρ h es kvs → kvs.length = es.length
  | _, _, .nil => rfl
  | _, _, .cons _ b => by simp [b.length]
theorem str_inj {x y : List Nat} (e : str x = str y) : x = y := by
  have : (str x).cps.toList = (str y).cps.toList := by rw [e]
  simpa using this
theorem RepK.get {es : List (List Nat × MV)} {kvs : List (Str × Value)} (r : RepK C ρ h es kvs) (k : List Nat) : match dget es k with
    | some x => ∃ v, valueAt kvs (str k) = some v ∧ Rep C ρ h x v
    | none => valueAt kvs (str k) = none := by
  induction r with
  | nil => rfl
  | @cons k' x v es ds a b ih =>
    unfold dget
    by_cases e : k' = k
    · subst e
      simp only [beq_self_eq_true]
      exact ⟨v, by simp [valueAt], a⟩
    · have e2 : ¬ str k' = str k := fun q => e (str_inj q)
      have e1 : (k' == k) = false := by simpa using e
      have ev : valueAt ((str k', v) :: ds) (str k) = valueAt ds (str k) := by simp [valueAt, e2]
      simp only [e1, ev]
      exact ih

end
end Mine
end
section
set_option autoImplicit false
set_option linter.unusedVariables false
set_option tactic.hygienic false
namespace Mine
open PySem
section
variable {C : Glo} {F : Fm} {X : XM} {ρ : List Addr} {m : MS} {s : Shared} {E : Value → Shared → Prop} {A : Around} {h : Heap} {hp : List MO}
theorem eqDict_ok (hud : useD = true) (G : GOk C) (R : Hp C ρ hp s.heap) {i j : Nat} {v w : Value} (hx : Rep C ρ s.heap (.ref i) v) (hy : Rep C ρ s.heap (.ref j) w) {es : List (List Nat × MV)} (hi : hp[i]? = some (.dict es)) (hj : hp[j]? = some (.dict es))
    (hl : ∀ e ∈ es, ∃ k, e.2 = .int k) (hn : (es.map (·.1)).Nodup) (hu : A.units < cLine) {Q : Value → Shared → Prop} :
    (Q (.bool true) s → wpAny (mod C) A (compareOp .Eq v w) Q E s) ∧ (Q (.bool false) s → wpAny (mod C) A (compareOp .NotEq v w) Q E s) := absurd hud (by decide)
end
end Mine
end
section
set_option autoImplicit false
set_option linter.unusedVariables false
set_option tactic.hygienic false
namespace Mine
open PySem

section
variable {C : Glo} {F : Fm} {X : XM} {ρ : List Addr} {m : MS} {s : Shared} {Q : PQ} {E : Value → Shared → Prop} {A : Around} {h : Heap} {hp : List MO}

theorem Rds.get {xs : List MV} {ds : List D} (r : Rds hp xs ds) {j : Nat} {x : MV} (e : xs[j]? = some x) : ∃ d, ds[j]? = some d ∧ Rd hp x d := by
  induction xs generalizing ds j with
  | nil => cases e
  | cons y xs ih =>
    cases r with
    | cons a b =>
      cases j with
      | zero => cases e; exact ⟨_, rfl, a⟩
      | succ j => exact ih b e
theorem Rds.length {xs : List MV} {ds : List D} (r : Rds hp xs ds) : ds.length = xs.length := by
  induction xs generalizing ds with
  | nil => cases r; rfl
  | cons y xs ih =>
    cases r with
    | cons a b => exact congrArg (· + 1) (ih b)
theorem oks_get : ∀ {ds : List D}, D.oks ds = true → ∀ {j : Nat} {d : D}, ds[j]? = some d → d.ok = true
  | [], _, _, _, e => by cases e
  | d :: ds, h, 0, _, e => by cases e; exact ((Bool.and_eq_true_iff ..).mp h).1
  | d :: ds, h, i + 1, _, e => oks_get ((Bool.and_eq_true_iff ..).mp h).2 e

theorem eqItem (H : Hp C ρ hp s.heap) {x y : MV} {v w : Value} (hx : Rep C ρ s.heap x v) (hy : Rep C ρ s.heap y w) {d e : D} (hd : Rd hp x d) (he : Rd hp y e) (hk : e.deep ≤ 1000) (h1 : d.ok = true) (h2 : e.ok = true)
    (hu : A.units + 1000 < cLine) : SeqAt.EqAt A s v w (d.deq e) := by
  obtain ⟨as, ra⟩ := hd.reads H hx
  obtain ⟨bs, rb⟩ := he.reads H hy
  rw [← D.eqv_py]
  exact SeqAt.eqAt_reads _ _ A s v w _ _ ra rb (d.lay_py h1) (e.lay_py h2) (by rw [D.depth_py, D.depth_py]; (first | lia | omega))

open Classical in
theorem any_items (H : Hp C ρ hp s.heap) {x : MV} {v : Value} {ys : List MV} {ws : List Value} (hx : Rep C ρ s.heap x v) (hy : RepL C ρ s.heap ys ws) {d : D} {es : List D} (hd : Rd hp x d) (he : Rds hp ys es) (hk : d.deep ≤ 1000)
    (h1 : d.ok = true) (h2 : D.oks es = true) (hu : A.units + 1000 < cLine) :
    ∃ e : Value → Bool, (∀ y, y ∈ ws.toArray → SeqAt.EqAt A s y v (e y)) ∧ ws.toArray.any e = es.any (fun e => e.deq d) := by
  have item : ∀ j y, ws[j]? = some y → ∃ e : D, es[j]? = some e ∧ SeqAt.EqAt A s y v (e.deq d) := fun j y hj => by
    have hlt : j < ys.length := by rw [← hy.length]; exact (List.getElem?_eq_some_iff.mp hj).1
    obtain ⟨e, e1, e2⟩ := he.get (List.getElem?_eq_getElem hlt)
    obtain ⟨w, w1, w2⟩ := hy.get (List.getElem?_eq_getElem hlt)
    rw [hj] at w1; cases w1
    exact ⟨e, e1, eqItem H w2 hx e2 hd hk (oks_get h2 e1) h1 hu⟩
  refine ⟨fun y => decide (∃ (j : Nat) (e : D), ws[j]? = some y ∧ es[j]? = some e ∧ e.deq d = true), fun y hy' => ?_, ?_⟩
  · obtain ⟨j, hj⟩ := List.mem_iff_getElem?.mp (by simpa using hy' : y ∈ ws)
    obtain ⟨e, e1, e2⟩ := item j y hj
    show SeqAt.EqAt A s y v (decide (∃ (j : Nat) (e : D), ws[j]? = some y ∧ es[j]? = some e ∧ e.deq d = true))
    by_cases q : ∃ (j : Nat) (e : D), ws[j]? = some y ∧ es[j]? = some e ∧ e.deq d = true
    · rw [decide_eq_true q]
      obtain ⟨k, e', k1, k2, k3⟩ := q
      obtain ⟨e'', e3, e4⟩ := item k y k1
      rw [k2] at e3; cases e3
      rw [k3] at e4; exact e4
    · rw [decide_eq_false q]
      cases b : e.deq d with
      | false => rw [b] at e2; exact e2
      | true => exact absurd ⟨j, e, hj, e1, b⟩ q
  · rw [Bool.eq_iff_iff]
    simp only [List.any_toArray, List.any_eq_true, decide_eq_true_eq]
    constructor
    · rintro ⟨y, _, j, e, _, h4, h5⟩
      exact ⟨e, List.mem_of_getElem? h4, h5⟩
    · rintro ⟨e, he', h5⟩
      obtain ⟨j, hj⟩ := List.mem_iff_getElem?.mp he'
      have hlt : j < ws.length := by rw [hy.length, ← he.length]; exact (List.getElem?_eq_some_iff.mp hj).1
      exact ⟨ws[j], List.getElem_mem hlt, j, e, List.getElem?_eq_getElem hlt, hj, h5⟩

theorem inP_ok {x : MV} {v : Value} {ys : List MV} {ws : List Value} {a : Addr} (H : Hp C ρ hp s.heap) (hx : Rep C ρ s.heap x v) (l : RepL C ρ s.heap ys ws) {P : Bool → Prop} (hu : A.units + 1001 < cLine) (h : InP hp x ys P)
    (k : ∀ e : Value → Bool, (∀ y, y ∈ ws.toArray → SeqAt.EqAt A.in1 s y v (e y)) → OutB s P (.bool (ws.toArray.any e)) s → wpAny (mod C) A (compareOp .In v (.ref a)) (OutB s P) E s) : wpAny (mod C) A (compareOp .In v (.ref a)) (OutB s P) E s := by
  obtain ⟨d, es, hd, he, hk, h1, h2, hq⟩ := h
  obtain ⟨e, e1, e2⟩ := any_items (A := A.in1) H hx l hd he hk h1 h2 (by simp; (first | lia | omega))
  exact k e e1 ⟨_, s.toks, rfl, rfl, by rw [e2]; exact hq⟩
theorem in_ok (G : GOk C) (H : Hp C ρ hp s.heap) {x c : MV} {v w : Value} (hx : Rep C ρ s.heap x v) (hc : Rep C ρ s.heap c w) {P : Bool → Prop} (hu : A.units + 1001 < cLine) (h : wpIn x c P hp) :
    wpAny (mod C) A (compareOp .In v w) (OutB s P) E s := by
  cases hc with
  | tup g l _ => exact inP_ok H hx l hu h fun e e1 e2 => SeqAt.in_tupleAt e ⟨_, g, rfl, _, rfl⟩ e1 e2
  | gt g g1 g2 l => exact inP_ok H hx l hu h fun e e1 e2 => SeqAt.in_tupleAt e ⟨_, H.base _ _ g, g1, _, g2⟩ e1 e2
  | @ref i a g =>
    replace h : wpInO hp[i]? x P hp := h
    cases hi : hp[i]? with
    | none => rw [hi] at h; exact h.elim
    | some o =>
      rw [hi] at h
      cases o with
      | list ys =>
        obtain ⟨items, n, gi, l, _⟩ := H.objs _ _ _ hi g
        exact inP_ok H hx l hu h fun e e1 e2 => SeqAt.in_listAt e ⟨_, gi, rfl, _, rfl⟩ e1 e2
      | dict es =>
        obtain ⟨k, rfl, hq⟩ := onS_inv h
        cases hx with | str _ t _ =>
        obtain ⟨kvs, dk, rk, _⟩ := H.objs _ _ _ hi g
        refine wpAny_in_of (strKind_is' C.prog C.w (str k) t) (not_sys G H (List.mem_of_getElem? g)) dk.mapOf ⟨_, s.toks + 1, rfl, rfl, ?_⟩
        have := rk.get k
        cases e : dget es k with
        | none => rw [e] at this hq; rw [this]; exact hq
        | some x => rw [e] at this hq; obtain ⟨v, e', _⟩ := this; rw [e']; exact hq
  | str s' t _ =>
    replace h := one_sign h
    obtain ⟨a, rfl, h⟩ := h
    cases hx with | str _ u _ =>
    refine PySem.P.in_str ⟨_, s.toks, rfl, rfl, ?_⟩
    have := StrLaws.found_one (str s') a
    rw [this]
    simpa using h
  | _ => exact h.elim
where
  strKind_is' (prog : Program) (w : World) (x : Str) (t : Tok) : (strKind prog w).is x (.str x t) = true := by simp [strKind, Value.isStrOf]
  one_sign {x : MV} {f : Nat → Prop} (h : match x with
    | .str [a] => f a
    | _ => False) : ∃ a, x = .str [a] ∧ f a := by
    split at h
    · exact ⟨_, rfl, h⟩
    · exact h.elim

theorem notIn_of {v w : Value} {P : Bool → Prop} (h : wpAny (mod C) A (compareOp .In v w) (OutB s (fun b => P (!b))) E s) : wpAny (mod C) A (compareOp .NotIn v w) (OutB s P) E s := fun Γ p hΓ => by
  have := h Γ p hΓ
  simp only [compareOp, Sem.wp_bind'] at this ⊢
  refine Sem.wp_mono _ Γ _ (fun b p' s' h' => ?_) (fun _ _ _ h' => h') _ _ this
  obtain ⟨b', t, e1, e2, e3⟩ := h'
  cases e1
  exact ⟨_, t, rfl, e2, e3⟩

noncomputable def cmpIs : Cmp → CmpOp
  | .eq => .Eq | .ne => .NotEq | .lt => .Lt | .le => .LtE | .gt => .Gt | .ge => .GtE | .inn => .In | .nin => .NotIn

open SeqAt in
theorem nil_ok (H : Hp C ρ hp s.heap) {i j : Nat} {xs : List MV} {v w : Value} (hx : Rep C ρ s.heap (.ref i) v) (hy : Rep C ρ s.heap (.ref j) w) (hi : hp[i]? = some (.list xs)) (hj : hp[j]? = some (.list [])) (hu : A.units < cLine) {P : Value → Shared → Prop} :
    (P (.bool xs.isEmpty) s → wpAny (mod C) A (compareOp .Eq v w) P E s) ∧ (P (.bool (!xs.isEmpty)) s → wpAny (mod C) A (compareOp .NotEq v w) P E s) := by
  cases hx with | ref g => cases hy with | ref g' =>
  obtain ⟨items, n, gi, l, _⟩ := H.objs _ _ _ hi g
  obtain ⟨items', n', gi', l', _⟩ := H.objs _ _ _ hj g'
  cases l' with | nil =>
  have hl : s.heap.IsList _ items.toArray := ⟨_, gi, rfl, _, rfl⟩
  have hl' : s.heap.IsList _ ([] : List Value).toArray := ⟨_, gi', rfl, _, rfl⟩
  cases l with
  | nil => exact ⟨RcAt.lists (e := fun _ => true) hl hl' rfl hu (fun j h => absurd h (Nat.not_lt_zero j)) _ _ _ _, RcNeAt.lists (e := fun _ => true) hl hl' rfl hu (fun j h => absurd h (Nat.not_lt_zero j)) _ _ _ _⟩
  | cons => exact ⟨RcAt.lists_lengths hl hl' rfl hu _ _ _ _, RcNeAt.lists_lengths hl hl' rfl hu _ _ _ _⟩
set_option tactic.hygienic true in
theorem cmp_ok (G : GOk C) (H : Hp C ρ m.heap s.heap) {op : Cmp} {x y : MV} {v w : Value} (hx : Rep C ρ s.heap x v) (hy : Rep C ρ s.heap y w) {P : Bool → MS → Prop} (hu : A.units + 1001 < cLine) (h : wpCmp op x y P m) :
    wpAny (mod C) A (compareOp (cmpIs op) v w) (OutB s (fun b => P b m)) E s := by
  unfold wpCmp at h
  split at h
  · split at h
    · rename_i b e
      exact (aeq_ok (A := A) hx hy e).1 _ _ _ _ ⟨_, s.toks, rfl, rfl, h⟩
    · obtain ⟨d, e, hd, he, hk, h1, h2, hq⟩ | ⟨hud, i, j, es, rfl, rfl, hi, hj, hl, hn, hq⟩ | ⟨i, j, xs, rfl, rfl, hi, hj, hq⟩ := h
      · exact eqP_ok H hx hy hd he hk h1 h2 (by (first | lia | omega)) hq
      · exact (eqDict_ok hud G H hx hy hi hj hl hn (by (first | lia | omega))).1 ⟨_, s.toks, rfl, rfl, hq⟩
      · exact (nil_ok H hx hy hi hj (by (first | lia | omega))).1 ⟨_, s.toks, rfl, rfl, hq⟩
  · split at h
    · rename_i b e
      exact (aeq_ok (A := A) hx hy e).2 _ _ _ _ ⟨_, s.toks, rfl, rfl, h⟩
    · obtain ⟨d, e, hd, he, hk, h1, h2, hq⟩ | ⟨hud, i, j, es, rfl, rfl, hi, hj, hl, hn, hq⟩ | ⟨i, j, xs, rfl, rfl, hi, hj, hq⟩ := h
      · exact neP_ok H hx hy hd he hk h1 h2 (by (first | lia | omega)) hq
      · exact (eqDict_ok hud G H hx hy hi hj hl hn (by (first | lia | omega))).2 ⟨_, s.toks, rfl, rfl, hq⟩
      · exact (nil_ok H hx hy hi hj (by (first | lia | omega))).2 ⟨_, s.toks, rfl, rfl, hq⟩
  · split at h
    · cases hx; cases hy; exact wpAny_lt_int ⟨_, s.toks, rfl, rfl, h⟩
    · exact h.elim
  · split at h
    · cases hx; cases hy; exact PyProof.Rows.le_int ⟨_, s.toks, rfl, rfl, h⟩
    · exact h.elim
  · split at h
    · cases hx; cases hy; exact PyProof.Rows.gt_int ⟨_, s.toks, rfl, rfl, h⟩
    · exact h.elim
  · split at h
    · cases hx; cases hy; exact PyProof.Rows.ge_int ⟨_, s.toks, rfl, rfl, h⟩
    · exact h.elim
  · exact in_ok G H hx hy hu h
  · exact notIn_of (in_ok G H hx hy hu h)
end
end Mine
end
section
set_option autoImplicit false
set_option linter.unusedVariables false
set_option genSizeOf false
set_option genInjectivity false
set_option tactic.hygienic false
namespace Mine
open PySem

noncomputable def noPos : Pos := ⟨0, 0, 0, 0⟩
noncomputable def noE : Expr := .Constant .none 0 noPos
structure V where
  tag : Nat
  p : Pos := noPos
  e1 : Expr := noE
  e2 : Expr := noE
  xs : List Expr := []
  s : Str := ⟨#[]⟩
  n : Nat := 0
  k : Const := .none
  o : Operator := .Add
  u : UnaryOp := .Not
  b : BoolOp := .And
  cs : List CmpOp := []
  ks : List Keyword := []
  o1 : Option Expr := none
  o2 : Option Expr := none
  o3 : Option Expr := none
  os : List (Option Expr) := []
  gs : List Comprehension := []
  sc : Scope := ⟨.function, [], false, false, []⟩
noncomputable def view : Expr → V
  | .Constant k n p => { tag := 0, k, n, p }
  | .Name s p => { tag := 1, s, p }
  | .BinOp e1 o e2 p => { tag := 2, e1, o, e2, p }
  | .UnaryOp u e1 p => { tag := 3, u, e1, p }
  | .BoolOp b xs p => { tag := 4, b, xs, p }
  | .Compare e1 cs xs p => { tag := 5, e1, cs, xs, p }
  | .Call e1 xs ks p => { tag := 6, e1, xs, ks, p }
  | .Attribute e1 s p => { tag := 7, e1, s, p }
  | .Subscript e1 e2 p => { tag := 8, e1, e2, p }
  | .Slice o1 o2 o3 p => { tag := 9, o1, o2, o3, p }
  | .List xs p => { tag := 10, xs, p }
  | .Tuple xs n p => { tag := 11, xs, n, p }
  | .Dict os xs p => { tag := 12, os, xs, p }
  | .ListComp e1 gs sc p => { tag := 13, e1, gs, sc, p }
  | _ => { tag := 14 }
noncomputable def back (v : V) : Nat → Option Expr
  | 0 => some (.Constant v.k v.n v.p)
  | 1 => some (.Name v.s v.p)
  | 2 => some (.BinOp v.e1 v.o v.e2 v.p)
  | 3 => some (.UnaryOp v.u v.e1 v.p)
  | 4 => some (.BoolOp v.b v.xs v.p)
  | 5 => some (.Compare v.e1 v.cs v.xs v.p)
  | 6 => some (.Call v.e1 v.xs v.ks v.p)
  | 7 => some (.Attribute v.e1 v.s v.p)
  | 8 => some (.Subscript v.e1 v.e2 v.p)
  | 9 => some (.Slice v.o1 v.o2 v.o3 v.p)
  | 10 => some (.List v.xs v.p)
  | 11 => some (.Tuple v.xs v.n v.p)
  | 12 => some (.Dict v.os v.xs v.p)
  | 13 => some (.ListComp v.e1 v.gs v.sc v.p)
  | _ => none
theorem view_eq (e : Expr) : ∀ x, back (view e) (view e).tag = some x → e = x := by
  cases e <;> first | exact fun x h => Option.some.inj h | exact fun x h => nomatch h
theorem view_at {e : Expr} {n : Nat} {x : Expr} (h : (view e).tag = n) (hx : back (view e) n = some x) : e = x := view_eq e x (h ▸ hx)
set_option tactic.hygienic true in
theorem tag_some {α : Type} {n m : Nat} {a b : α} (h : (if n = m then some a else none) = some b) : n = m ∧ a = b := by
  split at h
  · rename_i q; exact ⟨q, Option.some.inj h⟩
  · cases h

noncomputable def onSome {α : Type} (o : Option α) (f : α → Bool) : Bool := match o with
  | some a => f a
  | none => false
theorem onSome_true {α : Type} {o : Option α} {f : α → Bool} (h : onSome o f = true) : ∃ a, o = some a ∧ f a = true := by
  cases o with
  | none => cases h
  | some a => exact ⟨a, rfl, h⟩
noncomputable def one {α : Type} (xs : List α) : Option α := match xs with
  | [x] => some x
  | _ => none
theorem one_eq {α : Type} {xs : List α} {x : α} (h : one xs = some x) : xs = [x] := by
  unfold one at h
  split at h
  · cases h; rfl
  · cases h
noncomputable def two {α : Type} (xs : List α) : Option (α × α) := match xs with
  | [x, y] => some (x, y)
  | _ => none
theorem two_eq {α : Type} {xs : List α} {x y : α} (h : two xs = some (x, y)) : xs = [x, y] := by
  unfold two at h
  split at h
  · cases h; rfl
  · cases h
noncomputable def xConst (e : Expr) : Option Const := if (view e).tag = 0 then some (view e).k else none
noncomputable def xName (e : Expr) : Option Str := if (view e).tag = 1 then some (view e).s else none
noncomputable def xBin (e : Expr) : Option (Expr × Operator × Expr) := if (view e).tag = 2 then some ((view e).e1, (view e).o, (view e).e2) else none
noncomputable def xUn (e : Expr) : Option (UnaryOp × Expr) := if (view e).tag = 3 then some ((view e).u, (view e).e1) else none
noncomputable def xBool (e : Expr) : Option (BoolOp × List Expr) := if (view e).tag = 4 then some ((view e).b, (view e).xs) else none
noncomputable def xCmp (e : Expr) : Option (Expr × List CmpOp × List Expr) := if (view e).tag = 5 then some ((view e).e1, (view e).cs, (view e).xs) else none
noncomputable def xCall (e : Expr) : Option (Expr × List Expr × List Keyword × Pos) := if (view e).tag = 6 then some ((view e).e1, (view e).xs, (view e).ks, (view e).p) else none
noncomputable def xAttr (e : Expr) : Option (Expr × Str × Pos) := if (view e).tag = 7 then some ((view e).e1, (view e).s, (view e).p) else none
noncomputable def xSub (e : Expr) : Option (Expr × Expr) := if (view e).tag = 8 then some ((view e).e1, (view e).e2) else none
noncomputable def xSlice (e : Expr) : Option (Option Expr × Option Expr × Option Expr) := if (view e).tag = 9 then some ((view e).o1, (view e).o2, (view e).o3) else none
noncomputable def xList (e : Expr) : Option (List Expr) := if (view e).tag = 10 then some (view e).xs else none
noncomputable def xTup (e : Expr) : Option (List Expr) := if (view e).tag = 11 then some (view e).xs else none
noncomputable def xDict (e : Expr) : Option (List (Option Expr) × List Expr) := if (view e).tag = 12 then some ((view e).os, (view e).xs) else none
noncomputable def xLC (e : Expr) : Option (Expr × List Comprehension × Scope) := if (view e).tag = 13 then some ((view e).e1, (view e).gs, (view e).sc) else none
section
variable {e : Expr}
theorem xConst_eq {k : Const} (h : xConst e = some k) : ∃ a b, e = .Constant k a b := by
  obtain ⟨h1, h2⟩ := tag_some h
  cases h2
  exact ⟨_, _, view_at h1 rfl⟩
theorem xName_eq {x : Str} (h : xName e = some x) : ∃ p, e = .Name x p := by
  obtain ⟨h1, h2⟩ := tag_some h
  cases h2
  exact ⟨_, view_at h1 rfl⟩
theorem xBin_eq {l r : Expr} {o : Operator} (h : xBin e = some (l, o, r)) : ∃ p, e = .BinOp l o r p := by
  obtain ⟨h1, h2⟩ := tag_some h
  cases h2
  exact ⟨_, view_at h1 rfl⟩
theorem xUn_eq {o : UnaryOp} {x : Expr} (h : xUn e = some (o, x)) : ∃ p, e = .UnaryOp o x p := by
  obtain ⟨h1, h2⟩ := tag_some h
  cases h2
  exact ⟨_, view_at h1 rfl⟩
theorem xBool_eq {o : BoolOp} {xs : List Expr} (h : xBool e = some (o, xs)) : ∃ p, e = .BoolOp o xs p := by
  obtain ⟨h1, h2⟩ := tag_some h
  cases h2
  exact ⟨_, view_at h1 rfl⟩
theorem xCmp_eq {l : Expr} {os : List CmpOp} {rs : List Expr} (h : xCmp e = some (l, os, rs)) : ∃ p, e = .Compare l os rs p := by
  obtain ⟨h1, h2⟩ := tag_some h
  cases h2
  exact ⟨_, view_at h1 rfl⟩
theorem xCall_eq {f : Expr} {xs : List Expr} {ks : List Keyword} {p : Pos} (h : xCall e = some (f, xs, ks, p)) : e = .Call f xs ks p := by
  obtain ⟨h1, h2⟩ := tag_some h
  cases h2
  exact view_at h1 rfl
theorem xAttr_eq {v : Expr} {n : Str} {p : Pos} (h : xAttr e = some (v, n, p)) : e = .Attribute v n p := by
  obtain ⟨h1, h2⟩ := tag_some h
  cases h2
  exact view_at h1 rfl
theorem xSub_eq {v i : Expr} (h : xSub e = some (v, i)) : ∃ p, e = .Subscript v i p := by
  obtain ⟨h1, h2⟩ := tag_some h
  cases h2
  exact ⟨_, view_at h1 rfl⟩
theorem xSlice_eq {l u st : Option Expr} (h : xSlice e = some (l, u, st)) : ∃ p, e = .Slice l u st p := by
  obtain ⟨h1, h2⟩ := tag_some h
  cases h2
  exact ⟨_, view_at h1 rfl⟩
theorem xList_eq {xs : List Expr} (h : xList e = some xs) : ∃ p, e = .List xs p := by
  obtain ⟨h1, h2⟩ := tag_some h
  cases h2
  exact ⟨_, view_at h1 rfl⟩
theorem xTup_eq {xs : List Expr} (h : xTup e = some xs) : ∃ k p, e = .Tuple xs k p := by
  obtain ⟨h1, h2⟩ := tag_some h
  cases h2
  exact ⟨_, _, view_at h1 rfl⟩
theorem xDict_eq {ks : List (Option Expr)} {vs : List Expr} (h : xDict e = some (ks, vs)) : ∃ p, e = .Dict ks vs p := by
  obtain ⟨h1, h2⟩ := tag_some h
  cases h2
  exact ⟨_, view_at h1 rfl⟩
theorem xLC_eq {x : Expr} {gs : List Comprehension} {sc : Scope} (h : xLC e = some (x, gs, sc)) : ∃ p, e = .ListComp x gs sc p := by
  obtain ⟨h1, h2⟩ := tag_some h
  cases h2
  exact ⟨_, view_at h1 rfl⟩
end
noncomputable def xFn (e : Expr) : Option (Str × List Expr × Pos) := (xCall e).bind fun q => match q.2.2.1 with
  | [] => (xName q.1).map fun x => (x, q.2.1, q.2.2.2)
  | _ => none
theorem xFn_eq {e : Expr} {x : Str} {xs : List Expr} {p : Pos} (h : xFn e = some (x, xs, p)) : ∃ px, e = .Call (.Name x px) xs [] p := by
  unfold xFn at h
  obtain ⟨⟨f, ys, ks, q⟩, h1, h2⟩ := Option.bind_eq_some_iff.mp h
  cases ks with
  | nil =>
    obtain ⟨y, h3, h4⟩ := Option.map_eq_some_iff.mp h2
    obtain ⟨px, rfl⟩ := xName_eq h3
    cases h4
    exact ⟨px, xCall_eq h1⟩
  | cons => cases h2
noncomputable def xMeth (e : Expr) : Option ((Expr × Str × Pos) × List Expr × Pos) := (xCall e).bind fun q => match q.2.2.1 with
  | [] => (xAttr q.1).map fun x => (x, q.2.1, q.2.2.2)
  | _ => none
theorem xMeth_eq {e : Expr} {v : Expr} {n : Str} {p : Pos} {xs : List Expr} {q : Pos} (h : xMeth e = some ((v, n, p), xs, q)) : e = .Call (.Attribute v n p) xs [] q := by
  unfold xMeth at h
  obtain ⟨⟨f, ys, ks, q⟩, h1, h2⟩ := Option.bind_eq_some_iff.mp h
  cases ks with
  | nil =>
    obtain ⟨y, h3, h4⟩ := Option.map_eq_some_iff.mp h2
    cases h4
    have := xAttr_eq h3
    subst this
    exact xCall_eq h1
  | cons => cases h2

noncomputable def okX (e : Expr) : Bool := (view e).tag != 9 && (view e).tag != 14
theorem okX_cases {e : Expr} {P : Expr → Prop} (h : okX e = true) (h1 : ∀ k a p, P (.Constant k a p)) (h2 : ∀ x p, P (.Name x p)) (h3 : ∀ l o r p, P (.BinOp l o r p)) (h4 : ∀ o x p, P (.UnaryOp o x p)) (h5 : ∀ o xs p, P (.BoolOp o xs p))
    (h6 : ∀ l os rs p, P (.Compare l os rs p)) (h7 : ∀ f xs ks p, P (.Call f xs ks p)) (h8 : ∀ v n p, P (.Attribute v n p)) (h9 : ∀ v i p, P (.Subscript v i p)) (h10 : ∀ xs p, P (.List xs p)) (h11 : ∀ xs k p, P (.Tuple xs k p)) (h12 : ∀ ks vs p, P (.Dict ks vs p))
    (h13 : ∀ x gs sc p, P (.ListComp x gs sc p)) : P e := by
  cases e <;> first | exact h1 _ _ _ | exact h2 _ _ | exact h3 _ _ _ _ | exact h4 _ _ _ | exact h5 _ _ _ | exact h6 _ _ _ _ | exact h7 _ _ _ _ | exact h8 _ _ _ | exact h9 _ _ _ | exact h10 _ _ | exact h11 _ _ _ | exact h12 _ _ _ | exact h13 _ _ _ _ | cases h
theorem okX_star {e : Expr} (h : okX e = true) (rest : List Expr) (env : Env) : starEach (e :: rest) env = (false, eval e env) :: starEach rest env :=
  okX_cases (P := fun e => starEach (e :: rest) env = (false, eval e env) :: starEach rest env) h (fun _ _ _ => rfl) (fun _ _ => rfl) (fun _ _ _ _ => rfl) (fun _ _ _ => rfl) (fun _ _ _ => rfl) (fun _ _ _ _ => rfl) (fun _ _ _ _ => rfl) (fun _ _ _ => rfl) (fun _ _ _ => rfl) (fun _ _ => rfl) (fun _ _ _ => rfl) (fun _ _ _ => rfl) (fun _ _ _ _ => rfl)
theorem okX_marks {e : Expr} (h : okX e = true) (op : CmpOp) : behindInMarks op e = false :=
  okX_cases (P := fun e => behindInMarks op e = false) h (fun _ _ _ => rfl) (fun _ _ => rfl) (fun _ _ _ _ => rfl) (fun _ _ _ => rfl) (fun _ _ _ => rfl) (fun _ _ _ _ => rfl) (fun _ _ _ _ => rfl) (fun _ _ _ => rfl) (fun _ _ _ => rfl) (fun _ _ => rfl) (fun _ _ _ => rfl) (fun _ _ _ => rfl) (fun _ _ _ _ => rfl)
theorem okX_folded {e : Expr} (h : okX e = true) (env : Env) (x : Value) : foldedSetIterable e env x = pure x :=
  okX_cases (P := fun e => foldedSetIterable e env x = pure x) h (fun _ _ _ => rfl) (fun _ _ => rfl) (fun _ _ _ _ => rfl) (fun _ _ _ => rfl) (fun _ _ _ => rfl) (fun _ _ _ _ => rfl) (fun _ _ _ _ => rfl) (fun _ _ _ => rfl) (fun _ _ _ => rfl) (fun _ _ => rfl) (fun _ _ _ => rfl) (fun _ _ _ => rfl) (fun _ _ _ _ => rfl)
noncomputable def isComp (e : Expr) : Bool := (xLC e).isSome
theorem swaps_no {e : Expr} (h : isComp e = false) (h' : okX e = true) (t : Option Expr) (l : Nat) (env : Env) : swapsWith e t l env = pure false :=
  okX_cases (P := fun e => isComp e = false → swapsWith e t l env = pure false) h' (fun _ _ _ _ => rfl) (fun _ _ _ => rfl) (fun _ _ _ _ _ => rfl) (fun _ _ _ _ => rfl) (fun _ _ _ _ => rfl) (fun _ _ _ _ _ => rfl) (fun _ _ _ _ _ => rfl) (fun _ _ _ _ => rfl) (fun _ _ _ _ => rfl) (fun _ _ _ => rfl) (fun _ _ _ _ => rfl) (fun _ _ _ _ => rfl) (fun _ _ _ _ h => by cases h) h
noncomputable def notCall0 (e : Expr) : Bool := (view e).tag == 1 || (view e).tag == 8 || (view e).tag == 0
theorem notCall0_base {o : Expr} (h : notCall0 o = true) (name : Str) (env : Env) : attributeBase o name env (eval o env) = eval o env := by
  simp only [notCall0, Bool.or_eq_true, beq_iff_eq] at h
  rcases h with (h | h) | h
  · have e := view_at h rfl; rw [e]; rfl
  · have e := view_at h rfl; rw [e]; rfl
  · have e := view_at h rfl; rw [e]; rfl
end Mine
end
section
set_option autoImplicit false
set_option linter.unusedVariables false
set_option tactic.hygienic false
namespace Mine
open PySem PyProof.Rows

theorem sub_plain {slice : Expr} {o i : Value} (h : okX slice = true) : subscripted slice false o i = operate [o, i] (getItem o i) :=
  okX_cases (P := fun e => subscripted e false o i = operate [o, i] (getItem o i)) h (fun _ _ _ => rfl) (fun _ _ => rfl) (fun _ _ _ _ => rfl) (fun _ _ _ => rfl) (fun _ _ _ => rfl) (fun _ _ _ _ => rfl) (fun _ _ _ _ => rfl) (fun _ _ _ => rfl) (fun _ _ _ => rfl) (fun _ _ => rfl) (fun _ _ _ => rfl) (fun _ _ _ => rfl) (fun _ _ _ _ => rfl)
theorem sub_slice {l u : Option Expr} {p : Pos} {o i : Value} : subscripted (.Slice l u none p) false o i = operate [i, o] (getItem o i) := rfl

theorem pidx_seq {k : Int} {n j : Nat} (h : pidx k n = some j) : seqIndex? k n = some j ∧ -(n : Int) ≤ k ∧ k < n ∧ (0 ≤ k → j = k.toNat) ∧ (k < 0 → j = (k + n).toNat) := by
  unfold pidx at h
  by_cases h0 : 0 ≤ k
  · by_cases h1 : k < n
    · simp only [h0, h1, decide_true] at h
      cases h
      exact ⟨seqIndex_of h0 h1, by (first | lia | omega), h1, fun _ => rfl, fun q => by (first | lia | omega)⟩
    · simp [h0, h1] at h
  · by_cases h1 : -(n : Int) ≤ k
    · simp only [h0, h1, decide_true, decide_false] at h
      cases h
      exact ⟨seqIndex_neg (by (first | lia | omega)) h1, h1, by (first | lia | omega), fun q => absurd q h0, fun _ => rfl⟩
    · simp [h0, h1] at h

set_option tactic.hygienic true in
theorem pend_clip (k : Int) (n : Nat) : pend k n = clipAt n k := by
  unfold pend clipAt
  split
  · rename_i h; simp only [decide_eq_true_eq] at h; rw [if_neg (by (first | lia | omega))]; (first | lia | omega)
  · rename_i h; simp only [decide_eq_false_iff_not] at h; rw [if_pos (by (first | lia | omega))]; (first | lia | omega)
theorem clip_le (k : Int) (n : Nat) : clipAt n k ≤ n := by unfold clipAt; split <;> (first | lia | omega)

theorem pslice_eq {α : Type} (xs : List α) (lo hi : Option Int) : pslice xs lo hi = (xs.drop (lo.elim 0 (clipAt xs.length))).take (hi.elim xs.length (clipAt xs.length) - lo.elim 0 (clipAt xs.length)) := by
  unfold pslice
  simp only
  rw [List.drop_take]
  cases lo <;> cases hi <;> simp only [Option.elim, pend_clip]

section
variable {C : Glo} {F : Fm} {X : XM} {ρ : List Addr} {m : MS} {s : Shared} {Q : PQ} {E : Value → Shared → Prop} {A : Around} {h : Heap} {hp : List MO}

theorem RepL.slice {xs : List MV} {vs : List Value} (l : RepL C ρ h xs vs) (lo hi : Option Int) : RepL C ρ h (pslice xs lo hi) (pslice vs lo hi) := by
  unfold pslice
  have e := l.length
  cases lo <;> cases hi <;> simp only [e] <;> exact (l.take _).drop _
theorem pslice_len {α : Type} (xs : List α) (lo hi : Option Int) : (pslice xs lo hi).length ≤ xs.length := by
  rw [pslice_eq, List.length_take, List.length_drop]; (first | lia | omega)

theorem line_lt {n : Nat} (h : n ≤ line) : (n : Int) < 2 ^ 63 := by unfold line at h; (first | lia | omega)

set_option tactic.hygienic true in
theorem idx_ok (G : GOk C) (R : Rel C F ρ m s) (ok : FmOk F) {x y : MV} {v w : Value} (hx : Rep C ρ s.heap x v) (hy : Rep C ρ s.heap y w) {value slice : Expr} (hns : okX slice = true) (h : wpIdx x y Q m) :
    wpAny (mod C) A (subscriptTail value slice v w) (Out C F ρ s Q) E s := by
  unfold wpIdx at h
  split at h
  · rename_i xs k
    split at h
    · rename_i j hj
      split at h
      · rename_i z hz
        cases hx with | tup g l zl => cases hy with | int _ u =>
        obtain ⟨e1, e2, e3, _⟩ := pidx_seq hj
        obtain ⟨r, r1, r2⟩ := l.get hz
        have := line_lt zl
        refine tail_any ⟨_, g, rfl⟩ slot_tuple_getitem.lookup (PySem.P.getItem_tuple g (by (first | lia | omega)) (by (first | lia | omega)) ?_ (by simpa using r1) (outSame R r2 h)) (sub_plain hns)
        rw [List.size_toArray, l.length]; exact e1
      · exact h.elim
    · exact h.elim
  · rename_i xs k
    split at h
    · rename_i j hj
      split at h
      · rename_i z hz
        cases hx with | str _ t zl => cases hy with | int _ u =>
        obtain ⟨e1, e2, e3, _⟩ := pidx_seq hj
        have := line_lt zl
        refine tail_any (T := "str") (typeIs_str s (Mine.str xs) t) slot_str_getitem.lookup (PySem.P.getItem_str ?_ ?_ (outTok R ok (.str _ _ (by simp [line])) h)) (sub_plain hns)
        · simp only [Bool.or_eq_false_iff, decide_eq_false_iff_not]; (first | lia | omega)
        · rw [str_length, e1]; simpa using hz
      · exact h.elim
    · exact h.elim
  · rename_i i k
    split at h
    · rename_i xs hi
      split at h
      · rename_i j hj
        split at h
        · rename_i z hz
          cases hx with | ref g => cases hy with | int _ u =>
          obtain ⟨items, n, gi, l, zl⟩ := R.hp.objs _ _ _ hi g
          obtain ⟨e1, e2, e3, e4, e5⟩ := pidx_seq hj
          obtain ⟨r, r1, r2⟩ := l.get hz
          have := line_lt zl
          have hl : s.heap.IsList _ items.toArray := ⟨_, gi, rfl, _, rfl⟩
          refine tail_any hl.typeIs slot_list_getitem.lookup ?_ (sub_plain hns)
          by_cases h0 : 0 ≤ k
          · exact wpAny_getItem_list hl h0 (by (first | lia | omega)) (by rw [← e4 h0]; simpa using r1) (outSame R r2 h)
          · exact wpAny_getItem_list_neg hl (by (first | lia | omega)) (by rw [List.size_toArray, l.length]; exact e2) (by (first | lia | omega)) (by rw [List.size_toArray, l.length, ← e5 (by (first | lia | omega))]; simpa using r1) (outSame R r2 h)
        · exact h.elim
      · exact h.elim
    · exact h.elim
  · rename_i xs k
    split at h
    · rename_i j hj
      split at h
      · rename_i z hz
        cases hx with | @scr _ la items n g l zl => cases hy with | int _ u =>
        have gi := R.hp.base _ _ g
        have rl : RepL C ρ s.heap (xs.map .int) items := ints_rep l
        have hlen : items.length = xs.length := by rw [rl.length]; simp
        obtain ⟨e1, e2, e3, e4, e5⟩ := pidx_seq hj
        obtain ⟨r, r1, r2⟩ := rl.get (i := j) (x := .int z) (by simp [hz])
        have := line_lt zl
        have hl : s.heap.IsList la items.toArray := ⟨_, gi, rfl, _, rfl⟩
        refine tail_any hl.typeIs slot_list_getitem.lookup ?_ (sub_plain hns)
        by_cases h0 : 0 ≤ k
        · exact wpAny_getItem_list hl h0 (by (first | lia | omega)) (by rw [← e4 h0]; simpa using r1) (outSame R r2 h)
        · exact wpAny_getItem_list_neg hl (by (first | lia | omega)) (by rw [List.size_toArray, hlen]; exact e2) (by (first | lia | omega)) (by rw [List.size_toArray, hlen, ← e5 (by (first | lia | omega))]; simpa using r1) (outSame R r2 h)
      · exact h.elim
    · exact h.elim
  · rename_i i k
    split at h
    · rename_i es hi
      split at h
      · rename_i z hz
        cases hx with | ref g => cases hy with | str _ t _ =>
        obtain ⟨kvs, dk, rk, zk⟩ := R.hp.objs _ _ _ hi g
        have := rk.get k
        rw [hz] at this
        obtain ⟨v, e, r⟩ := this
        exact tail_any dk.typeIs slot_dict_getitem.lookup (wpAny_getItem_of (in_ok.strKind_is' C.prog C.w (Mine.str k) t) dk.mapOf e (outTok R ok r h)) (sub_plain hns)
      · exact h.elim
    · exact h.elim
  · exact h.elim
end
end Mine
end
section
set_option autoImplicit false
set_option linter.unusedVariables false
set_option tactic.hygienic false
namespace Mine
open PySem PyProof.Rows

section
variable {C : Glo} {F : Fm} {X : XM} {ρ : List Addr} {m : MS} {s : Shared} {Q : PQ} {E : Value → Shared → Prop} {A : Around} {h : Heap} {hp : List MO}

noncomputable def PartRep (C : Glo) (ρ : List Addr) (h : Heap) : Option MV → Value → Prop
  | none, v => v = .none
  | some x, v => Rep C ρ h x v

theorem part_of {lo : Option MV} {v : Value} (h : PartRep C ρ s.heap lo v) {k : Option Int} (e : optInt lo = some k) : IsPart v k ∧ ∃ l : Option (Int × Tok), v = partValue l ∧ l.map (·.1) = k := by
  cases lo with
  | none =>
    simp only [optInt] at e; cases e
    simp only [PartRep] at h; subst h
    exact ⟨.none, none, rfl, rfl⟩
  | some x =>
    simp only [PartRep] at h
    cases h with
    | int i t => simp only [optInt] at e; cases e; exact ⟨.int i t, some (i, t), rfl, rfl⟩
    | _ => simp [optInt] at e

theorem strSlice_eq (x : List Nat) (lo hi : Option Int) : ((Builtin.Str.strSliceIndices lo hi 1 x.length).filterMap (x.toArray[·]?)) = pslice x lo hi ∧ (Builtin.Str.strSliceIndices lo hi 1 x.length).length = (pslice x lo hi).length := by
  have e : Builtin.Str.strSliceIndices lo hi 1 x.length = (List.range (hi.elim x.length (clipAt x.length) - lo.elim 0 (clipAt x.length))).map (lo.elim 0 (clipAt x.length) + ·) := by
    have h1 : Builtin.Str.strSliceIndices lo hi 1 x.length = sliceRange (sliceBounds lo hi none x.length).1 (sliceBounds lo hi none x.length).2.1 (sliceBounds lo hi none x.length).2.2 := rfl
    rw [h1, sliceBounds_plain, sliceRange_one]
  rw [e]
  constructor
  · rw [pick_run, pslice_eq]
  · rw [pslice_eq, List.length_map, List.length_range, List.length_take, List.length_drop]
    have : hi.elim x.length (clipAt x.length) ≤ x.length := by cases hi <;> simp [clip_le]
    (first | lia | omega)

set_option tactic.hygienic true in
theorem sl_ok (R : Rel C F ρ m s) (ok : FmOk F) {x : MV} {v : Value} (hx : Rep C ρ s.heap x v) {lo hi : Option MV} {vl vu : Value} (hl : PartRep C ρ s.heap lo vl) (hu : PartRep C ρ s.heap hi vu) {value : Expr} {l u : Option Expr} {p : Pos}
    (hq : wpSl x lo hi Q m) : wpAny (mod C) A (subscriptTail value (.Slice l u none p) v (.ref s.heap.objs.size)) (Out C F ρ s Q) E { s with heap := s.heap.push { cls := .type "slice", data := .fields #[vl, vu, .none] } } := by
  obtain ⟨R', st⟩ := R.grow (s' := { s with heap := s.heap.push { cls := .type "slice", data := .fields #[vl, vu, .none] } }) ok (fun a o e => Heap.get?_push_of_some _ e) rfl rfl
  unfold wpSl at hq
  split at hq
  · rename_i lo' hi' e1 e2
    obtain ⟨p1, l1, el1, ml1⟩ := part_of hl e1
    obtain ⟨p2, l2, el2, ml2⟩ := part_of hu e2
    have hs : (s.heap.push { cls := .type "slice", data := .fields #[vl, vu, .none] }).IsSliceOf s.heap.objs.size vl vu .none := Heap.IsSliceOf.new _ _ _ _
    have hx' := hx.step st
    refine wpAny_mono (Q := Out C F ρ { s with heap := s.heap.push { cls := .type "slice", data := .fields #[vl, vu, .none] } } Q) ?_ (Out.back st) fun _ _ e => e
    split at hq
    · rename_i y
      cases hx' with | str _ t z =>
      have hsl : (s.heap.push { cls := .type "slice", data := .fields #[vl, vu, .none] }).IsSlice s.heap.objs.size l1 l2 none := by subst el1; subst el2; exact ⟨_, Heap.get?_push_size _ rfl, rfl, rfl⟩
      refine tail_any (T := "str") (typeIs_str _ (Mine.str y) t) slot_str_getitem.lookup (wpAny_getItem_str_slice (s := { s with heap := s.heap.push { cls := .type "slice", data := .fields #[vl, vu, .none] } }) hsl rfl ?_) sub_slice
      unfold sliceMade slicePicked
      rw [ml1, ml2, str_length]
      obtain ⟨f1, f2⟩ := strSlice_eq y lo' hi'
      have hz := pslice_len y lo' hi'
      split
      · rename_i hc
        simp only [Option.map_none, Option.getD_none, Bool.and_eq_true, beq_iff_eq] at hc
        have e : pslice y lo' hi' = y := by
          have h2 := f2.symm.trans hc.2
          rw [pslice_eq] at h2 ⊢
          rw [List.length_take, List.length_drop] at h2
          cases y with
          | nil => simp
          | cons a b =>
            have h3 : lo'.elim 0 (clipAt (a :: b).length) = 0 := by simp only [List.length_cons] at h2 ⊢; (first | lia | omega)
            rw [h3] at h2 ⊢
            rw [List.drop_zero, Nat.sub_zero]
            exact List.take_of_length_le (by simp only [List.length_cons, Nat.sub_zero] at h2 ⊢; (first | lia | omega))
        rw [e] at hq
        exact outSame R' (.str y t z) hq
      · refine ⟨?_, ?_⟩
        · show ((Builtin.Str.strSliceIndices lo' hi' 1 y.length).filterMap (y.toArray[·]?)).toArray.size ≤ sizeLine
          rw [f1, List.size_toArray]; exact Nat.le_trans hz z
        · show Out C F ρ _ Q (.str ⟨((Builtin.Str.strSliceIndices lo' hi' 1 y.length).filterMap (y.toArray[·]?)).toArray⟩ _) _
          rw [f1]
          exact outTok R' ok (.str _ _ (Nat.le_trans hz z)) hq
    · exact hq.elim
    · rename_i xs
      cases hx' with | @scr _ la items n g l zl =>
      have gi := R'.hp.base _ _ g
      have rl : RepL C ρ _ (xs.map .int) items := ints_rep (h := s.heap.push { cls := .type "slice", data := .fields #[vl, vu, .none] }) l
      have hlen : items.length = xs.length := by rw [rl.length]; simp
      have hl' : (s.heap.push { cls := .type "slice", data := .fields #[vl, vu, .none] }).IsList la items.toArray := ⟨_, gi, rfl, _, rfl⟩
      refine tail_any (T := "list") ⟨_, gi, rfl⟩ slot_list_getitem.lookup (wpAny_getItem_list_slice (s := { s with heap := s.heap.push { cls := .type "slice", data := .fields #[vl, vu, .none] } }) hl' hs p1 p2 .none (by simp) ?_ (by rw [List.size_toArray, hlen]; exact zl)) sub_slice
      have e : slicePick items.toArray lo' hi' none = (pslice items lo' hi').toArray := by
        rw [slicePick_plain, pslice_eq]; simp
      rw [e]
      exact outList R' ok (rl.slice _ _) (Nat.le_trans (pslice_len _ _ _) (by simpa using zl)) hq
    · split at hq
      · rename_i xs hi
        cases hx' with | ref g =>
        obtain ⟨items, n, gi, l, zl⟩ := R'.hp.objs _ _ _ hi g
        have hl' : (s.heap.push { cls := .type "slice", data := .fields #[vl, vu, .none] }).IsList _ items.toArray := ⟨_, gi, rfl, _, rfl⟩
        refine tail_any (T := "list") ⟨_, gi, rfl⟩ slot_list_getitem.lookup (wpAny_getItem_list_slice (s := { s with heap := s.heap.push { cls := .type "slice", data := .fields #[vl, vu, .none] } }) hl' hs p1 p2 .none (by simp) ?_ (by rw [List.size_toArray, l.length]; exact zl)) sub_slice
        have e : slicePick items.toArray lo' hi' none = (pslice items lo' hi').toArray := by
          rw [slicePick_plain, pslice_eq]; simp
        rw [e]
        exact outList R' ok (l.slice _ _) (Nat.le_trans (pslice_len _ _ _) zl) hq
      · exact hq.elim
    · exact hq.elim
  · exact hq.elim
end
end Mine
end
section
set_option autoImplicit false
set_option linter.unusedVariables false
set_option tactic.hygienic false
namespace Mine
open PySem PyProof.Rows

section
variable {C : Glo} {F : Fm} {X : XM} {ρ : List Addr} {m : MS} {s : Shared} {Q : PQ} {E : Value → Shared → Prop} {A : Around} {h : Heap} {hp : List MO}

noncomputable def tsIs : TS → Option String
  | .int => some "int" | .bool => some "bool" | .str => some "str" | .list => some "list" | .tuple => some "tuple" | .dict => some "dict" | .cls _ => none

noncomputable def tsNm : TS → String
  | .int => "int" | .bool => "bool" | .str => "str" | .list => "list" | .tuple => "tuple" | .dict => "dict" | .cls _ => ""
theorem tsNm_is {t : TS} {T : String} (e : tsIs t = some T) : T = tsNm t := by
  cases t <;> first | exact (Option.some.inj e).symm | cases e
theorem isi_ok (H : Hp C ρ hp s.heap) {x : MV} {v : Value} (hx : Rep C ρ s.heap x v) {t : TS} {b : Bool} (h : tyOf hp x t = some b) {P : Bool → Prop} (hq : P b) :
    ∀ T, tsIs t = some T → wpAny (mod C) A (call (.builtin "isinstance") [v, .type T]) (OutB s P) E s := by
  intro T eT
  obtain rfl := tsNm_is eT
  have hF : some false = some b → OutB s P (.bool false) { s with toks := s.toks + 1 } := fun e => by cases e; exact ⟨_, s.toks + 1, rfl, rfl, hq⟩
  have hT : some true = some b → OutB s P (.bool true) s := fun e => by cases e; exact ⟨_, s.toks, rfl, rfl, hq⟩
  clear hq
  cases hx with
  | none =>
    cases t with
    | int => exact IsiPair.NoneType_int (hF h)
    | bool => exact IsiPair.NoneType_bool (hF h)
    | str => exact IsiPair.NoneType_str (hF h)
    | list => exact IsiPair.NoneType_list (hF h)
    | tuple => exact IsiPair.NoneType_tuple (hF h)
    | dict => exact IsiPair.NoneType_dict (hF h)
    | cls => cases eT
  | bool _ =>
    cases t with
    | int => exact IsiPair.bool_int (hT h)
    | bool => exact IsiPair.bool_bool (hT h)
    | str => exact IsiPair.bool_str (hF h)
    | list => exact IsiPair.bool_list (hF h)
    | tuple => exact IsiPair.bool_tuple (hF h)
    | dict => exact IsiPair.bool_dict (hF h)
    | cls => cases eT
  | int _ _ =>
    cases t with
    | int => exact IsiPair.int_int (hT h)
    | bool => exact IsiPair.int_bool (hF h)
    | str => exact IsiPair.int_str (hF h)
    | list => exact IsiPair.int_list (hF h)
    | tuple => exact IsiPair.int_tuple (hF h)
    | dict => exact IsiPair.int_dict (hF h)
    | cls => cases eT
  | str _ _ _ =>
    cases t with
    | int => exact IsiPair.str_int (hF h)
    | bool => exact IsiPair.str_bool (hF h)
    | str => exact IsiPair.str_str (hT h)
    | list => exact IsiPair.str_list (hF h)
    | tuple => exact IsiPair.str_tuple (hF h)
    | dict => exact IsiPair.str_dict (hF h)
    | cls => cases eT
  | tup g l z =>
    cases t with
    | int => exact IsiPair.tuple_int g rfl (hF h)
    | bool => exact IsiPair.tuple_bool g rfl (hF h)
    | str => exact IsiPair.tuple_str g rfl (hF h)
    | list => exact IsiPair.tuple_list g rfl (hF h)
    | tuple => exact IsiPair.tuple_tuple g rfl (hT h)
    | dict => exact IsiPair.tuple_dict g rfl (hF h)
    | cls => cases eT
  | @ref i a g =>
    cases hi : hp[i]? with
    | none =>
      have h : tyO hp[i]? t = some b := h
      rw [hi] at h; cases h
    | some o =>
      have h : tyO hp[i]? t = some b := h
      rw [hi] at h
      cases o with
      | list xs =>
        obtain ⟨items, n, gi, l, zl⟩ := H.objs _ _ _ hi g
        cases t with
        | int => exact IsiPair.list_int gi rfl (hF h)
        | bool => exact IsiPair.list_bool gi rfl (hF h)
        | str => exact IsiPair.list_str gi rfl (hF h)
        | list => exact IsiPair.list_list gi rfl (hT h)
        | tuple => exact IsiPair.list_tuple gi rfl (hF h)
        | dict => exact IsiPair.list_dict gi rfl (hF h)
        | cls => cases eT
      | dict es =>
        obtain ⟨kvs, ⟨od, _, _, gd, ⟨hc, _⟩, _⟩, _⟩ := H.objs _ _ _ hi g
        cases t with
        | int => exact IsiPair.dict_int gd hc (hF h)
        | bool => exact IsiPair.dict_bool gd hc (hF h)
        | str => exact IsiPair.dict_str gd hc (hF h)
        | list => exact IsiPair.dict_list gd hc (hF h)
        | tuple => exact IsiPair.dict_tuple gd hc (hF h)
        | dict => exact IsiPair.dict_dict gd hc (hT h)
        | cls => cases eT
  | _ => cases h

noncomputable def biIs : Bi → Option (Str × Value)
  | .len => some ("len", .builtin "len")
  | .int => some ("int", .type "int")
  | .str => some ("str", .type "str")
  | .list => some ("list", .type "list")
  | .tuple => some ("tuple", .type "tuple")
  | .dict => some ("dict", .type "dict")
  | _ => none

theorem outKeep (R : Rel C F ρ m s) (ok : FmOk F) {h' : Heap} {t : Nat} (hk : ∀ b o, s.heap.get? b = some o → h'.get? b = some o) {x : MV} {v : Value} (hr : Rep C ρ h' x v) (h : Q x m) : Out C F ρ s Q v { s with heap := h', toks := t } := by
  obtain ⟨R', st⟩ := R.grow (s' := { s with heap := h', toks := t }) ok hk rfl rfl
  exact ⟨ρ, m, x, st, R', hr, h⟩

theorem len_ok (G : GOk C) (R : Rel C F ρ m s) (ok : FmOk F) {x : MV} {v : Value} (hx : Rep C ρ s.heap x v) (h : wpLen x Q m) : wpAny (mod C) A (call (.builtin "len") [v]) (Out C F ρ s Q) E s := by
  cases hx with
  | tup g l z =>
    refine PySem.P.len_tuple g ?_ ?_
    · rw [List.size_toArray, l.length]; have := line_lt z; (first | lia | omega)
    · rw [List.size_toArray, l.length]; exact outTok R ok (.int _ _) h
  | str _ t z =>
    refine PySem.P.len_str ?_ ?_
    · rw [str_length]; have := line_lt z; (first | lia | omega)
    · rw [str_length]; exact outTok R ok (.int _ _) h
  | scr g l z =>
    have hlen := (ints_rep (C := C) (ρ := ρ) (h := s.heap) l).length
    rw [List.length_map] at hlen
    refine PySem.Calls.call_len_list ⟨_, R.hp.base _ _ g, rfl, _, rfl⟩ ?_ ?_
    · rw [List.size_toArray, hlen]; exact line_lt z
    · rw [List.size_toArray, hlen]; exact outTok R ok (.int _ _) h
  | @ref i _ g =>
    cases hi : m.heap[i]? with
    | none => simp only [wpLen, hi] at h
    | some o =>
      cases o with
      | list ys =>
        simp only [wpLen, hi] at h
        obtain ⟨items, n, gi, l, z⟩ := R.hp.objs _ _ _ hi g
        refine PySem.Calls.call_len_list ⟨_, gi, rfl, _, rfl⟩ ?_ ?_
        · rw [List.size_toArray, l.length]; exact line_lt z
        · rw [List.size_toArray, l.length]; exact outTok R ok (.int _ _) h
      | dict ys =>
        simp only [wpLen, hi] at h
        obtain ⟨kvs, dk, rk, z⟩ := R.hp.objs _ _ _ hi g
        refine call_len_dict (not_sys G R.hp (List.mem_of_getElem? g)) dk ?_ ?_
        · rw [rk.length]; exact line_lt z
        · rw [rk.length]; exact outTok R ok (.int _ _) h
  | _ => exact h.elim
theorem at_end (R : Rel C F ρ m s) {a : Addr} : (ρ ++ [a])[m.heap.length]? = some a := by rw [← R.hp.len, List.getElem?_append_right (Nat.le_refl _)]; simp
theorem listOf_ok (R : Rel C F ρ m s) (ok : FmOk F) {x : MV} {v : Value} (hx : Rep C ρ s.heap x v) (h : wpListOf x Q m) : wpAny (mod C) A (call (.type "list") [v]) (Out C F ρ s Q) E s := by
  cases hx with
  | @ref i _ g =>
    cases hi : m.heap[i]? with
    | none => simp only [wpListOf, hi] at h
    | some o =>
      cases o with
      | list ys =>
        simp only [wpListOf, hi] at h
        obtain ⟨items, n, gi, l, z⟩ := R.hp.objs _ _ _ hi g
        refine call_list_seq _ (.inl rfl) gi rfl rfl (fun h' c' hk hn => ?_) (by rw [List.size_toArray, l.length]; exact z)
        obtain ⟨R', st⟩ := R.alloc (s' := { s with heap := h' }) ok hk rfl rfl (o := .list ys) (a := s.heap.objs.size) (fresh_at (Nat.le_refl _))
          ⟨items, c', hn, l.up (fun a o e _ => hk a o e) (List.prefix_append _ _), z⟩
        exact ⟨_, _, _, st, R', .ref (at_end R), h⟩
      | dict ys => simp only [wpListOf, hi] at h
  | @tup _ _ ys _ gi l z =>
    refine call_list_seq _ (.inr rfl) gi rfl rfl (fun h' c' hk hn => ?_) (by rw [List.size_toArray, l.length]; exact z)
    obtain ⟨R', st⟩ := R.alloc (s' := { s with heap := h' }) ok hk rfl rfl (o := .list ys) (a := s.heap.objs.size) (fresh_at (Nat.le_refl _))
      ⟨_, c', hn, l.up (fun a o e _ => hk a o e) (List.prefix_append _ _), z⟩
    exact ⟨_, _, _, st, R', .ref (at_end R), h⟩
  | _ => exact h.elim
theorem tupleOf_ok (R : Rel C F ρ m s) (ok : FmOk F) {i : Nat} {ys : List MV} {v : Value} (hx : Rep C ρ s.heap (.ref i) v) (hi : m.heap[i]? = some (.list ys)) (h : Q (.tup ys) m) : wpAny (mod C) A (call (.type "tuple") [v]) (Out C F ρ s Q) E s := by
  cases hx with | ref g =>
  obtain ⟨items, n, gi, l, z⟩ := R.hp.objs _ _ _ hi g
  refine call_tuple_list ⟨_, gi, rfl, _, rfl⟩ (fun h' hk => ?_) (by rw [List.size_toArray, l.length]; exact z)
  have hk' : ∀ b o, s.heap.get? b = some o → (h'.push (tupO items 0)).get? b = some o := fun b o e => Heap.get?_push_of_some _ (hk b o e)
  exact outKeep R ok hk' (.tup (Heap.get?_push_size _ rfl) (l.up (fun a o e _ => hk' a o e) (List.prefix_refl _)) z) h
theorem dictOf_ok (G : GOk C) (R : Rel C F ρ m s) (ok : FmOk F) {i : Nat} {ys : List (List Nat × MV)} {v : Value} (hx : Rep C ρ s.heap (.ref i) v) (hi : m.heap[i]? = some (.dict ys)) (h : Q (.ref m.heap.length) (m.push (.dict ys))) : wpAny (mod C) A (call (.type "dict") [v]) (Out C F ρ s Q) E s := by
  cases hx with | ref g =>
  obtain ⟨kvs, dk, rk, z⟩ := R.hp.objs _ _ _ hi g
  refine kt_call_dict (not_sys G R.hp (List.mem_of_getElem? g)) dk (by rw [rk.length]; exact z) fun h' hd hs => ?_
  have hk : ∀ a o, s.heap.get? a = some o → h'.get? a = some o := fun a o e => (hs.2 a (Nat.ne_of_lt (Heap.lt_size e))).trans (Heap.get?_push_of_some _ e)
  obtain ⟨R', st⟩ := R.alloc (s' := { s with heap := h' }) ok hk rfl rfl (o := .dict ys) (a := s.heap.objs.size) (fresh_at (Nat.le_refl _))
    ⟨kvs, hd, rk.up (fun a o e _ => hk a o e) (List.prefix_append _ _), z⟩
  exact ⟨_, _, _, st, R', .ref (at_end R), h⟩

theorem dec_log {i : Int} (h : 0 ≤ i ∧ i < 1000000) : i.natAbs.log2 < 1920 := by
  have : i.natAbs < 1000000 := by (first | lia | omega)
  rcases Nat.eq_zero_or_pos i.natAbs with q | q
  · rw [q]; decide
  · have := (Nat.log2_lt (n := i.natAbs) (k := 20) (by (first | lia | omega))).mpr (by (first | lia | omega))
    (first | lia | omega)
theorem blt_ok (G : GOk C) (R : Rel C F ρ m s) (ok : FmOk F) {b : Bi} {xs : List MV} {vs : List Value} (hx : RepL C ρ s.heap xs vs) {n : Str} {f : Value} (hb : biIs b = some (n, f)) (h : wpBlt b xs Q m) :
    wpAny (mod C) A (call f vs) (Out C F ρ s Q) E s := by
  cases hx with
  | nil => exact h.elim
  | @cons x v _ _ hx hn =>
    cases hn with
    | cons => exact h.elim
    | nil =>
      cases b with
      | len => cases hb; exact len_ok G R ok hx h
      | list => cases hb; exact listOf_ok R ok hx h
      | int =>
        cases hb
        cases hx with
        | bool c => exact call_int_bool (outTok R ok (.int _ _) (by cases c <;> exact h))
        | str z t =>
          obtain ⟨k, rfl, hk, hq⟩ : ∃ k : Int, z = dec k ∧ (0 ≤ k ∧ k < 1000000) ∧ Q (.int k) m := h
          exact int_text hk (outTok R ok (.int _ _) hq)
        | _ => exact h.elim
      | str =>
        cases hb
        cases hx with
        | str _ t z => exact PySem.P.str_of_str (outSame R (.str _ t z) h)
        | int i t =>
          have h : (0 ≤ i ∧ i < 1000000) ∧ Q (.str (dec i)) m := h
          refine PySem.P.str_of_int (dec_log h.1) ?_
          have e : (Str.ofString (toString i) : Str) = str (dec i) := by rw [Str.ofString_eq_toList]; rfl
          rw [e]
          exact outTok R ok (.str _ _ (Nat.le_trans (dec_len h.1).2 (by decide))) h.2
        | _ => exact h.elim
      | tuple =>
        cases hb
        cases x with
        | ref i =>
          cases hi : m.heap[i]? with
          | none => simp only [wpBlt, wpBlt1, hi] at h
          | some o => cases o with
            | list ys => simp only [wpBlt, wpBlt1, hi] at h; exact tupleOf_ok R ok hx hi h
            | dict ys => simp only [wpBlt, wpBlt1, hi] at h
        | _ => exact h.elim
      | dict =>
        cases hb
        cases x with
        | ref i =>
          cases hi : m.heap[i]? with
          | none => simp only [wpBlt, wpBlt1, hi] at h
          | some o => cases o with
            | list ys => simp only [wpBlt, wpBlt1, hi] at h
            | dict ys => simp only [wpBlt, wpBlt1, hi] at h; exact dictOf_ok G R ok hx hi h
        | _ => exact h.elim
      | _ => cases hb
end
end Mine
end
section
set_option autoImplicit false
set_option linter.unusedVariables false
set_option tactic.hygienic false
namespace Mine
open PySem PyProof.Rows

structure Cx where
  kind : Str → Option NameKind
  nm : Nat → Option Str
  fn : Nat → Option Str
  gl : Nat → Option (Str × MV)
  wr : Bool
  fr : Nat → Bool

noncomputable def dbg (x : Str) : Bool := x == ("__debug__" : Str)
noncomputable def cdc (x : Str) : Bool := x == ("__classdict__" : Str)

noncomputable def bltNames : List (Str × Value) := [("len", .builtin "len"), ("int", .type "int"), ("str", .type "str"), ("list", .type "list"), ("tuple", .type "tuple"), ("dict", .type "dict"),
  ("bool", .type "bool"), ("isinstance", .builtin "isinstance"), ("range", .type "range"), ("enumerate", .type "enumerate"), ("sorted", .builtin "sorted"), ("set", .type "set")]

structure CxOk (C : Glo) (c : Cx) (F : Fm) (n : Nat) : Prop where
  fm : FmOk F
  kind : ∀ x, F.env.kindOf x = c.kind x
  nm : ∀ i x, c.nm i = some x → (F.env.kindOf x = some .local ∧ F.lay i = some (.nm F.env.locals x)) ∨
    (∃ a, (F.env.kindOf x = some .cell ∨ (F.env.kindOf x = some .free ∧ cdc x = false)) ∧ F.env.cells.lookup x = some a ∧ F.lay i = some (.cl a))
  glob : ∃ mg mb, C.base.Ns F.env.globals mg ∧ C.base.Ns F.env.builtins mb ∧ (∀ f x, c.fn f = some x → ∃ a, C.fa f = some a ∧ mg x = some (.ref a)) ∧
    (∀ g x v, c.gl g = some (x, v) → ∃ w, mg x = some w ∧ ∀ ρ h, C.base.StaysIn h → Rep C ρ h v w) ∧ (∀ x v, (x, v) ∈ bltNames → mg x = none ∧ mb x = some v)
  units : F.A.units ≤ 3 * F.A.depth + 4
  room : F.A.depth + n ≤ 999
  inter : interactive F.env = false
  wr : ∀ i a, F.lay i = some (.cl a) → c.wr = true → a ∈ F.W
  fr : ∀ i, c.fr i = true → F.lay i = none

theorem CxOk.u {C : Glo} {c : Cx} {F : Fm} {n : Nat} (x : CxOk C c F n) : F.A.units + 1001 < cLine := by
  have := x.units; have := x.room; show _ < 9900; (first | lia | omega)

section
variable {C : Glo} {F : Fm} {X : XM} {ρ : List Addr} {m : MS} {s : Shared} {Q : PQ} {E : Value → Shared → Prop} {A : Around} {c : Cx} {n : Nat}

theorem ns_base (H : Hp C ρ m.heap s.heap) {a : Addr} {f : Str → Option Value} (h : C.base.Ns a f) : s.heap.Ns a f := ns_data h fun o e => ⟨o, H.base a o e, rfl⟩

theorem load_var (cx : CxOk C c F n) (R : Rel C F ρ m s) {i : Nat} {x : Str} (hx : c.nm i = some x) {v : MV} (hv : m.get i = some v) {p : Pos} (hd : dbg x = false) (hq : Q v m) :
    wpAny (mod C) A (eval (.Name x p) F.env) (Out C F ρ s Q) E s := by
  obtain ⟨l, h1, h2⟩ := R.vars i v hv
  refine wpAny_Name ?_ hd
  rcases cx.nm i x hx with ⟨k, e⟩ | ⟨a, k, e1, e⟩
  · rw [e] at h1; cases h1
    obtain ⟨f, w, hn, hw, r⟩ := h2
    exact wpAny_loadName_local cx.fm.kind k hn hw (outSame R r hq)
  · rw [e] at h1; cases h1
    obtain ⟨w, hc, r⟩ := h2
    rcases k with k | ⟨k, kd⟩
    · exact wpAny_loadName_cell cx.fm.kind k e1 hc (outSame R r hq)
    · exact wpAny_loadName_free cx.fm.kind k e1 hc (outSame R r hq) kd

theorem load_blt (cx : CxOk C c F n) (R : Rel C F ρ m s) {x : Str} {v : Value} (hm : (x, v) ∈ bltNames) (hk : c.kind x = some .globalImplicit) {p : Pos} (hd : dbg x = false) {P : Value → Shared → Prop} (h : P v s) :
    wpAny (mod C) A (eval (.Name x p) F.env) P E s := by
  obtain ⟨mg, mb, h1, h2, _, _, h3⟩ := cx.glob
  exact Calls.Name_function_global cx.fm.kind ((cx.kind x).trans hk) (Calls.loadGlobal_builtin (ns_base R.hp h1) (h3 x v hm).1 (ns_base R.hp h2) (h3 x v hm).2 h) hd
theorem load_fn (cx : CxOk C c F n) (R : Rel C F ρ m s) {x : Str} {f : Nat} (hm : c.fn f = some x) (hk : c.kind x = some .globalImplicit) {p : Pos} (hd : dbg x = false) {P : Value → Shared → Prop} (h : ∀ a, C.fa f = some a → P (.ref a) s) :
    wpAny (mod C) A (eval (.Name x p) F.env) P E s := by
  obtain ⟨mg, mb, h1, h2, h3, _, _⟩ := cx.glob
  obtain ⟨a, e1, e2⟩ := h3 f x hm
  exact Calls.Name_function_global cx.fm.kind ((cx.kind x).trans hk) (Calls.loadGlobal_global (ns_base R.hp h1) e2 (h a e1)) hd
theorem load_gl (cx : CxOk C c F n) (R : Rel C F ρ m s) {x : Str} {g : Nat} {v : MV} (hm : c.gl g = some (x, v)) (hk : c.kind x = some .globalImplicit) {p : Pos} (hd : dbg x = false) (hq : Q v m) :
    wpAny (mod C) A (eval (.Name x p) F.env) (Out C F ρ s Q) E s := by
  obtain ⟨mg, mb, h1, h2, _, h3, _⟩ := cx.glob
  obtain ⟨w, e1, e2⟩ := h3 g x v hm
  exact Calls.Name_function_global cx.fm.kind ((cx.kind x).trans hk) (Calls.loadGlobal_global (ns_base R.hp h1) e1 (outSame R (e2 ρ s.heap R.hp.base) hq)) hd

theorem store_var (cx : CxOk C c F n) (R : Rel C F ρ m s) {i : Nat} {x : Str} (hx : c.nm i = some x) (hk : c.kind x = some .local ∨ (c.wr = true ∧ c.kind x ≠ some .free)) {v : MV} {w : Value} (hr : Rep C ρ s.heap v w) {P : Unit → Shared → Prop}
    (h : ∀ s', Step F.W ρ s ρ s' → Rel C F ρ (m.set i v) s' → P () s') : wpAny (mod C) A (storeName F.env x w) P E s := by
  rcases cx.nm i x hx with ⟨k, e⟩ | ⟨a, k, e1, e⟩
  · obtain ⟨f, hf⟩ := R.ns
    refine wpAny_storeName_local k hf (fun h' hn hs => ?_) (by rw [cx.fm.kind]; rfl)
    obtain ⟨R', st⟩ := R.setName (s' := { s with heap := h', toks := s.toks + 1 }) cx.fm e hf hn hs rfl rfl hr
    exact h _ st R'
  · rcases k with k | ⟨k, _⟩
    · obtain ⟨v₀, hc⟩ := R.cells i a e
      refine wpAny_storeName_cell cx.fm.kind k e1 hc fun h' hn hs => ?_
      have hwr : c.wr = true := hk.elim (fun q => by rw [cx.kind x, q] at k; cases k) (·.1)
      obtain ⟨R', st⟩ := R.setCell (s' := { s with heap := h' }) cx.fm e (cx.wr i a e hwr) hc hn hs rfl rfl hr
      exact h _ st R'
    · rw [cx.kind x] at k; exact hk.elim (fun q => by rw [q] at k; cases k) fun q => absurd k q.2

noncomputable def meIs : Me → Option Str
  | .append => some "append"
  | .find => some "find"
  | .extend => some "extend"
  | .pop => some "pop"
  | .split => some "split"
  | _ => none

set_option tactic.hygienic true in
theorem lst_rep (H : Hp C ρ m.heap s.heap) {x : MV} {v : Value} (hx : Rep C ρ s.heap x v) {r : Nat} {xs : List MV} (h : lst x m.heap = some (r, xs)) : ∃ a items k, v = .ref a ∧ x = .ref r ∧ ρ[r]? = some a ∧ m.heap[r]? = some (.list xs) ∧ s.heap.get? a = some (listO items k) ∧ RepL C ρ s.heap xs items ∧ xs.length ≤ line := by
  cases hx with
  | @ref i a g =>
    simp only [lst] at h
    split at h
    · rename_i ys hi
      cases h
      obtain ⟨items, k, gi, rl, z⟩ := H.objs _ _ _ hi g
      exact ⟨a, items, k, rfl, rfl, g, hi, gi, rl, z⟩
    · cases h
  | _ => cases h
theorem lst_some {x : MV} {hp : List MO} (h : (lst x hp).isSome = true) : ∃ r xs, lst x hp = some (r, xs) := by
  obtain ⟨⟨r, xs⟩, h⟩ := Option.isSome_iff_exists.mp h
  exact ⟨r, xs, h⟩
theorem put_list (ok : FmOk F) {ρ₀ : List Addr} {s₀ : Shared} (st₀ : Step F.W ρ₀ s₀ ρ s) (R : Rel C F ρ m s) {r : Nat} {a : Addr} {xs ys : List MV} {items : List Value} {k : Nat} (g : ρ[r]? = some a) (hi : m.heap[r]? = some (.list xs)) {h' : Heap} {t : Nat}
    (hk : ∀ b ob, b ≠ a → s.heap.get? b = some ob → h'.get? b = some ob) (e : h'.get? a = some (listO items k)) (hr : RepL C ρ s.heap ys items) (hz : ys.length ≤ line) {z : MV} {w : Value} (hw : Rep C ρ s.heap z w) (hq : Q z (m.put r (.list ys))) :
    Out C F ρ₀ s₀ Q w { s with heap := h', toks := t } := by
  have hsol : Solids s.heap h' := solids_but hk (repO_not_solid (R.hp.objs _ _ _ hi g))
  obtain ⟨R₂, st₂⟩ := R.put (s' := { s with heap := h', toks := t }) ok g hi (o := .list ys) hk rfl rfl ⟨items, k, e, hr.up hsol (List.prefix_refl _), hz⟩
  exact ⟨_, _, z, st₀.trans st₂, R₂, hw.up hsol (List.prefix_refl _), hq⟩

theorem mapSeq_list {items ys : List Value} {f : Array Value → Array Value} {k : Nat} (e : f items.toArray = ys.toArray) : ∃ k', Obj.mapSeq f (listO items k) = listO ys k' :=
  ⟨if (f items.toArray).size == items.toArray.size then k else k + 1, congrArg (fun z => ({ cls := .type "list", data := .seq z (if (f items.toArray).size == items.toArray.size then k else k + 1) } : Obj)) e⟩
theorem args_any {id : String} {v : Value} {trees : List (Bool × Sem Value)} {pos : Pos} {P : Value → Shared → Prop} (hp : trees.any (·.1) = false)
    (h : wpAny (mod C) A (spliced trees) (fun vs s₁ => wpAny (mod C) A (call (.builtin id) (v :: vs)) P E s₁) E s) : wpAny (mod C) A (callWith pos (.builtin id) [v] trees []) P E s := by
  refine Calls.callWith_builtin hp ?_
  cases trees with
  | nil => exact wpAny_bind (wpAny_mono h (fun vs s' h' => wpAny_holding (wpAny_bind (wpAny_pure (wpAny_bind (wpAny_pure (wpAny_pure h')))))) fun _ _ x => x)
  | cons q trees =>
    obtain ⟨b, t⟩ := q
    simp only [List.any_cons, Bool.or_eq_false_iff] at hp
    obtain ⟨rfl, _⟩ := hp
    exact Calls.evalArgs_plain h

set_option tactic.hygienic true in
theorem erase_last {α : Type} (xs : List α) : (xs.toArray.eraseIdxIfInBounds (xs.toArray.size - 1)) = xs.dropLast.toArray := by
  rw [List.size_toArray]
  apply Array.ext'
  simp [Array.eraseIdxIfInBounds]
  split
  · simp [List.dropLast_eq_take]
  · rename_i h
    have : xs = [] := by
      cases xs with
      | nil => rfl
      | cons a r => simp at h
    subst this; rfl

noncomputable def isStr : Me → Bool
  | .find => true
  | .split => true
  | _ => false
theorem isStr_inv {x : MV} (h : (match x with | .str _ => true | _ => false) = true) : ∃ y, x = .str y := by
  cases x <;> first | exact ⟨_, rfl⟩ | cases h
theorem split_count {x y : Str} : (Txt.split x y).length ≤ x.length + 2 := by
  unfold Txt.split
  split
  · exact Nat.le_add_left 1 (x.length + 1)
  · split
    · exact Nat.le_add_left 1 (x.length + 1)
    · have e := StrLaws.occ_length_le x y 0 x.length (x.length + 1)
      rw [length_partsBetween]; (first | lia | omega)
noncomputable def meId : Me → String
  | .append => "list.append"
  | .extend => "list.extend"
  | .pop => "list.pop"
  | .find => "str.find"
  | _ => "str.split"
theorem app_ok (ok : FmOk F) {x : MV} {v : Value} {ρ₀ : List Addr} {s₀ : Shared} (st₀ : Step F.W ρ₀ s₀ ρ s) (R : Rel C F ρ m s) (hx : Rep C ρ s.heap x v) {xs : List MV} {vs : List Value} (rl : RepL C ρ s.heap xs vs) (h : wpMth .append x xs Q m) :
    wpAny (mod C) A (call (.builtin "list.append") (v :: vs)) (Out C F ρ₀ s₀ Q) E s := by
  simp only [wpMth] at h
  obtain ⟨r, ys, hl, j1⟩ := onL_inv h
  obtain ⟨y, rfl, h1, h2⟩ := on1_inv j1
  obtain ⟨a, items, k, rfl, rfl, g, hi, gi, ri, z⟩ := lst_rep R.hp hx hl
  cases rl with | cons ra rn => cases rn with | nil =>
  refine PySem.wpAny_list_append_plain ⟨_, gi⟩ (fun h' hl hs => ?_) (by rw [List.size_toArray, ri.length]; exact z)
  obtain ⟨n, hl⟩ := hl
  exact put_list ok st₀ R g hi (t := s.toks) (fun b ob q e => (hs.2 b q).trans e) (items := items ++ [_]) (k := n) (by rw [hl]; simp) (ri.append (.cons ra .nil)) (by rw [List.length_append]; exact h1) .none h2
theorem ext_ok (ok : FmOk F) {x : MV} {v : Value} {ρ₀ : List Addr} {s₀ : Shared} (st₀ : Step F.W ρ₀ s₀ ρ s) (R : Rel C F ρ m s) (hx : Rep C ρ s.heap x v) {xs : List MV} {vs : List Value} (rl : RepL C ρ s.heap xs vs) (h : wpMth .extend x xs Q m) :
    wpAny (mod C) A (call (.builtin "list.extend") (v :: vs)) (Out C F ρ₀ s₀ Q) E s := by
  simp only [wpMth] at h
  obtain ⟨r, ys, hl, j1⟩ := onL_inv h
  obtain ⟨y, rfl, j2⟩ := on1_inv j1
  obtain ⟨r', zs, hl', h1, h2⟩ := onL_inv j2
  obtain ⟨a, items, k, rfl, rfl, g, hi, gi, ri, z⟩ := lst_rep R.hp hx hl
  cases rl with | cons ra rn => cases rn with | nil =>
  obtain ⟨a', items', k', rfl, rfl, g', hi', gi', ri', z'⟩ := lst_rep R.hp ra hl'
  have hlen : items.toArray.size + items'.toArray.size ≤ sizeLine := by rw [List.size_toArray, List.size_toArray, ri.length, ri'.length]; exact h1
  have hlong : ¬(!items.toArray.isEmpty && Builtin.List.listTooLong (items.toArray.size + items'.toArray.size)) = true := by
    have : Builtin.List.listTooLong (items.toArray.size + items'.toArray.size) = false := by
      unfold Builtin.List.listTooLong
      simpa using hlen
    rw [this, Bool.and_false]; decide
  refine call_meets PySem.F.slot_list_extend ⟨_, gi, rfl⟩ PySem.F.entry_list_extend (PySem.F.args_list_extend_2 _ _) (PySem.AutoSeq1.list_extend_list_list_0 a items.toArray k a' items'.toArray k' hlong (Nat.le_trans (Nat.le_add_right ..) hlen) (Nat.le_succ_of_le hlen)) ⟨gi, gi', ?_⟩
  have hs := Heap.SameBut.update s.heap a (Obj.mapSeq fun x => x ++ items'.toArray)
  have hg := Heap.get?_update_self (Obj.mapSeq fun x => x ++ items'.toArray) gi rfl
  have e : items.toArray ++ items'.toArray = (items ++ items').toArray := List.append_toArray ..
  obtain ⟨k₂, e₂⟩ := mapSeq_list (k := k) (f := fun x => x ++ items'.toArray) e
  exact put_list ok st₀ R g hi (t := s.toks) (fun b ob q e => (hs.2 b q).trans e) (items := items ++ items') (k := k₂) (hg.trans (congrArg some e₂)) (ri.append ri') (by rw [List.length_append]; exact h1) .none h2
theorem pop_ok (ok : FmOk F) {x : MV} {v : Value} {ρ₀ : List Addr} {s₀ : Shared} (st₀ : Step F.W ρ₀ s₀ ρ s) (R : Rel C F ρ m s) (hx : Rep C ρ s.heap x v) {xs : List MV} {vs : List Value} (rl : RepL C ρ s.heap xs vs) (h : wpMth .pop x xs Q m) :
    wpAny (mod C) A (call (.builtin "list.pop") (v :: vs)) (Out C F ρ₀ s₀ Q) E s := by
  simp only [wpMth] at h
  obtain ⟨r, ys, hl, rfl, j1⟩ := onL_inv h
  obtain ⟨y, hy, j2⟩ := onO_inv j1
  obtain ⟨a, items, k, rfl, rfl, g, hi, gi, ri, z⟩ := lst_rep R.hp hx hl
  cases rl with | nil =>
  obtain ⟨w, hw, rw'⟩ := ri.get hy
  have hsz : items.toArray.size = ys.length := by rw [List.size_toArray, ri.length]
  refine call_meets PySem.F.slot_list_pop ⟨_, gi, rfl⟩ PySem.F.entry_list_pop (PySem.F.args_list_pop_1 _) (PySem.MeetsSeq.list_pop_last a items.toArray k w (by rw [hsz]; simpa using hw) (by rw [hsz]; exact z)) ⟨gi, ?_⟩
  have hs := Heap.SameBut.update s.heap a (Obj.mapSeq fun xs => xs.eraseIdxIfInBounds (items.toArray.size - 1))
  have hg := Heap.get?_update_self (Obj.mapSeq fun xs => xs.eraseIdxIfInBounds (items.toArray.size - 1)) gi rfl
  obtain ⟨k₂, e₂⟩ := mapSeq_list (k := k) (f := fun xs => xs.eraseIdxIfInBounds (items.toArray.size - 1)) (erase_last items)
  refine put_list ok st₀ R g hi (t := s.toks) (fun b ob q e => (hs.2 b q).trans e) (items := items.dropLast) (k := k₂) (hg.trans (congrArg some e₂)) ?_ (Nat.le_trans (by rw [List.length_dropLast]; exact Nat.sub_le ..) z) rw' j2
  rw [List.dropLast_eq_take, List.dropLast_eq_take, ri.length]
  exact ri.take _
theorem find_ok (ok : FmOk F) {x : List Nat} {t : Tok} {ρ₀ : List Addr} {s₀ : Shared} (st₀ : Step F.W ρ₀ s₀ ρ s) (R : Rel C F ρ m s) {xs : List MV} {vs : List Value} (rl : RepL C ρ s.heap xs vs) (h : wpMth .find (.str x) xs Q m) :
    wpAny (mod C) A (call (.builtin "str.find") (.str (str x) t :: vs)) (Out C F ρ₀ s₀ Q) E s := by
  simp only [wpMth] at h
  obtain ⟨y, rfl, j1⟩ := on1_inv h
  obtain ⟨z, rfl, j2⟩ := onS_inv j1
  cases rl with | cons ra rn => cases rn with | nil => cases ra with | str _ u zu =>
  refine PySem.SC.find ?_
  obtain ⟨R₂, st₂⟩ := R.tok ok (s.toks + 1)
  refine ⟨_, _, _, st₀.trans st₂, R₂, .int _ _, j2 _ ?_⟩
  unfold Txt.find
  split <;> (first | lia | omega)
theorem glue_join (c : Nat) : ∀ l : List Str, (Str.join ⟨#[c]⟩ l).cps.toList = glue c (l.map (·.cps.toList))
  | [] => rfl
  | [x] => rfl
  | x :: y :: r => by
    have e := glue_join c (y :: r)
    show (x.cps ++ #[c] ++ (Str.join ⟨#[c]⟩ (y :: r)).cps).toList = x.cps.toList ++ c :: glue c ((y :: r).map (·.cps.toList))
    rw [← e]; simp
theorem values_rep : ∀ {l : List (Str × Tok)}, (∀ x ∈ l.map (·.1), x.length ≤ line) → RepL C ρ s.heap ((l.map (·.1)).map fun x => .str x.cps.toList) (strValues l)
  | [], _ => .nil
  | (x, t) :: r, h => by
    have e : x = str x.cps.toList := by simp
    refine .cons ?_ (values_rep fun y hy => h y (.tail _ hy))
    have hl := h x (.head _)
    exact e ▸ .str x.cps.toList t hl
theorem split_call {x y : Str} {t u : Tok} {P : Value → Shared → Prop} (hy : (y.length == 0) = false) (hx : x.length + 2 ≤ sizeLine)
    (h : ∀ l k, l.map (·.1) = Txt.split x y → P (.ref s.heap.objs.size) { s with heap := s.heap.push (listO (strValues l) 0), toks := k }) : wpAny (mod C) A (call (.builtin "str.split") [.str x t, .str y u]) P E s := by
  have hn : (Builtin.Str.partsBetween x (Builtin.Str.occurrences x y 0 x.length (x.length + 1)) y.length).length ≤ sizeLine := by
    have e := StrLaws.occ_length_le x y 0 x.length (x.length + 1)
    rw [length_partsBetween]; (first | lia | omega)
  cases h1 : (decide (x.length < y.length) || decide (Builtin.Str.strKind x < Builtin.Str.strKind y)) with
  | true => exact call_meets PySem.F.slot_str_split (typeIs_str _ _ _) PySem.F.entry_str_split (PySem.F.args_str_split_2 _ _) (meets_str_split_cannot_occur x y t u h1) (h [(x, t)] s.toks (if_pos h1).symm)
  | false =>
    cases hf : (Builtin.Str.occurrences x y 0 x.length (x.length + 1)).isEmpty with
    | true => exact call_meets PySem.F.slot_str_split (typeIs_str _ _ _) PySem.F.entry_str_split (PySem.F.args_str_split_2 _ _) (meets_str_split_not_found x y t u h1 hy hf) (h [(x, t)] s.toks ((if_neg (ne_true_of_eq_false h1)).trans (if_pos hf)).symm)
    | false =>
      refine call_meets PySem.F.slot_str_split (typeIs_str _ _ _) PySem.F.entry_str_split (PySem.F.args_str_split_2 _ _) (meets_str_split_sep x y t u h1 hy hf (Nat.le_of_add_right_le hx) hn) ?_
      have e := h (numbered s.toks (Builtin.Str.partsBetween x (Builtin.Str.occurrences x y 0 x.length (x.length + 1)) y.length)) (s.toks + (Builtin.Str.partsBetween x (Builtin.Str.occurrences x y 0 x.length (x.length + 1)) y.length).length) ((numbered_texts _ _).trans ((if_neg (ne_true_of_eq_false h1)).trans (if_neg (ne_true_of_eq_false hf))).symm)
      rw [← strsFrom_eq] at e
      exact e
theorem split_ok (ok : FmOk F) {x : List Nat} {t : Tok} {ρ₀ : List Addr} {s₀ : Shared} (st₀ : Step F.W ρ₀ s₀ ρ s) (R : Rel C F ρ m s) {xs : List MV} {vs : List Value} (rl : RepL C ρ s.heap xs vs) (h : wpMth .split (.str x) xs Q m) :
    wpAny (mod C) A (call (.builtin "str.split") (.str (str x) t :: vs)) (Out C F ρ₀ s₀ Q) E s := by
  simp only [wpMth] at h
  obtain ⟨_, e, j1⟩ := onS_inv h
  cases e
  obtain ⟨y, rfl, j2⟩ := on1_inv j1
  obtain ⟨z, rfl, c, rfl, hl, j3⟩ := onS_inv j2
  cases rl with | cons ra rn => cases rn with | nil => cases ra with | str _ u zu =>
  have hx : (str x).length + 2 ≤ sizeLine := by
    rw [str_length]
    exact Nat.le_trans (Nat.add_le_add_right (Nat.le_of_lt hl) 2) (by decide)
  refine split_call rfl hx fun l k e => Out.back st₀ _ _ (outList R ok (xs := (l.map (·.1)).map fun x => .str x.cps.toList) (values_rep fun a ha => ?_) ?_ ?_)
  · rw [e] at ha
    exact Nat.le_trans (part_short ha) (Nat.le_of_add_right_le hx)
  · rw [e, List.length_map]
    exact Nat.le_trans (split_count (x := str x) (y := str [c])) hx
  · have e2 : (l.map (·.1)).map (fun x => MV.str x.cps.toList) = ((Txt.split (str x) (str [c])).map (·.cps.toList)).map .str := by rw [e, List.map_map]; rfl
    rw [e2]
    refine j3 _ ?_ ?_ ?_
    · intro e3
      have := split_pos (str x) (str [c])
      rw [List.map_eq_nil_iff.mp e3] at this
      cases this
    · intro w hw
      obtain ⟨a, ha, rfl⟩ := List.mem_map.mp hw
      exact StrLaws.split_free (str x) c a ha
    · have e3 := congrArg (fun z : Str => z.cps.toList) (StrLaws.join_split (str x) (str [c]))
      exact (glue_join c _).symm.trans (e3.trans (str_cps x))

theorem mth_call (ok : FmOk F) {k : Me} {x : MV} {v : Value} {ρ₀ : List Addr} {s₀ : Shared} (st₀ : Step F.W ρ₀ s₀ ρ s) (R : Rel C F ρ m s) (hx : Rep C ρ s.heap x v) {xs : List MV} {vs : List Value} (rl : RepL C ρ s.heap xs vs) (h : wpMth k x xs Q m) (hk : (meIs k).isSome = true)
    (hs : isStr k = true → ∃ y, x = .str y) :
    wpAny (mod C) A (call (.builtin (meId k)) (v :: vs)) (Out C F ρ₀ s₀ Q) E s := by
  cases k <;> first | exact app_ok ok st₀ R hx rl h | exact ext_ok ok st₀ R hx rl h | exact pop_ok ok st₀ R hx rl h | cases hk | skip
  · obtain ⟨y, rfl⟩ := hs rfl
    cases hx with | str => exact find_ok ok st₀ R rl h
  · obtain ⟨y, rfl⟩ := hs rfl
    cases hx with | str => exact split_ok ok st₀ R rl h
theorem mth_ok (G : GOk C) (ok : FmOk F) {k : Me} {x : MV} {v : Value} {name : Str} (hn : meIs k = some name) {ρ₀ : List Addr} {s₀ : Shared} (st₀ : Step F.W ρ₀ s₀ ρ s) (R : Rel C F ρ m s) (hx : Rep C ρ s.heap x v) (hm : mthOk k x m.heap = true) {trees : List (Bool × Sem Value)} {pos : Pos}
    (hp : trees.any (·.1) = false)
    (h : wpAny (mod C) F.A (spliced trees) (fun vs s₁ => ∃ ρ₁ m₁ xs, Step F.W ρ s ρ₁ s₁ ∧ Rel C F ρ₁ m₁ s₁ ∧ RepL C ρ₁ s₁.heap xs vs ∧ wpMth k x xs Q m₁) E s) :
    MethodOn C.prog C.w F.A name pos v trees (Out C F ρ₀ s₀ Q) E s := by
  have hk : (meIs k).isSome = true := by rw [hn]; rfl
  have go : (isStr k = true → ∃ y, x = .str y) → wpAny (mod C) F.A (callWith pos (.builtin (meId k)) [v] trees []) (Out C F ρ₀ s₀ Q) E s := fun hs => args_any hp (wpAny_mono h (fun vs s₁ ⟨ρ₁, m₁, xs, st, R₁, rl, hw⟩ => mth_call ok (st₀.trans st) R₁ (hx.step st) rl hw hk hs) fun _ _ e => e)
  have hl : ∀ {r ys}, lst x m.heap = some (r, ys) → ∃ a o, v = .ref a ∧ s.heap.get? a = some o ∧ o.cls = .type "list" ∧ o.dict = none := fun e => by
    obtain ⟨a, items, k, rfl, _, _, _, gi, _⟩ := lst_rep R.hp hx e
    exact ⟨a, _, rfl, gi, rfl, rfl⟩
  cases k <;> first | cases hn | skip
  · obtain ⟨r, ys, e⟩ := lst_some hm
    obtain ⟨a, o, rfl, gi, hc, hd⟩ := hl e
    exact ⟨"list", _, PySem.F.plainAttrs_list, slot_list_append, rfl, ⟨_, gi, hc⟩, fun b e => by cases e; exact ⟨_, gi, hd⟩, go fun q => by cases q⟩
  · obtain ⟨r, ys, e⟩ := lst_some hm
    obtain ⟨a, o, rfl, gi, hc, hd⟩ := hl e
    exact ⟨"list", _, PySem.F.plainAttrs_list, PySem.F.slot_list_extend, rfl, ⟨_, gi, hc⟩, fun b e => by cases e; exact ⟨_, gi, hd⟩, go fun q => by cases q⟩
  · obtain ⟨r, ys, e⟩ := lst_some hm
    obtain ⟨a, o, rfl, gi, hc, hd⟩ := hl e
    exact ⟨"list", _, PySem.F.plainAttrs_list, PySem.F.slot_list_pop, rfl, ⟨_, gi, hc⟩, fun b e => by cases e; exact ⟨_, gi, hd⟩, go fun q => by cases q⟩
  · obtain ⟨y, rfl⟩ := isStr_inv hm
    cases hx with | str sx t z =>
    exact ⟨"str", _, PySem.F.plainAttrs_str, PySem.F.slot_str_find, PySem.F.type_str_find, typeIs_str _ _ _, (fun a e => nomatch e), go fun _ => ⟨_, rfl⟩⟩
  · obtain ⟨y, rfl⟩ := isStr_inv hm
    cases hx with | str sx t z =>
    exact ⟨"str", _, PySem.F.plainAttrs_str, PySem.F.slot_str_split, PySem.F.type_str_split, typeIs_str _ _ _, (fun a e => nomatch e), go fun _ => ⟨_, rfl⟩⟩
end
end Mine
end
section
set_option autoImplicit false
set_option linter.unusedVariables false
set_option tactic.hygienic false
namespace Mine
open PySem PyProof.Rows

noncomputable def chkC : MV → Const → Bool
  | .none, .none => true
  | .bool b, .bool c => b == c
  | .int i, .int j => i == j
  | .str s, .str x => x.cps.toList == s && decide (s.length ≤ 1000)
  | _, _ => false

noncomputable def glName (c : Cx) (x : Str) : Bool := c.kind x == some .globalImplicit && !dbg x

noncomputable def tyName (c : Cx) (t : TS) (e : Expr) : Bool := onSome (xName e) fun x => onSome (tsIs t) fun T => x == Str.ofString T && c.kind x == some .globalImplicit && !dbg x

noncomputable def setOk (c : Cx) (x : Str) : Bool := c.kind x == some .local || (c.wr && !(c.kind x == some .free))
theorem setOk_is {c : Cx} {x : Str} (h : setOk c x = true) : c.kind x = some .local ∨ (c.wr = true ∧ c.kind x ≠ some .free) := by
  simpa [setOk] using h
noncomputable def chkNames (c : Cx) : List Nat → List Expr → Bool
  | [], xs => xs.isEmpty
  | i :: t, xs => match xs with
    | [] => false
    | e :: r => onSome (xName e) (fun x => c.nm i == some x && setOk c x) && chkNames c t r
noncomputable def chkT (c : Cx) (t : List Nat) (many : Bool) (e : Expr) : Bool := match many with
  | false => onSome (xName e) fun x => onSome (one t) fun i => c.nm i == some x && setOk c x
  | true => onSome (xTup e) (chkNames c t)

noncomputable def tgNames (e : Expr) : List Str := match xTup e with
  | some elts => elts.filterMap xName
  | none => (xName e).toList
noncomputable def relab (kind : Str → Option NameKind) (names : List (Str × NameKind)) : List (Str × NameKind) := names.map fun (n, k) => if (k == .free && kind n == some .cell) then (n, .cell) else (n, k)
noncomputable def subNm (c : Cx) (sc : Scope) (i : Nat) : Option Str := match c.nm i with
  | some x => if sc.names.lookup x == some .free then some x else none
  | none => none
noncomputable def subCx (c : Cx) (sc : Scope) (t : List Nat) (tn : List Str) : Cx where
  kind x := (relab c.kind sc.names).lookup x
  nm i := match (t.zip tn).lookup i with
    | some x => some x
    | none => subNm c sc i
  fn := c.fn
  gl := c.gl
  wr := false
  fr i := c.fr i && !t.contains i
noncomputable def freeOk (c : Cx) (x : Str) : Bool := (List.range 64).any (fun i => c.nm i == some x) && c.kind x != some .local && !cdc x
noncomputable def compOk (c : Cx) (sc : Scope) (t : List Nat) (tn : List Str) : Bool :=
  sc.kind == .function && sc.names.all (fun p => p.2 != .cell && (p.2 != .local || sc.names.lookup p.1 == some .local) && (p.2 != .free || freeOk c p.1)) &&
    decide (t.length = tn.length) && decide t.Nodup && decide tn.Nodup && t.all c.fr && tn.all (fun x => sc.names.lookup x == some .local)
noncomputable def itName : IK → Str
  | .enum => "enumerate"
  | _ => "range"
noncomputable def isVal : IK → Bool
  | .val => true
  | _ => false
noncomputable def itArgs (c : Cx) (k : IK) (e : Expr) : Option (List Expr) := if isVal k then some [e] else (xFn e).bind fun q => if glName c q.1 && q.1 == itName k && !q.2.1.isEmpty then some q.2.1 else none
noncomputable def xSS (c : Cx) (e : Expr) : Option Expr := (xFn e).bind fun q => (one q.2.1).bind fun y => (xFn y).bind fun r => if useSS && glName c q.1 && q.1 == ("sorted" : Str) && glName c r.1 && r.1 == ("set" : Str) then one r.2.1 else none
noncomputable def isSS : Bi → Bool
  | .sortedSet => true
  | _ => false
noncomputable def isEnum : IK → Bool
  | .enum => true
  | _ => false
noncomputable def mvC (v : MV) : Option (Nat × Int × List (List Nat)) := match v with
  | .int i => some (0, i, [])
  | .str s => some (1, 0, [s])
  | .gt ss => some (2, 0, ss)
  | _ => none
noncomputable def mvB (q : Nat × Int × List (List Nat)) : MV := match q.1 with
  | 0 => .int q.2.1
  | 1 => .str (q.2.2.headD [])
  | _ => .gt q.2.2
theorem mvC_back {v : MV} {q : Nat × Int × List (List Nat)} (h : mvC v = some q) : v = mvB q := by
  cases v with
  | int i => cases h; rfl
  | str s => cases h; rfl
  | gt ss => cases h; rfl
  | _ => cases h
noncomputable def chkG (c : Cx) (g : Nat) (v : MV) (x : Str) : Bool := onSome (c.gl g) fun q => q.1 == x && onSome (mvC q.2) fun a => mvC v == some a

mutual
noncomputable def chkE : Cx → ME → Expr → Bool
  | c, .cst v, e => onSome (xConst e) (chkC v)
  | c, .var i, e => onSome (xName e) fun x => c.nm i == some x && !dbg x
  | c, .glob g v, e => onSome (xName e) fun x => glName c x && chkG c g v x
  | c, .bin op a b, e => onSome (xBin e) fun p => p.2.1 == opIs op && chkE c a p.1 && chkE c b p.2.2
  | c, .neg a, e => onSome (xUn e) fun p => p.1 == .USub && chkE c a p.2
  | c, .not a, e => onSome (xUn e) fun p => p.1 == .Not && chkE c a p.2
  | c, .and es, e => onSome (xBool e) fun p => p.1 == .And && chkEs c es p.2
  | c, .or es, e => onSome (xBool e) fun p => p.1 == .Or && chkEs c es p.2
  | c, .cmp op a b, e => onSome (xCmp e) fun p => onSome (one p.2.1) fun o => onSome (one p.2.2) fun r => o == cmpIs op && okX r && chkE c a p.1 && chkE c b r
  | c, .cmp2 op op' a b d, e => onSome (xCmp e) fun p => onSome (two p.2.1) fun o => onSome (two p.2.2) fun r => o.1 == cmpIs op && o.2 == cmpIs op' && okX r.1 && okX r.2 && chkE c a p.1 && chkE c b r.1 && chkE c d r.2
  | c, .isN q a, e => onSome (xCmp e) fun p => onSome (one p.2.1) fun o => onSome (one p.2.2) fun r => o == (if q then .Is else .IsNot) && xConst r == some .none && chkE c a p.1
  | c, .call f args, e => onSome (xFn e) fun q => glName c q.1 && c.fn f == some q.1 && !q.2.1.isEmpty && chkEs c args q.2.1
  | c, .blt b args, e => if isSS b then onSome (xSS c e) fun z => chkEs c args [z] else onSome (xFn e) fun q => glName c q.1 && onSome (biIs b) (fun p => q.1 == p.1) && !q.2.1.isEmpty && chkEs c args q.2.1
  | c, .mth k o args, e => onSome (xMeth e) fun q => meIs k == some q.1.2.1 && notCall0 q.1.1 && (q.1.2.2.endLine == q.2.2.line) && decide (q.2.1.length < 20) && chkE c o q.1.1 && chkEs c args q.2.1
  | c, .umth _ _ _, _ => false
  | c, .new _ _ _, _ => false
  | c, .attr _ _, _ => false
  | c, .idx o i, e => onSome (xSub e) fun p => okX p.2 && chkE c o p.1 && chkE c i p.2
  | c, .sl o lo hi, e => onSome (xSub e) fun p => onSome (xSlice p.2) fun q => q.2.2.isNone && chkE c o p.1 && chkO c lo q.1 && chkO c hi q.2.1
  | c, .list es, e => onSome (xList e) fun xs => decide (es.length ≤ 1000) && chkEs c es xs
  | c, .tup es, e => onSome (xTup e) fun xs => decide (es.length ≤ 1000) && chkEs c es xs
  | c, .dict0, e => onSome (xDict e) fun p => p.1.isEmpty && p.2.isEmpty
  | c, .comp elt t many k src ifs, e => onSome (xLC e) fun p => onSome (one p.2.1) fun g => g.is_async == 0 && okX g.iter && (!isEnum k || many) && compOk c p.2.2 t (tgNames g.target) && onSome (itArgs c k g.iter) (fun xs => chkEs c src xs) &&
      chkT (subCx c p.2.2 t (tgNames g.target)) t many g.target && chkEs (subCx c p.2.2 t (tgNames g.target)) ifs g.ifs && chkE (subCx c p.2.2 t (tgNames g.target)) elt p.1
  | c, .isi a ts, e => onSome (xFn e) fun q => onSome (two q.2.1) fun v => onSome (one ts) fun t => glName c q.1 && q.1 == ("isinstance" : Str) && okX v.1 && chkE c a v.1 && tyName c t v.2
noncomputable def chkEs : Cx → List ME → List Expr → Bool
  | c, [], xs => xs.isEmpty
  | c, e :: es, xs => match xs with
    | [] => false
    | x :: xs => okX x && chkE c e x && chkEs c es xs
noncomputable def chkO : Cx → Option ME → Option Expr → Bool
  | c, none, x => x.isNone
  | c, some e, x => match x with
    | some x => chkE c e x
    | none => false
end

noncomputable def Call (C : Glo) : KT := fun n f vs Q X h => ∀ (F : Fm) (m : MS) (s : Shared) (ρ : List Addr) (ws : List Value) (a : Addr), FmOk F → m.heap = h → Rel C F ρ m s → RepL C ρ s.heap vs ws →
  F.A.depth + n ≤ 999 → F.A.units ≤ 3 * F.A.depth + 4 → C.fa f = some a →
    wpAny (mod C) F.A (call (.ref a) ws) (Out C F ρ s (fun v m' => m'.vars = m.vars ∧ Q v m'.heap)) (Er C F (fun c m' => X c m'.heap) ρ s) s

section
variable {C : Glo} {F : Fm} {X : XM} {ρ ρ₀ : List Addr} {m : MS} {s s₀ : Shared} {Q : PQ} {E : Value → Shared → Prop} {A : Around} {c : Cx} {n : Nat}

theorem WPv.go {t : Sem Value} {P : Value → Shared → Prop} (h : WPv C F X t Q m) (R : Rel C F ρ m s) (st₀ : Step F.W ρ₀ s₀ ρ s)
    (k : ∀ ρ₁ s₁ m₁ x v, Step F.W ρ s ρ₁ s₁ → Step F.W ρ₀ s₀ ρ₁ s₁ → Rel C F ρ₁ m₁ s₁ → Rep C ρ₁ s₁.heap x v → Q x m₁ → P v s₁) : wpAny (mod C) F.A t P (Er C F X ρ₀ s₀) s :=
  wpAny_mono (h s ρ R) (fun v s₁ ⟨ρ₁, m₁, x, a, b, c, d⟩ => k ρ₁ s₁ m₁ x v a (st₀.trans a) b c d) (Er.back st₀)

noncomputable def OutL (C : Glo) (F : Fm) (k : Nat) (ρ : List Addr) (s : Shared) (Q : List MV → MS → Prop) : List Value → Shared → Prop :=
  fun vs s' => ∃ ρ' m' xs, Step F.W ρ s ρ' s' ∧ Rel C F ρ' m' s' ∧ RepL C ρ' s'.heap xs vs ∧ xs.length = k ∧ Q xs m'
noncomputable def WPl (C : Glo) (F : Fm) (X : XM) (k : Nat) (t : Sem (List Value)) (Q : List MV → MS → Prop) (m : MS) : Prop :=
  ∀ s ρ, Rel C F ρ m s → wpAny (mod C) F.A t (OutL C F k ρ s Q) (Er C F X ρ s) s
theorem WPl.go {t : Sem (List Value)} {P : List Value → Shared → Prop} {Q : List MV → MS → Prop} {l : Nat} (h : WPl C F X l t Q m) (R : Rel C F ρ m s) (st₀ : Step F.W ρ₀ s₀ ρ s)
    (k : ∀ ρ₁ s₁ m₁ xs vs, Step F.W ρ s ρ₁ s₁ → Step F.W ρ₀ s₀ ρ₁ s₁ → Rel C F ρ₁ m₁ s₁ → RepL C ρ₁ s₁.heap xs vs → xs.length = l → Q xs m₁ → P vs s₁) : wpAny (mod C) F.A t P (Er C F X ρ₀ s₀) s :=
  wpAny_mono (h s ρ R) (fun v s₁ ⟨ρ₁, m₁, x, a, b, c, e, d⟩ => k ρ₁ s₁ m₁ x v a (st₀.trans a) b c e d) (Er.back st₀)

noncomputable def OutT (C : Glo) (F : Fm) (ρ : List Addr) (s : Shared) (Q : Bool → MS → Prop) : Bool → Shared → Prop :=
  fun b s' => ∃ ρ' m', Step F.W ρ s ρ' s' ∧ Rel C F ρ' m' s' ∧ Q b m'
noncomputable def WPt (C : Glo) (F : Fm) (X : XM) (t : Sem Bool) (Q : Bool → MS → Prop) (m : MS) : Prop :=
  ∀ s ρ, Rel C F ρ m s → wpAny (mod C) F.A t (OutT C F ρ s Q) (Er C F X ρ s) s
theorem WPt.go {t : Sem Bool} {P : Bool → Shared → Prop} {Q : Bool → MS → Prop} (h : WPt C F X t Q m) (R : Rel C F ρ m s) (st₀ : Step F.W ρ₀ s₀ ρ s)
    (k : ∀ ρ₁ s₁ m₁ b, Step F.W ρ s ρ₁ s₁ → Step F.W ρ₀ s₀ ρ₁ s₁ → Rel C F ρ₁ m₁ s₁ → Q b m₁ → P b s₁) : wpAny (mod C) F.A t P (Er C F X ρ₀ s₀) s :=
  wpAny_mono (h s ρ R) (fun v s₁ ⟨ρ₁, m₁, a, b, d⟩ => k ρ₁ s₁ m₁ v a (st₀.trans a) b d) (Er.back st₀)

theorem outOfB (R : Rel C F ρ m s) (ok : FmOk F) {P : Bool → MS → Prop} {v : Value} {s' : Shared} (h : OutB s (fun b => P b m) v s') : ∃ b, v = .bool b ∧ ∃ m', Step F.W ρ s ρ s' ∧ Rel C F ρ m' s' ∧ P b m' := by
  obtain ⟨b, t, rfl, rfl, h⟩ := h
  obtain ⟨R', st⟩ := R.tok ok t
  exact ⟨b, rfl, m, st, R', h⟩

set_option tactic.hygienic true in
theorem const_ok (R : Rel C F ρ m s) (ok : FmOk F) {v : MV} {k : Const} (hc : chkC v k = true) (hq : Q v m) {env : Env} {kd : Nat} {p : Pos} : wpAny (mod C) A (eval (.Constant k kd p) env) (Out C F ρ s Q) E s := by
  unfold chkC at hc
  split at hc
  · exact wpAny_Constant_none (outSame R .none hq)
  · simp at hc; subst hc; exact wpAny_Constant_bool (outSame R (.bool _) hq)
  · simp at hc; subst hc; exact wpAny_Constant_int (outTok R ok (.int _ _) hq)
  · rename_i s' x
    simp only [Bool.and_eq_true, beq_iff_eq, decide_eq_true_eq] at hc
    obtain ⟨e, hl⟩ := hc
    have : x = str s' := by subst e; simp
    subst this
    exact wpAny_Constant_str (outTok R ok (.str _ _ (by unfold line; (first | lia | omega))) hq)
  · cases hc

theorem at_mem {p : Str × Value} (i : Nat) (h : bltNames[i]? = some p) : p ∈ bltNames := List.mem_of_getElem? h
theorem bi_mem {b : Bi} {x : Str} {f : Value} (h : biIs b = some (x, f)) : (x, f) ∈ bltNames := by
  cases b <;> cases h <;> first | exact at_mem 0 rfl | exact at_mem 1 rfl | exact at_mem 2 rfl | exact at_mem 3 rfl | exact at_mem 4 rfl | exact at_mem 5 rfl
theorem ts_mem {t : TS} {T : String} (h : tsIs t = some T) : (Str.ofString T, Value.type T) ∈ bltNames := by
  cases t <;> cases h <;> first | exact at_mem 1 rfl | exact at_mem 2 rfl | exact at_mem 3 rfl | exact at_mem 4 rfl | exact at_mem 5 rfl | exact at_mem 6 rfl

theorem glName_ok {x : Str} (h : glName c x = true) : c.kind x = some .globalImplicit ∧ dbg x = false := by
  simp only [glName, Bool.and_eq_true, beq_iff_eq, Bool.not_eq_true'] at h; exact h

theorem bi_fun {b : Bi} {x : Str} {f : Value} (h : biIs b = some (x, f)) : (∃ id, f = .builtin id) ∨ ∃ T, f = .type T := by
  cases b <;> cases h <;> first | exact .inl ⟨_, rfl⟩ | exact .inr ⟨_, rfl⟩

theorem trees_plain {es : List ME} {xs : List Expr} (h : chkEs c es xs = true) (pos : Pos) (env : Env) : (backTo pos (starEach xs env)).any (·.1) = false := by
  induction es generalizing xs with
  | nil => cases xs with
    | nil => rfl
    | cons => simp [chkEs] at h
  | cons e es ih =>
    cases xs with
    | nil => simp [chkEs] at h
    | cons x xs =>
      simp only [chkEs, Bool.and_eq_true] at h
      rw [okX_star h.1.1]
      show (false || (backTo pos (starEach xs env)).any (·.1)) = false
      rw [ih h.2]; rfl

theorem call_args {f : Value} {trees : List (Bool × Sem Value)} {pos : Pos} {s : Shared} {A : Around} {E : Value → Shared → Prop} {P : Value → Shared → Prop} (hf : (∃ id, f = .builtin id) ∨ ∃ T, f = .type T) (hp : trees.any (·.1) = false) (hne : trees ≠ [])
    (h : wpAny (mod C) A (spliced trees) (fun vs s₁ => wpAny (mod C) A (call f vs) P E s₁) E s) : wpAny (mod C) A (callWith pos f [] trees []) P E s := by
  obtain ⟨⟨b, t⟩, trees, rfl⟩ := List.exists_cons_of_ne_nil hne
  simp only [List.any_cons, Bool.or_eq_false_iff] at hp
  obtain ⟨rfl, hp⟩ := hp
  rcases hf with ⟨id, rfl⟩ | ⟨T, rfl⟩
  · exact Calls.callWith_builtin (by simp [hp]) (Calls.evalArgs_plain h)
  · exact PyProof.Rows.callWith_type (by simp [hp]) (Calls.evalArgs_plain h)

theorem cameBool {v : Value} {s : Shared} {A : Around} {E : Value → Shared → Prop} {P : Bool → Shared → Prop} (h : ∃ b, v = .bool b ∧ P b s) : wpAny (mod C) A (truthy v) P E s := by
  obtain ⟨b, rfl, h⟩ := h; exact wpAny_truthy_bool h
end
end Mine
end
section
set_option autoImplicit false
set_option linter.unusedVariables false
set_option tactic.hygienic false
namespace Mine
open PySem PyProof.Rows

noncomputable def Shp (h : Heap) (a : Addr) : Prop := ∃ o, h.get? a = some o ∧ ¬ Solid o ∧ o.cls ≠ .type "frame"
noncomputable def Aside (C : Glo) (F : Fm) (ρ : List Addr) (h : Heap) (S : List Addr) : Prop :=
  ∀ a ∈ S, a ∉ ρ ∧ a ∉ F.W ++ F.V ∧ C.base.get? a = none ∧ Shp h a
noncomputable def Side (S : List Addr) (s s' : Shared) : Prop := (∀ b o, b ∉ S → s.heap.get? b = some o → s'.heap.get? b = some o) ∧ s'.gens = s.gens ∧ s'.os = s.os

section
variable {C : Glo} {F : Fm} {X : XM} {c : Cx} {n : Nat} {ρ ρ' ρ₀ : List Addr} {m : MS} {s s' s₀ : Shared} {S : List Addr} {A : Around}

theorem Side.trans {s'' : Shared} (x : Side S s s') (y : Side S s' s'') : Side S s s'' :=
  ⟨fun b o hb e => y.1 b o hb (x.1 b o hb e), y.2.1.trans x.2.1, y.2.2.trans x.2.2⟩
theorem Step.side {W : List Addr} (x : Step W ρ₀ s₀ ρ s) (y : Side S s s') (hS : ∀ a ∈ S, s₀.heap.get? a = none) : Step W ρ₀ s₀ ρ s' where
  pre := x.pre
  new := x.new
  keep := fun a o e h1 h2 => by
    have ha : a ∉ S := fun h => by rw [hS a h] at e; cases e
    rcases x.keep a o e h1 h2 with e1 | ⟨hc, sl, e1⟩
    · exact .inl (y.1 a _ ha e1)
    · exact .inr ⟨hc, sl, y.1 a _ ha e1⟩
  solid := fun a o e h => y.1 a o (fun q => by rw [hS a q] at e; cases e) (x.solid a o e h)
  alive := fun a o e => let ⟨o', e'⟩ := x.alive a o e; ⟨o', y.1 a o' (fun q => by rw [hS a q] at e; cases e) e'⟩
  gens := y.2.1.trans x.gens
  os := y.2.2.trans x.os
theorem shp_solids (x : ∀ a ∈ S, Shp s.heap a) (y : Side S s s') : Solids s.heap s'.heap := fun a o e h => y.1 a o (fun q => by
  obtain ⟨o', e', h', _⟩ := x a q
  rw [e] at e'; cases e'; exact h' h) e
theorem Aside.solids (x : Aside C F ρ s.heap S) (y : Side S s s') : Solids s.heap s'.heap := shp_solids (fun a ha => (x a ha).2.2.2) y
theorem Rel.side0 (R : Rel C F ρ m s) (ok : FmOk F) (hs : Solids s.heap s'.heap) (x : ∀ a ∈ S, a ∉ ρ ∧ a ∉ F.W ++ F.V ∧ C.base.get? a = none) (hout : ∀ e ∈ F.outer, ∀ L, e.frame = some L → L ∉ S) (y : Side S s s') : Rel C F ρ m s' :=
  R.up ok hs (List.prefix_refl _) (R.hp.up hs (fun a ha o e => y.1 a o (fun q => (x a q).1 ha) e) fun b o e => y.1 b o (fun q => by rw [(x b q).2.2] at e; cases e) (R.hp.base b o e)) (fun a h => .inl h)
    (fun a ha o e => ⟨o, y.1 a o (fun q => (x a q).2.1 ha) e, rfl, rfl⟩) (fun e he L hL o eo => ⟨o, y.1 L o (hout e he L hL) eo, rfl, rfl⟩) y.2.1
theorem out_aside (R : Rel C F ρ m s) (x : ∀ a ∈ S, Shp s.heap a) : ∀ e ∈ F.outer, ∀ L, e.frame = some L → L ∉ S := fun e he L hL q => by
  obtain ⟨_, L', o', es, k, h1, _, _, _, h5, h6, h7⟩ := R.out e he
  rw [hL] at h1; cases h1
  obtain ⟨o2, g1, _, g2⟩ := x L q
  rw [h5] at g1; cases g1
  exact g2 h6
theorem Rel.side (R : Rel C F ρ m s) (ok : FmOk F) (x : Aside C F ρ s.heap S) (y : Side S s s') : Rel C F ρ m s' :=
  R.side0 ok (x.solids y) (fun a ha => ⟨(x a ha).1, (x a ha).2.1, (x a ha).2.2.1⟩) (out_aside R fun a ha => (x a ha).2.2.2) y
theorem Aside.step (x : Aside C F ρ s.heap S) (st : Step F.W ρ s ρ' s') : Aside C F ρ' s'.heap S ∧ ∀ a ∈ S, ∀ o, s.heap.get? a = some o → s'.heap.get? a = some o := by
  have keep : ∀ a ∈ S, ∀ o, s.heap.get? a = some o → s'.heap.get? a = some o := fun a ha o e => by
    obtain ⟨h1, h2, h3, o', e', h4, h6⟩ := x a ha
    rw [e] at e'; cases e'
    rcases st.keep a o e h1 (fun q => h2 (List.mem_append_left _ q)) with q | ⟨q, _⟩
    · exact q
    · exact absurd q h6
  refine ⟨fun a ha => ?_, keep⟩
  obtain ⟨h1, h2, h3, o', e', h4, h6⟩ := x a ha
  refine ⟨fun q => (st.new a q).elim h1 fun q => ?_, h2, h3, o', keep a ha _ e', h4, h6⟩
  rw [q] at e'; cases e'
theorem Aside.shape {h h' : Heap} (x : Aside C F ρ h S) (y : ∀ a ∈ S, Shp h' a) : Aside C F ρ h' S := fun a ha => ⟨(x a ha).1, (x a ha).2.1, (x a ha).2.2.1, y a ha⟩

structure Walk (C : Glo) (A : Around) (target : Expr) (itv : Value) (items : List MV) (g : Option (Nat × List MV)) (S : List Addr) (It : Nat → List Addr → Shared → Prop) : Prop where
  shape : ∀ i ρ s, It i ρ s → ∀ a ∈ S, Shp s.heap a
  keep : ∀ i ρ ρ' s s', It i ρ s → ρ <+: ρ' → Solids s.heap s'.heap → (∀ a ∈ S, ∀ o, s.heap.get? a = some o → s'.heap.get? a = some o) → It i ρ' s'
  item : ∀ i ρ hp s x, Hp C ρ hp s.heap → guardOk g hp → It i ρ s → items[i]? = some x → ∀ (E : Value → Shared → Prop) (N : Shared → Prop) (P : Value → Shared → Prop),
    (∀ v s₂, Side S s s₂ → It (i + 1) ρ s₂ → Rep C ρ s₂.heap x v → P v s₂) →
      wpAny (mod C) A (pyNext itv) (fun r s₁ => match r with
        | none => N s₁
        | some v => wpAny (mod C) A (letOwnedTupleGo target itv v) (fun _ s₂ => P v s₂) E s₁) E s
  done : ∀ i ρ hp s, Hp C ρ hp s.heap → guardOk g hp → It i ρ s → items[i]? = none → ∀ (E : Value → Shared → Prop) (P : Shared → Prop),
    (∀ s₂, Side S s s₂ → P s₂) → wpAny (mod C) A (pyNext itv) (fun r s₁ => r = none ∧ P s₁) E s
  self : ∀ i ρ s, It i ρ s → ∀ (E : Value → Shared → Prop) (P : Value → Shared → Prop), P itv s → wpAny (mod C) A (pyIter itv) P E s

theorem aside_new {h : Heap} {o : Obj} {a : Addr} (R : Rel C F ρ m s) (ha : s.heap.get? a = none) (e : h.get? a = some o) (h1 : ¬ Solid o) (h3 : o.cls ≠ .type "frame") :
    a ∉ ρ ∧ a ∉ F.W ++ F.V ∧ C.base.get? a = none ∧ Shp h a := by
  refine ⟨fun q => ?_, fun q => ?_, base_fresh R.hp ha, o, e, h1, h3⟩
  · obtain ⟨o', e'⟩ := R.hp.there q; rw [ha] at e'; cases e'
  · obtain ⟨_, _, o', e', _⟩ := R.w a q; rw [ha] at e'; cases e'
theorem not_solid_fields {T : String} {o : Obj} (hc : o.cls = .type T) (hT : T ≠ "tuple") : ¬ Solid o := fun h => by
  rcases h with ⟨q, _⟩ | ⟨⟨c, q⟩, _⟩
  · rw [hc] at q; cases q; exact hT rfl
  · rw [hc] at q; cases q

theorem shp_one {h : Heap} {a : Addr} {o : Obj} {T : String} (e : h.get? a = some o) (hc : o.cls = .type T) (hT : T ≠ "tuple") (hF : T ≠ "frame") : ∀ b ∈ [a], Shp h b := by
  intro b hb
  have : b = a := by simpa using hb
  subst this
  exact ⟨o, e, not_solid_fields hc hT, by rw [hc]; intro q; cases q; exact hF rfl⟩
noncomputable def ItList (it l : Addr) (r : Nat) : Nat → List Addr → Shared → Prop := fun i ρ s => s.heap.IsListIter it l i ∧ ρ[r]? = some l
theorem side_same {a : Addr} {h' : Heap} {t : Nat} (hs : Heap.SameBut a s.heap h') : Side [a] s { s with heap := h', toks := t } := ⟨fun b o hb e => (hs.2 b (by simpa using hb)).trans e, rfl, rfl⟩
theorem side_ext {a : Addr} {h' : Heap} {t : Nat} (hs : Heap.ExtBut a s.heap h') : Side [a] s { s with heap := h', toks := t } := ⟨fun b o hb e => hs b o (by simpa using hb) e, rfl, rfl⟩

noncomputable def isTarget (e : Expr) : Bool := (xName e).isSome || (xTup e).isSome
theorem letOwned_no {target : Expr} (ht : isTarget target = true) {it : Addr} {v : Value} {o : Obj} {A : Around} {E : Value → Shared → Prop} {P : Unit → Shared → Prop} (e : s.heap.get? it = some o) {T : String} (hc : o.cls = .type T)
    (hT : (["enumerate", "zip", "dict_itemiterator", "dict_reverseitemiterator", "odict_iterator", "itertools.zip_longest", "itertools.pairwise"].contains T) = false) (h : P () s) : wpAny (mod C) A (letOwnedTupleGo target (.ref it) v) P E s := by
  unfold isTarget at ht
  rw [Bool.or_eq_true, Option.isSome_iff_exists, Option.isSome_iff_exists] at ht
  rcases ht with ⟨x, hx⟩ | ⟨xs, hx⟩
  · obtain ⟨p, rfl⟩ := xName_eq hx
    exact wpAny_pure h
  · obtain ⟨k, p, rfl⟩ := xTup_eq hx
    unfold letOwnedTupleGo
    cases v with
    | ref a =>
      refine wpAny_bind (wpAny_load e ?_)
      rw [hc]
      cases o.data with
      | fields vs =>
        simp only [hT, Bool.false_and, Bool.false_eq_true, if_false]
        exact wpAny_pure h
      | _ => exact wpAny_pure h
    | _ => exact wpAny_pure h

theorem walk_list (hn : A.handled = none) {target : Expr} (ht : isTarget target = true) {it l : Addr} {r : Nat} {xs : List MV} : Walk C A target (.ref it) xs (some (r, xs)) [it] (ItList it l r) where
  shape := fun i ρ s h => by obtain ⟨⟨o, e, hc, hd⟩, _⟩ := h; exact shp_one e hc (by decide) (by decide)
  keep := fun i ρ ρ' s s' h hp hs k => by
    obtain ⟨⟨o, e, r1, r2⟩, e2⟩ := h
    exact ⟨⟨o, k it (by simp) o e, r1, r2⟩, pre_get hp e2⟩
  item := fun i ρ hp s x R hg h hx E N P k => by
    obtain ⟨hit, e2⟩ := h
    obtain ⟨items, c, gi, rl, z⟩ := R.objs _ _ _ hg e2
    obtain ⟨v, hv, rv⟩ := rl.get hx
    have sh : ∀ a ∈ [it], Shp s.heap a := by obtain ⟨o, e, hc, hd⟩ := id hit; exact shp_one e hc (by decide) (by decide)
    refine wpAny_pyNext_list_item hit ⟨_, gi, rfl, _, rfl⟩ (by simpa using hv) fun h' hit' hs => ?_
    have sd := side_same (t := s.toks) hs
    obtain ⟨o, eo, hc, hd⟩ := id hit'
    refine letOwned_no ht (s := { s with heap := h' }) eo hc (by decide) (k v _ sd ⟨hit', e2⟩ (rv.up (shp_solids sh sd) (List.prefix_refl _)))
  done := fun i ρ hp s R hg h hx E P k => by
    obtain ⟨hit, e2⟩ := h
    obtain ⟨items, c, gi, rl, z⟩ := R.objs _ _ _ hg e2
    refine wpAny_pyNext_list_end hn hit ⟨_, gi, rfl, _, rfl⟩ (i := i) ?_ fun h' he => ⟨rfl, k _ (side_ext (t := s.toks) he)⟩
    rw [List.getElem?_eq_none_iff] at hx
    simp [rl.length, hx]
  self := fun i ρ s h E P hp => wpAny_pyIter_listiter h.1 hp

noncomputable def ItTup (C : Glo) (it t : Addr) (xs : List MV) : Nat → List Addr → Shared → Prop :=
  fun i ρ s => s.heap.IsTupleIter it t i ∧ ∃ items n, s.heap.get? t = some (tupO items n) ∧ RepL C ρ s.heap xs items
theorem walk_tup (hn : A.handled = none) {target : Expr} (ht : isTarget target = true) {it t : Addr} {xs : List MV} : Walk C A target (.ref it) xs none [it] (ItTup C it t xs) where
  shape := fun i ρ s h => by obtain ⟨⟨o, e, hc, hd⟩, _⟩ := h; exact shp_one e hc (by decide) (by decide)
  keep := fun i ρ ρ' s s' h hp hs k => by
    obtain ⟨⟨o, e, r1, r2⟩, items, n, e2, rl⟩ := h
    exact ⟨⟨o, k it (by simp) o e, r1, r2⟩, items, n, hs _ _ e2 solid_tup, rl.up hs hp⟩
  item := fun i ρ hp s x R hg h hx E N P k => by
    obtain ⟨hit, items, n, e2, rl⟩ := h
    obtain ⟨v, hv, rv⟩ := rl.get hx
    have sh : ∀ a ∈ [it], Shp s.heap a := by obtain ⟨o, e, hc, hd⟩ := id hit; exact shp_one e hc (by decide) (by decide)
    refine wpAny_pyNext_tuple_item hit ⟨_, e2, rfl, _, rfl⟩ (by simpa using hv) fun h' hit' hs => ?_
    have sd := side_same (t := s.toks) hs
    have hsol := shp_solids sh sd
    obtain ⟨o, eo, hc, hd⟩ := id hit'
    refine letOwned_no ht (s := { s with heap := h' }) eo hc (by decide) (k v _ sd ⟨hit', items, n, hsol _ _ e2 solid_tup, rl.up hsol (List.prefix_refl _)⟩ (rv.up hsol (List.prefix_refl _)))
  done := fun i ρ hp s R hg h hx E P k => by
    obtain ⟨hit, items, n, e2, rl⟩ := h
    refine wpAny_pyNext_tuple_end hn hit ⟨_, e2, rfl, _, rfl⟩ (i := i) ?_ fun h' he => ⟨rfl, k _ (side_ext (t := s.toks) he)⟩
    rw [List.getElem?_eq_none_iff] at hx
    simp [rl.length, hx]
  self := fun i ρ s h E P hp => wpAny_pyIter_tupleiter h.1 hp

noncomputable def ItRange (it : Addr) (a : Int) (k : Nat) : Nat → List Addr → Shared → Prop := fun i ρ s => IsRangeIter s.heap it (a + i) ((k : Int) - i) 1
theorem walk_range (hn : A.handled = none) {target : Expr} (ht : isTarget target = true) {it : Addr} {a : Int} {k : Nat} : Walk C A target (.ref it) ((List.range k).map (fun (i : Nat) => .int (a + i))) none [it] (ItRange it a k) where
  shape := fun i ρ s h => shp_one h rfl (by decide) (by decide)
  keep := fun i ρ ρ' s s' h hp hs k => k it (by simp) _ h
  item := fun i ρ hp s x R hg hit hx E N P kk => by
    simp only [List.getElem?_map, Option.map_eq_some_iff] at hx
    obtain ⟨j, hj, rfl⟩ := hx
    obtain ⟨hlt, hj⟩ := List.getElem?_eq_some_iff.mp hj
    simp at hj hlt; subst hj
    refine wpAny_pyNext_range_item hit (by (first | lia | omega)) fun h' hit' hs => ?_
    have sd := side_same (t := s.toks + 1) hs
    have hit'' : IsRangeIter h' it (a + ((i + 1 : Nat) : Int)) ((k : Int) - ((i + 1 : Nat) : Int)) 1 := by
      have e1 : a + ((i + 1 : Nat) : Int) = a + i + 1 := by (first | lia | omega)
      have e2 : (k : Int) - ((i + 1 : Nat) : Int) = k - i - 1 := by (first | lia | omega)
      rw [e1, e2]; exact hit'
    exact letOwned_no ht (s := { s with heap := h', toks := s.toks + 1 }) hit' rfl (by decide) (kk _ _ sd hit'' (.int _ _))
  done := fun i ρ hp s R hg hit hx E P kk => by
    have hit : IsRangeIter s.heap it (a + i) ((k : Int) - i) 1 := hit
    rw [List.getElem?_eq_none_iff] at hx
    simp at hx
    exact wpAny_pyNext_range_end hn hit (by (first | lia | omega)) fun h' he => ⟨rfl, kk _ (side_ext (t := s.toks) he)⟩
  self := fun i ρ s h E P hp => wpAny_pyIter_rangeiter h hp

noncomputable def ItEnum (e it l : Addr) (r : Nat) : Nat → List Addr → Shared → Prop :=
  fun i ρ s => (∃ old, IsEnum s.heap e it i old) ∧ s.heap.IsListIter it l i ∧ ρ[r]? = some l
theorem shp_two {h' : Heap} {e it l : Addr} {i : Nat} {j : Int} {old : Value} (h1 : IsEnum h' e it j old) (h2 : h'.IsListIter it l i) : ∀ a ∈ [e, it], Shp h' a := by
  intro a ha
  have : a = e ∨ a = it := by simpa using ha
  rcases this with rfl | rfl
  · exact shp_one h1 rfl (by decide) (by decide) a (by simp)
  · obtain ⟨o, e1, e2, e3⟩ := h2
    exact shp_one e1 e2 (by decide) (by decide) a (by simp)
theorem walk_enum (hn : A.handled = none) {elts : List Expr} {x1} {pos : Pos} {e it l : Addr} {r : Nat} {xs : List MV} (hne : e ≠ it) : Walk C A (.Tuple elts x1 pos) (.ref e) (xs.zipIdx.map (fun p => .tup [.int p.2, p.1])) (some (r, xs)) [e, it] (ItEnum e it l r) where
  shape := fun i ρ s h => by obtain ⟨⟨old, h1⟩, h2, _⟩ := h; exact shp_two h1 h2
  keep := fun i ρ ρ' s s' h hp hs k => by
    obtain ⟨⟨old, h1⟩, ⟨o, e', r1, r2⟩, e2⟩ := h
    exact ⟨⟨old, k e (by simp) _ h1⟩, ⟨o, k it (by simp) o e', r1, r2⟩, pre_get hp e2⟩
  item := fun i ρ hp s x R hg h hx E N P kk => by
    obtain ⟨⟨old, h1⟩, hit, e2⟩ := h
    have sh := shp_two h1 hit
    obtain ⟨items, c, gi, rl, z⟩ := R.objs _ _ _ hg e2
    simp only [List.getElem?_map, Option.map_eq_some_iff] at hx
    obtain ⟨⟨y, j⟩, hj, rfl⟩ := hx
    rw [List.getElem?_zipIdx] at hj
    simp only [Option.map_eq_some_iff, Nat.zero_add] at hj
    obtain ⟨y', hy, hj⟩ := hj
    cases hj
    obtain ⟨v, hv, rv⟩ := rl.get hy
    refine wpAny_pyNext_enum_item h1 hit ⟨_, gi, rfl, _, rfl⟩ (by simpa using hv) hne fun h' he hit' ht hsz hk => ?_
    refine wpAny_letOwnedTupleGo_enum (s := { s with heap := h', toks := s.toks + 1 }) he fun h2 he2 hs2 => ?_
    have hlt : s.heap.objs.size ≠ e := fun q => absurd (Heap.lt_size h1) (by rw [← q]; exact Nat.lt_irrefl _)
    have ht2 : h2.get? s.heap.objs.size = some (tupO [.int i s.toks, v] 0) := (hs2.2 _ hlt).trans ht
    have hit2 : h2.IsListIter it l (i + 1) := by
      obtain ⟨o, e1, r⟩ := hit'
      exact ⟨o, (hs2.2 it (fun q => hne q.symm)).trans e1, r⟩
    have sd : Side [e, it] s { s with heap := h2, toks := s.toks + 1 } := ⟨fun b o hb eb => by
      simp at hb
      exact (hs2.2 b hb.1).trans (hk b o hb.1 hb.2 eb), rfl, rfl⟩
    refine kk _ _ sd ⟨⟨v, ?_⟩, hit2, e2⟩ (.tup ht2 (.cons (.int _ _) (.cons (rv.up (shp_solids sh sd) (List.prefix_refl _)) .nil)) (by unfold line; simp))
    have : (((i + 1 : Nat)) : Int) = (i : Int) + 1 := by (first | lia | omega)
    rw [this]; exact he2
  done := fun i ρ hp s R hg h hx E P kk => by
    obtain ⟨⟨old, h1⟩, hit, e2⟩ := h
    obtain ⟨items, c, gi, rl, z⟩ := R.objs _ _ _ hg e2
    rw [List.getElem?_eq_none_iff] at hx
    simp at hx
    refine wpAny_pyNext_enum_end hn h1 hit ⟨_, gi, rfl, _, rfl⟩ (by simp [rl.length, hx]) fun h' he => ⟨rfl, kk _ ⟨fun b o hb eb => he b o (by simp at hb; exact hb.2) eb, rfl, rfl⟩⟩
  self := fun i ρ s h E P hp => by obtain ⟨⟨old, h1⟩, _⟩ := h; exact wpAny_pyIter_enum h1 hp

noncomputable def ItStr (it : Addr) (x : List Nat) (t : Tok) : Nat → List Addr → Shared → Prop := fun i ρ s => s.heap.IsStrIter it "str_ascii_iterator" (str x) t i
theorem walk_str (hn : A.handled = none) {target : Expr} (ht : isTarget target = true) {it : Addr} {x : List Nat} {t : Tok} : Walk C A target (.ref it) (x.map (fun c => .str [c])) none [it] (ItStr it x t) where
  shape := fun i ρ s h => by obtain ⟨o, e, hc, hd⟩ := h; exact shp_one e hc (by decide) (by decide)
  keep := fun i ρ ρ' s s' h hp hs k => by
    obtain ⟨o, e, r⟩ := h
    exact ⟨o, k it (by simp) _ e, r⟩
  item := fun i ρ hp s y R hg hit hx E N P kk => by
    simp only [List.getElem?_map, Option.map_eq_some_iff] at hx
    obtain ⟨j, hj, rfl⟩ := hx
    refine wpAny_pyNext_ascii_item hit (c := j) (by simpa using hj) fun h' hit' hs => ?_
    have sd := side_same (t := s.toks + 1) hs
    obtain ⟨o, eo, hc, hd⟩ := id hit'
    exact letOwned_no ht (s := { s with heap := h', toks := s.toks + 1 }) eo hc (by decide) (kk _ _ sd hit' (.str [j] _ (by unfold line; simp)))
  done := fun i ρ hp s R hg hit hx E P kk => by
    rw [List.getElem?_eq_none_iff] at hx
    simp at hx
    exact wpAny_pyNext_ascii_end hn hit (by simp [hx]) fun h' he => ⟨rfl, kk _ (side_ext (t := s.toks) he)⟩
  self := fun i ρ s h E P hp => wpAny_pyIter_striter_ascii h hp
end
end Mine
end
section
set_option autoImplicit false
set_option linter.unusedVariables false
set_option tactic.hygienic false
namespace Mine
open PySem PyProof.Rows

noncomputable def SV (C : Glo) (X : XM) (n : Nat) (c : Cx) (F : Fm) (me : ME) : Prop :=
  ∀ (e : Expr), chkE c me e = true → ∀ (Q : PQ) (m : MS), wpE (Call C) n me Q X m → WPv C F X (eval e F.env) Q m

section
variable {C : Glo} {F : Fm} {X : XM} {c : Cx} {n : Nat} {ρ ρ' ρ₀ : List Addr} {m : MS} {s s' s₀ : Shared} {A : Around} {E : Value → Shared → Prop}

theorem chkT_target {t : List Nat} {many : Bool} {e : Expr} (h : chkT c t many e = true) : isTarget e = true := by
  unfold isTarget
  cases many with
  | false => obtain ⟨x, hx, _⟩ := onSome_true h; rw [hx]; rfl
  | true => obtain ⟨x, hx, _⟩ := onSome_true h; rw [hx]; exact Bool.or_true _
theorem chkT_many {t : List Nat} {e : Expr} (h : chkT c t true e = true) : ∃ elts k p, e = .Tuple elts k p ∧ chkNames c t elts = true := by
  obtain ⟨elts, hx, h⟩ := onSome_true h
  obtain ⟨k, p, e⟩ := xTup_eq hx
  exact ⟨elts, k, p, e, h⟩
theorem chkT_one {t : List Nat} {e : Expr} (h : chkT c t false e = true) : ∃ i x p, t = [i] ∧ e = .Name x p ∧ c.nm i = some x ∧ setOk c x = true := by
  obtain ⟨x, hx, h⟩ := onSome_true h
  obtain ⟨i, hi, h⟩ := onSome_true h
  obtain ⟨p, e⟩ := xName_eq hx
  rw [Bool.and_eq_true, beq_iff_eq] at h
  exact ⟨i, x, p, one_eq hi, e, h.1, h.2⟩

noncomputable def OutI (C : Glo) (F : Fm) (target : Expr) (ρ : List Addr) (s : Shared) (P : List MV → Option (Nat × List MV) → MS → Prop) : Value → Shared → Prop :=
  fun itv s₂ => ∃ ρ₂ m₂ items g S It, Step F.W ρ s ρ₂ s₂ ∧ Rel C F ρ₂ m₂ s₂ ∧ Walk C F.A target itv items g S It ∧ It 0 ρ₂ s₂ ∧ Aside C F ρ₂ s₂.heap S ∧ (∀ a ∈ S, s.heap.get? a = none) ∧ items.length ≤ line ∧ P items g m₂

theorem none_back {W : List Addr} (st : Step W ρ s ρ' s') {a : Addr} (h : s'.heap.get? a = none) : s.heap.get? a = none := by
  cases e : s.heap.get? a with
  | none => rfl
  | some o => obtain ⟨o', e'⟩ := st.alive a o e; rw [h] at e'; cases e'

theorem outI {target : Expr} {P : List MV → Option (Nat × List MV) → MS → Prop} {o : Obj} {items : List MV} {g : Option (Nat × List MV)} {It : Nat → List Addr → Shared → Prop} {T : String} (cx : CxOk C c F n) (R : Rel C F ρ m s) (st₀ : Step F.W ρ₀ s₀ ρ s)
    (hc : o.cls = .type T) (hT : T ≠ "tuple") (hF : T ≠ "frame") (hf : o.isFreed = false) (wk : Walk C F.A target (.ref s.heap.objs.size) items g [s.heap.objs.size] It) (h0 : ∀ s₂ : Shared, s₂.heap = s.heap.push o → It 0 ρ s₂) (hl : items.length ≤ line) (hp : P items g m) {tk : Nat} :
    OutI C F target ρ₀ s₀ P (.ref s.heap.objs.size) { s with heap := s.heap.push o, toks := tk } := by
  have hk : ∀ q ob, s.heap.get? q = some ob → (s.heap.push o).get? q = some ob := fun q ob e => Heap.get?_push_of_some _ e
  obtain ⟨R', st⟩ := R.grow (s' := { s with heap := s.heap.push o, toks := tk }) cx.fm hk rfl rfl
  have hnew : s.heap.get? s.heap.objs.size = none := fresh_at (Nat.le_refl _)
  refine ⟨ρ, m, items, g, _, It, st₀.trans st, R', wk, h0 _ rfl, ?_, fun q hq => ?_, hl, hp⟩
  · intro q hq
    have : q = s.heap.objs.size := by simpa using hq
    subst this
    exact aside_new R hnew (Heap.get?_push_size _ hf) (not_solid_fields hc hT) (by rw [hc]; intro q; cases q; exact hF rfl)
  · have : q = s.heap.objs.size := by simpa using hq
    subst this
    exact none_back st₀ hnew

theorem range_it (cx : CxOk C c F n) (R : Rel C F ρ m s) (st₀ : Step F.W ρ₀ s₀ ρ s) {target : Expr} (ht : isTarget target = true) {a b : Int} {r : Addr} {t u v : Tok} (hr : IsRange s.heap r a b 1 t u v)
    (h1 : -16777216 ≤ a) (h2 : a ≤ 16777216) (h3 : -16777216 ≤ b) (h4 : b ≤ 16777216) (h5 : (b - a).toNat ≤ line) {P : List MV → Option (Nat × List MV) → MS → Prop} (h : P ((List.range (b - a).toNat).map (fun (i : Nat) => .int (a + i))) none m) :
    wpAny (mod C) A (pyIter (.ref r)) (OutI C F target ρ₀ s₀ P) E s := by
  refine wpAny_pyIter_range hr (small_one (by (first | lia | omega)) (by (first | lia | omega)) (by (first | lia | omega)) (by (first | lia | omega))) ?_
  refine outI cx R st₀ (T := "range_iterator") rfl (by decide) (by decide) rfl (walk_range (a := a) (k := (b - a).toNat) cx.fm.hn ht) (fun s₂ e => ?_) (by simpa using h5) h
  have e1 : a + ((0 : Nat) : Int) = a := by (first | lia | omega)
  have e2 : (((b - a).toNat : Nat) : Int) - ((0 : Nat) : Int) = Builtin.Range.rangeSize a b 1 := by rw [rangeSize_one]; split <;> (first | lia | omega)
  show IsRangeIter _ _ _ _ _
  rw [e1, e2, e]
  exact Heap.get?_push_size _ rfl

theorem and_t {a b : Bool} (h : (a && b) = true) : a = true ∧ b = true := by rwa [Bool.and_eq_true] at h
theorem chkEs_cons {e : ME} {es : List ME} {x : Expr} {xs : List Expr} (h : chkEs c (e :: es) (x :: xs) = true) : (okX x = true ∧ chkE c e x = true) ∧ chkEs c es xs = true := by
  have h : (okX x && chkE c e x && chkEs c es xs) = true := h
  rwa [Bool.and_eq_true, Bool.and_eq_true] at h
theorem one_of {src : List ME} {y : Expr} (h : chkEs c src [y] = true) : ∃ a, src = [a] ∧ okX y = true ∧ chkE c a y = true := by
  cases src with
  | nil => cases h
  | cons a r =>
    have h := chkEs_cons h
    cases r with
    | nil => exact ⟨a, rfl, h.1⟩
    | cons => cases h.2
theorem two_of {src : List ME} {y z : Expr} (h : chkEs c src [y, z] = true) : ∃ a b, src = [a, b] ∧ (okX y = true ∧ chkE c a y = true) ∧ okX z = true ∧ chkE c b z = true := by
  cases src with
  | nil => cases h
  | cons a r =>
    have h := chkEs_cons h
    obtain ⟨b, rfl, hb⟩ := one_of h.2
    exact ⟨a, b, rfl, h.1, hb⟩

theorem svEs (G : GOk C) (cx : CxOk C c F n) : ∀ {es : List ME}, (∀ a ∈ es, SV C X n c F a) → ∀ (xs : List Expr), chkEs c es xs = true → ∀ (Q : List MV → MS → Prop) (m : MS), wpEs (Call C) n es Q X m → ∀ pos, WPl C F X es.length (spliced (backTo pos (starEach xs F.env))) Q m
  | [], ih, xs, hc, Q, m, h, pos => by
    cases xs with
    | nil => intro s ρ R; exact wpAny_items_nil ⟨_, _, _, .refl _ _ _, R, .nil, rfl, h⟩
    | cons => cases hc
  | e :: es, ih, xs, hc, Q, m, h, pos => by
    cases xs with
    | nil => cases hc
    | cons x xs =>
      obtain ⟨⟨hx, he⟩, hes⟩ := chkEs_cons hc
      intro s ρ R
      refine wpAny_items_cons ((ih e (by simp) x he _ m h).go R (.refl _ _ _) fun ρ₁ s₁ m₁ x v st t1 R₁ rx h₁ => ?_) (okX_star hx _ _)
      refine (svEs G cx (fun a ha => ih a (List.mem_cons_of_mem _ ha)) xs hes _ m₁ h₁ pos).go R₁ t1 fun ρ₂ s₂ m₂ ys vs st2 t2 R₂ rl el h₂ => ?_
      exact ⟨_, _, _, t2, R₂, .cons (rx.step st2) rl, by simp [el], h₂⟩

theorem okX_first {es : List ME} {xs : List Expr} (h : chkEs c es xs = true) (hn : xs.isEmpty = false) (pos : Pos) (env : Env) : backTo pos (starEach xs env) ≠ [] := by
  cases xs with
  | nil => cases hn
  | cons x xs =>
    cases es with
    | nil => cases h
    | cons e es =>
      rw [okX_star (chkEs_cons h).1.1]
      exact List.cons_ne_nil _ _

set_option tactic.hygienic true in
theorem heap_list {hp : List MO} {r : Nat} {f : List MV → Its} {q : List MV × Option (Nat × List MV)} (h : (match hp[r]? with
    | some (.list xs) => f xs
    | _ => none) = some q) : ∃ xs, hp[r]? = some (.list xs) ∧ f xs = some q := by
  split at h
  · rename_i xs e; exact ⟨xs, e, h⟩
  · cases h
theorem when_some {α : Type} {b : Bool} {x y : α} (h : (match b with
    | true => some x
    | false => none) = some y) : b = true ∧ x = y := by
  cases b with
  | true => exact ⟨rfl, Option.some.inj h⟩
  | false => cases h
theorem itVal_ok (cx : CxOk C c F n) (R : Rel C F ρ m s) (st₀ : Step F.W ρ₀ s₀ ρ s) {target : Expr} (ht : isTarget target = true) {x : MV} {v : Value} (rx : Rep C ρ s.heap x v) {items : List MV} {g : Option (Nat × List MV)} (hi : itVal m.heap x = some (items, g))
    {P : List MV → Option (Nat × List MV) → MS → Prop} (h : P items g m) : wpAny (mod C) A (pyIter v) (OutI C F target ρ₀ s₀ P) E s := by
  cases rx with
  | @ref r la gr =>
    obtain ⟨xs, hj, e⟩ := heap_list (r := r) (f := fun xs => some (xs, some (r, xs))) hi
    cases e
    obtain ⟨items, n', gi, rl, z⟩ := R.hp.objs _ _ _ hj gr
    refine wpAny_pyIter_list ⟨_, gi, rfl, _, rfl⟩ ?_
    exact outI cx R st₀ (T := "list_iterator") rfl (by decide) (by decide) rfl (walk_list cx.fm.hn ht) (fun s₂ e => ⟨⟨_, by rw [e]; exact Heap.get?_push_size _ rfl, rfl, rfl⟩, gr⟩) z h
  | @tup ta _ _ _ gi rl z =>
    cases hi
    refine wpAny_pyIter_tuple ⟨_, gi, rfl, _, rfl⟩ ?_
    have hk : ∀ q ob, s.heap.get? q = some ob → (s.heap.push { cls := .type "tuple_iterator", data := .fields #[.ref ta, .int 0 0] }).get? q = some ob := fun q o e => Heap.get?_push_of_some _ e
    exact outI cx R st₀ (T := "tuple_iterator") rfl (by decide) (by decide) rfl (walk_tup cx.fm.hn ht) (fun s₂ e => ⟨⟨_, by rw [e]; exact Heap.get?_push_size _ rfl, rfl, rfl⟩, _, _, by rw [e]; exact hk _ _ gi, by rw [e]; exact rl.up (fun a o e _ => hk a o e) (List.prefix_refl _)⟩) z h
  | str y u z =>
    obtain ⟨ha, e⟩ := when_some hi
    cases e
    refine wpAny_pyIter_ascii (by rw [← ha]; simp) ?_
    exact outI cx R st₀ (T := "str_ascii_iterator") rfl (by decide) (by decide) rfl (walk_str cx.fm.hn ht) (fun s₂ e => ⟨_, by rw [e]; exact Heap.get?_push_size _ rfl, rfl, rfl⟩) (by simpa using z) h
  | _ => cases hi

noncomputable def itType : IK → Value
  | .enum => .type "enumerate"
  | _ => .type "range"
theorem itR1_ok (cx : CxOk C c F n) (R : Rel C F ρ m s) (st₀ : Step F.W ρ₀ s₀ ρ s) {target : Expr} (ht : isTarget target = true) {x : MV} {v : Value} (rx : Rep C ρ s.heap x v) {items : List MV} {g : Option (Nat × List MV)} (hi : itR1 x = some (items, g))
    {P : List MV → Option (Nat × List MV) → MS → Prop} (h : P items g m) : wpAny (mod C) A (call (.type "range") [v]) (fun xv s₁ => wpAny (mod C) A (pyIter xv) (OutI C F target ρ₀ s₀ P) E s₁) E s := by
  cases rx with
  | int i t =>
    obtain ⟨hd, e⟩ := when_some hi
    cases e
    have hd := of_decide_eq_true hd
    refine call_range_1 ?_
    have hk : ∀ q o, s.heap.get? q = some o → (s.heap.push { cls := .type "range", data := .fields #[.int 0 s.toks, .int i t, .int 1 (s.toks + 1)] }).get? q = some o := fun q o e => Heap.get?_push_of_some _ e
    obtain ⟨R', st'⟩ := R.grow (s' := { s with heap := s.heap.push { cls := .type "range", data := .fields #[.int 0 s.toks, .int i t, .int 1 (s.toks + 1)] }, toks := s.toks + 1 + 1 }) cx.fm hk rfl rfl
    refine range_it cx R' (st₀.trans st') ht (IsRange.new _ _ _ _ _ _ _) (by decide) (by decide) hd.1 hd.2 (by unfold line; (first | lia | omega)) ?_
    simpa using h
  | _ => cases hi
theorem itR2_ok (cx : CxOk C c F n) (R : Rel C F ρ m s) (st₀ : Step F.W ρ₀ s₀ ρ s) {target : Expr} (ht : isTarget target = true) {x y : MV} {v w : Value} (rx : Rep C ρ s.heap x v) (ry : Rep C ρ s.heap y w) {items : List MV} {g : Option (Nat × List MV)} (hi : itR2 x y = some (items, g))
    {P : List MV → Option (Nat × List MV) → MS → Prop} (h : P items g m) : wpAny (mod C) A (call (.type "range") [v, w]) (fun xv s₁ => wpAny (mod C) A (pyIter xv) (OutI C F target ρ₀ s₀ P) E s₁) E s := by
  cases rx with
  | int i t =>
    cases ry with
    | int j t' =>
      obtain ⟨hd, e⟩ := when_some hi
      cases e
      have hd := of_decide_eq_true hd
      refine call_range_2 ?_
      have hk : ∀ q o, s.heap.get? q = some o → (s.heap.push { cls := .type "range", data := .fields #[.int i t, .int j t', .int 1 s.toks] }).get? q = some o := fun q o e => Heap.get?_push_of_some _ e
      obtain ⟨R', st'⟩ := R.grow (s' := { s with heap := s.heap.push { cls := .type "range", data := .fields #[.int i t, .int j t', .int 1 s.toks] }, toks := s.toks + 1 }) cx.fm hk rfl rfl
      exact range_it cx R' (st₀.trans st') ht (IsRange.new _ _ _ _ _ _ _) (Int.le_trans (by decide) hd.1.1) hd.1.2 (Int.le_trans (by decide) hd.2.1) hd.2.2 (by unfold line; (first | lia | omega)) h
    | _ => cases hi
  | _ => cases hi
theorem itEnum_ok (cx : CxOk C c F n) (R : Rel C F ρ m s) (st₀ : Step F.W ρ₀ s₀ ρ s) {elts : List Expr} {k' : Nat} {p' : Pos} {x : MV} {v : Value} (rx : Rep C ρ s.heap x v) {items : List MV} {g : Option (Nat × List MV)} (hi : itEnum m.heap x = some (items, g))
    {P : List MV → Option (Nat × List MV) → MS → Prop} (h : P items g m) : wpAny (mod C) A (call (.type "enumerate") [v]) (fun xv s₁ => wpAny (mod C) A (pyIter xv) (OutI C F (.Tuple elts k' p') ρ₀ s₀ P) E s₁) E s := by
  have hnew : s.heap.get? s.heap.objs.size = none := fresh_at (Nat.le_refl _)
  have hnew' : s.heap.get? (s.heap.objs.size + 1) = none := fresh_at (Nat.le_succ _)
  cases rx with
  | @ref r la gr =>
    obtain ⟨xs, hj, e⟩ := heap_list (r := r) (f := fun xs => some (xs.zipIdx.map (fun (p : MV × Nat) => .tup [.int p.2, p.1]), some (r, xs))) hi
    cases e
    obtain ⟨items, n', gi, rl, z⟩ := R.hp.objs _ _ _ hj gr
    refine call_enumerate_1 gi fun h' he hit hsz hk => ?_
    obtain ⟨R', st'⟩ := R.grow (s' := { s with heap := h' }) cx.fm hk rfl rfl
    refine wpAny_pyIter_enum he ?_
    have hne : s.heap.objs.size + 1 ≠ s.heap.objs.size := Nat.succ_ne_self _
    have hmem : ∀ q ∈ [s.heap.objs.size + 1, s.heap.objs.size], s.heap.get? q = none := fun q hq => by
      rcases List.mem_cons.mp hq with rfl | hq
      · exact hnew'
      · rw [List.mem_singleton.mp hq]; exact hnew
    refine ⟨ρ, m, _, _, _, _, st₀.trans st', R', walk_enum (e := s.heap.objs.size + 1) (it := s.heap.objs.size) cx.fm.hn hne, ⟨⟨_, he⟩, hit, gr⟩, fun q hq => ?_, fun q hq => none_back st₀ (hmem q hq), by simpa using z, h⟩
    obtain ⟨o, e1, e2, e3⟩ := shp_two he hit q hq
    exact aside_new R (hmem q hq) e1 e2 e3
  | _ => cases hi

theorem itMade_ok (cx : CxOk C c F n) (R : Rel C F ρ m s) (st₀ : Step F.W ρ₀ s₀ ρ s) {k : IK} (hk : isVal k = false) {target : Expr} (ht : isTarget target = true) (hm : isEnum k = true → ∃ elts k p, target = .Tuple elts k p ∧ True) {xs : List MV} {vs : List Value} (rl : RepL C ρ s.heap xs vs) {items : List MV} {g : Option (Nat × List MV)}
    (hi : iterOf k xs m.heap = some (items, g)) {P : List MV → Option (Nat × List MV) → MS → Prop} (h : P items g m) : wpAny (mod C) A (call (itType k) vs) (fun xv s₁ => wpAny (mod C) A (pyIter xv) (OutI C F target ρ₀ s₀ P) E s₁) E s := by
  cases rl with
  | nil => cases hi
  | cons rx rn =>
    cases rn with
    | nil =>
      cases k with
      | val => cases hk
      | range1 => exact itR1_ok cx R st₀ ht rx hi h
      | range2 => cases hi
      | enum => obtain ⟨_, _, _, rfl, _⟩ := hm rfl; exact itEnum_ok cx R st₀ rx hi h
    | cons ry rm =>
      cases rm with
      | nil =>
        cases k with
        | range2 => exact itR2_ok cx R st₀ ht rx ry hi h
        | _ => cases hi
      | cons => cases hi

theorem iter_inv {o : Its} {P : List MV → Option (Nat × List MV) → Prop} (h : match o with
      | some (items, g) => P items g
      | none => False) : ∃ items g, o = some (items, g) ∧ P items g := by
  cases o with
  | none => exact h.elim
  | some q => exact ⟨q.1, q.2, rfl, h⟩
theorem it_mem {k : IK} (hk : isVal k = false) : (itName k, itType k) ∈ bltNames := by
  cases k with
  | val => cases hk
  | range1 => exact at_mem 8 rfl
  | range2 => exact at_mem 8 rfl
  | enum => exact at_mem 9 rfl
theorem it_type (k : IK) : ∃ T, itType k = .type T := by
  cases k <;> exact ⟨_, rfl⟩
set_option tactic.hygienic true in
theorem soundIt (G : GOk C) (cx : CxOk C c F n) {k : IK} {src : List ME} {e target : Expr} (hsrc : ∀ a ∈ src, SV C X n c F a) {xs : List Expr} (hxs : itArgs c k e = some xs) (hc : chkEs c src xs = true) (htt : isTarget target = true)
    (hm : isEnum k = true → ∃ elts k p, target = .Tuple elts k p ∧ True)
    {P : List MV → Option (Nat × List MV) → MS → Prop} (h : wpEs (Call C) n src (fun vs m => match iterOf k vs m.heap with
      | some (items, g) => P items g m
      | none => False) X m) (R : Rel C F ρ m s) :
    wpAny (mod C) F.A (eval e F.env) (fun xv s₁ => wpAny (mod C) F.A (pyIter xv) (OutI C F target ρ s P) (Er C F X ρ s) s₁) (Er C F X ρ s) s := by
  unfold itArgs at hxs
  cases hv : isVal k with
  | true =>
    have hk : k = .val := by cases k <;> first | rfl | cases hv
    subst hk
    cases hxs
    obtain ⟨a, rfl, hx, hc⟩ := one_of hc
    refine (hsrc a (.head _) e hc _ m h).go R (.refl _ _ _) fun ρ₁ s₁ m₁ x v st t1 R₁ rx h₁ => ?_
    obtain ⟨items, g, hi, hp⟩ := iter_inv h₁
    exact itVal_ok cx R₁ t1 htt rx hi hp
  | false =>
    rw [hv] at hxs
    obtain ⟨⟨x, ys, pos⟩, hx, hq⟩ := Option.bind_eq_some_iff.mp hxs
    obtain ⟨px, rfl⟩ := xFn_eq hx
    split at hq
    · rename_i hg
      cases hq
      simp only [Bool.and_eq_true, beq_iff_eq, Bool.not_eq_true'] at hg
      obtain ⟨⟨hg, rfl⟩, hne⟩ := hg
      refine PyProof.Rows.Call_Name rfl (load_blt cx R (it_mem hv) (glName_ok hg).1 (glName_ok hg).2 ?_)
      refine call_args (.inr (it_type k)) (trees_plain hc _ _) (okX_first hc hne _ _) ?_
      refine (svEs G cx hsrc _ hc _ m h pos).go R (.refl _ _ _) fun ρ₁ s₁ m₁ xs vs st t1 R₁ rl el h₁ => ?_
      obtain ⟨items, g, hi, hp⟩ := iter_inv h₁
      exact itMade_ok cx R₁ t1 hv htt hm rl hi hp
    · cases hq
end
end Mine
end
section
set_option autoImplicit false
set_option linter.unusedVariables false
set_option tactic.hygienic false
namespace Mine
open PySem PyProof.Rows

section
variable {C : Glo} {F : Fm} {X : XM} {c : Cx} {n : Nat}

theorem ofBool_inv {Q : Bool → MS → Prop} {x : MV} {m : MS} (h : ofBool Q x m) : ∃ b, x = .bool b ∧ Q b m := by
  cases x with
  | bool b => exact ⟨b, rfl, h⟩
  | _ => exact h.elim
theorem var_inv {K : KT} {i : Nat} {Q : PQ} {m : MS} (h : wpE K n (.var i) Q X m) : ∃ v, m.get i = some v ∧ Q v m := by
  have h : (match m.get i with | some v => Q v m | none => False) := h
  cases hv : m.get i with
  | some v => rw [hv] at h; exact ⟨v, rfl, h⟩
  | none => rw [hv] at h; exact h.elim
theorem svO (G : GOk C) (cx : CxOk C c F n) : ∀ {o : Option ME}, (∀ a, o = some a → SV C X n c F a) → ∀ (x : Option Expr), chkO c o x = true → ∀ (Q : Option MV → MS → Prop) (m : MS), wpO (Call C) n o Q X m → ∀ (s : Shared) (ρ : List Addr), Rel C F ρ m s →
    ∀ (s₀ : Shared) (ρ₀ : List Addr) (P : Value → Shared → Prop), Step F.W ρ₀ s₀ ρ s → (∀ ρ₁ s₁ m₁ x v, Step F.W ρ s ρ₁ s₁ → Step F.W ρ₀ s₀ ρ₁ s₁ → Rel C F ρ₁ m₁ s₁ → PartRep C ρ₁ s₁.heap x v → Q x m₁ → P v s₁) →
      wpAny (mod C) F.A (evalPart x F.env) P (Er C F X ρ₀ s₀) s
  | none, ih, x, hc, Q, m, h, s, ρ, R, s₀, ρ₀, P, st, k => by
    cases x with
    | none => rw [evalPart_none]; exact wpAny_pure (k ρ s m none .none (.refl _ _ _) st R rfl h)
    | some => cases hc
  | some e, ih, x, hc, Q, m, h, s, ρ, R, s₀, ρ₀, P, st, k => by
    cases x with
    | some x =>
      rw [evalPart_some]
      exact (ih e rfl _ hc _ m h).go R st fun ρ₁ s₁ m₁ x v st1 t1 R₁ rx h₁ => k ρ₁ s₁ m₁ (some x) v st1 t1 R₁ rx h₁
    | none => cases hc

theorem svAnd (G : GOk C) (cx : CxOk C c F n) : ∀ {es : List ME}, (∀ a ∈ es, SV C X n c F a) → ∀ (xs : List Expr), chkEs c es xs = true → ∀ (Q : PQ) (m : MS), wpAnd (Call C) n es Q X m → ∀ pos, WPv C F X (boolOp pos .And (evalEach xs F.env)) Q m
  | [], ih, xs, hc, Q, m, h, pos => h.elim
  | [e], ih, xs, hc, Q, m, h, pos => by
    cases xs with
    | nil => cases hc
    | cons x xs =>
      replace hc := chkEs_cons hc
      cases xs with
      | nil => exact ih e (by simp) x hc.1.2 Q m h
      | cons => cases hc.2
  | e :: e' :: es, ih, xs, hc, Q, m, h, pos => by
    cases xs with
    | nil => cases hc
    | cons x xs =>
      replace hc := chkEs_cons hc
      cases xs with
      | nil => cases hc.2
      | cons x' xs =>
        intro s ρ R
        show wpAny (mod C) F.A (do let v ← eval x F.env; standAt pos; let t ← holding [v] (truthy v); match BoolOp.And, t with | .And, false | .Or, true => pure v | _, _ => boolOp pos .And (evalEach (x' :: xs) F.env)) _ _ s
        refine wpAny_bind ((ih e (by simp) x hc.1.2 _ m h).go R (.refl _ _ _) fun ρ₁ s₁ m₁ y v st t1 R₁ rx h₁ => ?_)
        obtain ⟨b, rfl, h₁⟩ := ofBool_inv h₁
        · cases rx
          refine wpAny_bind (wpAny_standAt (wpAny_bind (wpAny_holding (wpAny_truthy_bool ?_))))
          cases b with
          | true => exact wpAny_mono (svAnd G cx (fun a ha => ih a (List.mem_cons_of_mem _ ha)) (x' :: xs) hc.2 Q m₁ h₁ pos s₁ ρ₁ R₁) (Out.back t1) (Er.back t1)
          | false => exact wpAny_pure (Out.back t1 _ _ (outSame R₁ (.bool _) h₁))

theorem svOr (G : GOk C) (cx : CxOk C c F n) : ∀ {es : List ME}, (∀ a ∈ es, SV C X n c F a) → ∀ (xs : List Expr), chkEs c es xs = true → ∀ (Q : PQ) (m : MS), wpOr (Call C) n es Q X m → ∀ pos, WPv C F X (boolOp pos .Or (evalEach xs F.env)) Q m
  | [], ih, xs, hc, Q, m, h, pos => h.elim
  | [e], ih, xs, hc, Q, m, h, pos => by
    cases xs with
    | nil => cases hc
    | cons x xs =>
      replace hc := chkEs_cons hc
      cases xs with
      | nil => exact ih e (by simp) x hc.1.2 Q m h
      | cons => cases hc.2
  | e :: e' :: es, ih, xs, hc, Q, m, h, pos => by
    cases xs with
    | nil => cases hc
    | cons x xs =>
      replace hc := chkEs_cons hc
      cases xs with
      | nil => cases hc.2
      | cons x' xs =>
        intro s ρ R
        show wpAny (mod C) F.A (do let v ← eval x F.env; standAt pos; let t ← holding [v] (truthy v); match BoolOp.Or, t with | .And, false | .Or, true => pure v | _, _ => boolOp pos .Or (evalEach (x' :: xs) F.env)) _ _ s
        refine wpAny_bind ((ih e (by simp) x hc.1.2 _ m h).go R (.refl _ _ _) fun ρ₁ s₁ m₁ y v st t1 R₁ rx h₁ => ?_)
        obtain ⟨b, rfl, h₁⟩ := ofBool_inv h₁
        · cases rx
          refine wpAny_bind (wpAny_standAt (wpAny_bind (wpAny_holding (wpAny_truthy_bool ?_))))
          cases b with
          | false => exact wpAny_mono (svOr G cx (fun a ha => ih a (List.mem_cons_of_mem _ ha)) (x' :: xs) hc.2 Q m₁ h₁ pos s₁ ρ₁ R₁) (Out.back t1) (Er.back t1)
          | true => exact wpAny_pure (Out.back t1 _ _ (outSame R₁ (.bool _) h₁))

theorem sv_cst (G : GOk C) (cx : CxOk C c F n) {v : MV}  : SV C X n c F (.cst v) := by
  intro e hc Q m h
  replace hc := onSome_true hc
  obtain ⟨k, hx, hc⟩ := hc
  obtain ⟨_, _, rfl⟩ := xConst_eq hx
  intro s ρ R; exact const_ok R cx.fm hc h

theorem sv_var (G : GOk C) (cx : CxOk C c F n) {i : Nat}  : SV C X n c F (.var i) := by
  intro e hc Q m h
  replace hc := onSome_true hc
  obtain ⟨x, hx, hc⟩ := hc
  obtain ⟨_, rfl⟩ := xName_eq hx
  simp only [Bool.and_eq_true, beq_iff_eq, Bool.not_eq_true'] at hc
  obtain ⟨v, hv, h⟩ := var_inv h
  intro s ρ R; exact load_var cx R hc.1 hv hc.2 h

theorem sv_glob (G : GOk C) (cx : CxOk C c F n) {g : Nat} {v : MV}  : SV C X n c F (.glob g v) := by
  intro e hc Q m h
  replace hc := onSome_true hc
  obtain ⟨x, hx, hc⟩ := hc
  obtain ⟨_, rfl⟩ := xName_eq hx
  simp only [Bool.and_eq_true] at hc
  obtain ⟨h1, h2⟩ := hc
  unfold chkG at h2
  replace h2 := onSome_true h2
  obtain ⟨⟨y, w⟩, hg, h2⟩ := h2
  rw [Bool.and_eq_true] at h2
  obtain ⟨h3, h4⟩ := h2
  obtain ⟨a, ha, h4⟩ := onSome_true h4
  cases eq_of_beq h3
  have e : v = w := (mvC_back (eq_of_beq h4)).trans (mvC_back ha).symm
  subst e
  intro s ρ R; exact load_gl cx R hg (glName_ok h1).1 (glName_ok h1).2 h

theorem sv_bin (G : GOk C) (cx : CxOk C c F n) {op : Op} {a : ME} {b : ME} (ia : SV C X n c F a) (ib : SV C X n c F b) : SV C X n c F (.bin op a b) := by
  intro e hc Q m h
  replace hc := onSome_true hc
  obtain ⟨⟨l, o, r⟩, hx, hc⟩ := hc
  obtain ⟨p, rfl⟩ := xBin_eq hx
  simp only [Bool.and_eq_true, beq_iff_eq] at hc
  obtain ⟨⟨rfl, ha⟩, hb⟩ := hc
  intro s ρ R
  refine wpAny_BinOp ((ia l ha _ m h).go R (.refl _ _ _) fun ρ₁ s₁ m₁ x v st t1 R₁ rx h₁ => ?_)
  refine (ib r hb _ m₁ h₁).go R₁ t1 fun ρ₂ s₂ m₂ y w st' t2 R₂ ry h₂ => ?_
  exact wpAny_mono (bin_ok R₂ cx.fm (rx.step st') ry h₂) (Out.back t2) fun _ _ x => x

theorem sv_neg (G : GOk C) (cx : CxOk C c F n) {a : ME} (ia : SV C X n c F a) : SV C X n c F (.neg a) := by
  intro e hc Q m h
  replace hc := onSome_true hc
  obtain ⟨⟨o, x⟩, hx, hc⟩ := hc
  obtain ⟨p, rfl⟩ := xUn_eq hx
  simp only [Bool.and_eq_true, beq_iff_eq] at hc
  obtain ⟨rfl, hc⟩ := hc
  intro s ρ R
  refine wpAny_UnaryOp ((ia _ hc _ m h).go R (.refl _ _ _) fun ρ₁ s₁ m₁ x v st t1 R₁ rx h₁ => ?_)
  split at h₁
  · cases rx; exact PyProof.Rows.neg_int (Out.back t1 _ _ (outTok R₁ cx.fm (.int _ _) h₁))
  · exact h₁.elim

theorem sv_not (G : GOk C) (cx : CxOk C c F n) {a : ME} (ia : SV C X n c F a) : SV C X n c F (.not a) := by
  intro e hc Q m h
  replace hc := onSome_true hc
  obtain ⟨⟨o, x⟩, hx, hc⟩ := hc
  obtain ⟨p, rfl⟩ := xUn_eq hx
  simp only [Bool.and_eq_true, beq_iff_eq] at hc
  obtain ⟨rfl, hc⟩ := hc
  intro s ρ R
  refine wpAny_UnaryOp ((ia _ hc _ m h).go R (.refl _ _ _) fun ρ₁ s₁ m₁ x v st t1 R₁ rx h₁ => ?_)
  obtain ⟨b, rfl, h₁⟩ := ofBool_inv h₁
  cases rx; exact not_value (wpAny_truthy_bool (Out.back t1 _ _ (outSame R₁ (.bool _) h₁)))

theorem sv_and (G : GOk C) (cx : CxOk C c F n) {es : List ME} (ies : ∀ a ∈ es, SV C X n c F a) : SV C X n c F (.and es) := by
  intro e hc Q m h
  replace hc := onSome_true hc
  obtain ⟨⟨o, xs⟩, hx, hc⟩ := hc
  obtain ⟨p, rfl⟩ := xBool_eq hx
  simp only [Bool.and_eq_true, beq_iff_eq] at hc
  obtain ⟨rfl, hc⟩ := hc
  exact svAnd G cx ies _ hc Q m h _

theorem sv_or (G : GOk C) (cx : CxOk C c F n) {es : List ME} (ies : ∀ a ∈ es, SV C X n c F a) : SV C X n c F (.or es) := by
  intro e hc Q m h
  replace hc := onSome_true hc
  obtain ⟨⟨o, xs⟩, hx, hc⟩ := hc
  obtain ⟨p, rfl⟩ := xBool_eq hx
  simp only [Bool.and_eq_true, beq_iff_eq] at hc
  obtain ⟨rfl, hc⟩ := hc
  exact svOr G cx ies _ hc Q m h _

theorem cmp_two (G : GOk C) (cx : CxOk C c F n) {op : Cmp} {x y : MV} {v w : Value} {ρ ρ₀ : List Addr} {s s₀ : Shared} {m : MS} {A : Around} (hA : A.units + 1001 < cLine) {E : Value → Shared → Prop} {P : Bool → MS → Prop} {Q : Value → Shared → Prop} (R : Rel C F ρ m s) (t : Step F.W ρ₀ s₀ ρ s) (rx : Rep C ρ s.heap x v) (ry : Rep C ρ s.heap y w) (h : wpCmp op x y P m)
    (k : ∀ b ρ' m' s', Step F.W ρ s ρ' s' → Step F.W ρ₀ s₀ ρ' s' → Rel C F ρ' m' s' → P b m' → Q (.bool b) s') : wpAny (mod C) A (compareOp (cmpIs op) v w) Q E s :=
  wpAny_mono (cmp_ok G R.hp rx ry hA h) (fun v s' hv => by
    obtain ⟨b, rfl, m', st, R', hq⟩ := outOfB R cx.fm hv
    exact k b _ m' s' st (t.trans st) R' hq) fun _ _ x => x

theorem cmp_trees (G : GOk C) (cx : CxOk C c F n) {op : Cmp} {a b : ME} (ia : SV C X n c F a) (ib : SV C X n c F b) {l r : Expr} (ha : chkE c a l = true) (hb : chkE c b r = true) {P : Bool → MS → Prop} {m : MS} {s : Shared} {ρ : List Addr} (R : Rel C F ρ m s)
    (h : wpE (Call C) n a (fun x m => wpE (Call C) n b (fun y m => wpCmp op x y P m) X m) X m) {Q : Value → Shared → Prop} (k : ∀ b ρ' m' s', Step F.W ρ s ρ' s' → Rel C F ρ' m' s' → P b m' → Q (.bool b) s') :
    wpAny (mod C) F.A (eval l F.env) (fun v s₁ => wpAny (mod C) F.A (eval r F.env) (fun w s₂ => wpAny (mod C) F.A (compareOp (cmpIs op) v w) Q (Er C F X ρ s) s₂) (Er C F X ρ s) s₁) (Er C F X ρ s) s := by
  refine (ia l ha _ m h).go R (.refl _ _ _) fun ρ₁ s₁ m₁ x v st t1 R₁ rx h₁ => ?_
  refine (ib r hb _ m₁ h₁).go R₁ t1 fun ρ₂ s₂ m₂ y w st' t2 R₂ ry h₂ => ?_
  exact cmp_two G cx cx.u R₂ t2 (rx.step st') ry h₂ fun b ρ' m' s' _ st R' hq => k b ρ' m' s' st R' hq
theorem sv_cmp (G : GOk C) (cx : CxOk C c F n) {op : Cmp} {a : ME} {b : ME} (ia : SV C X n c F a) (ib : SV C X n c F b) : SV C X n c F (.cmp op a b) := by
  intro e hc Q m h
  replace hc := onSome_true hc
  obtain ⟨⟨l, os, rs⟩, hxx, hc⟩ := hc
  replace hc := onSome_true hc
  obtain ⟨o, ho, hc⟩ := hc
  replace hc := onSome_true hc
  obtain ⟨r, hr, hc⟩ := hc
  cases one_eq ho
  cases one_eq hr
  obtain ⟨p, rfl⟩ := xCmp_eq hxx
  simp only [Bool.and_eq_true, beq_iff_eq] at hc
  obtain ⟨⟨⟨rfl, hx⟩, ha⟩, hb⟩ := hc
  intro s ρ R
  exact wpAny_Compare1 (cmp_trees G cx ia ib ha hb R h fun b ρ' m' s' st R' hq => ⟨_, _, _, st, R', .bool b, hq⟩) (okX_marks hx _)

theorem isNn_eq {p : Bool} {ρ : List Addr} {h : Heap} {x : MV} {v : Value} (rx : Rep C ρ h x v) : isNn p x = (if p then (v == Value.none) else !(v == Value.none)) := by
  cases rx <;> cases p <;> rfl
theorem isN_tree (G : GOk C) (cx : CxOk C c F n) {p : Bool} {a : ME} (ia : SV C X n c F a) {l : Expr} (ha : chkE c a l = true) {P : Bool → MS → Prop} {m : MS} {s : Shared} {ρ : List Addr} (R : Rel C F ρ m s) (h : wpE (Call C) n a (fun x m => P (isNn p x) m) X m) {Q : Value → Shared → Prop}
    (k : ∀ b ρ' m' s', Step F.W ρ s ρ' s' → Rel C F ρ' m' s' → P b m' → Q (.bool b) s') {j : Nat} {q : Pos} :
    wpAny (mod C) F.A (eval l F.env) (fun v s₁ => wpAny (mod C) F.A (eval (.Constant .none j q) F.env) (fun w s₂ => wpAny (mod C) F.A (compareOp (if p then .Is else .IsNot) v w) Q (Er C F X ρ s) s₂) (Er C F X ρ s) s₁) (Er C F X ρ s) s := by
  refine (ia l ha _ m h).go R (.refl _ _ _) fun ρ₁ s₁ m₁ x v st t1 R₁ rx h₁ => wpAny_Constant_none ?_
  rw [isNn_eq rx] at h₁
  have h₂ := k _ ρ₁ m₁ s₁ t1 R₁ h₁
  cases p with
  | true => exact is_none h₂
  | false => exact isNot_none h₂
theorem sv_isN (G : GOk C) (cx : CxOk C c F n) {p : Bool} {a : ME} (ia : SV C X n c F a) : SV C X n c F (.isN p a) := by
  intro e hc Q m h
  replace hc := onSome_true hc
  obtain ⟨⟨l, os, rs⟩, hxx, hc⟩ := hc
  replace hc := onSome_true hc
  obtain ⟨o, ho, hc⟩ := hc
  replace hc := onSome_true hc
  obtain ⟨r, hr, hc⟩ := hc
  cases one_eq ho
  cases one_eq hr
  obtain ⟨p2, rfl⟩ := xCmp_eq hxx
  simp only [Bool.and_eq_true, beq_iff_eq] at hc
  obtain ⟨⟨rfl, hn⟩, ha⟩ := hc
  obtain ⟨_, _, rfl⟩ := xConst_eq hn
  intro s ρ R
  exact wpAny_Compare1 (isN_tree (P := fun b m => Q (.bool b) m) G cx ia ha R h fun b ρ' m' s' st R' hq => ⟨_, _, _, st, R', .bool b, hq⟩) rfl

theorem sv_call (G : GOk C) (cx : CxOk C c F n) {f : Nat} {args : List ME} (iargs : ∀ a ∈ args, SV C X n c F a) : SV C X n c F (.call f args) := by
  intro e hc Q m h
  replace hc := onSome_true hc
  obtain ⟨⟨x, ys, pos⟩, hx, hc⟩ := hc
  obtain ⟨px, rfl⟩ := xFn_eq hx
  simp only [Bool.and_eq_true, beq_iff_eq, Bool.not_eq_true'] at hc
  obtain ⟨⟨⟨hg, hf⟩, hne⟩, ha⟩ := hc
  intro s ρ R
  refine PyProof.Rows.Call_Name rfl (load_fn cx R hf (glName_ok hg).1 (glName_ok hg).2 fun a hfa => ?_)
  have ha' := svEs G cx iargs ys ha _ m h pos
  have hp := trees_plain ha pos F.env
  have hn := okX_first ha hne pos F.env
  obtain ⟨⟨b, t⟩, trees, et⟩ := List.exists_cons_of_ne_nil hn
  rw [et] at ha' hp ⊢
  simp only [List.any_cons, Bool.or_eq_false_iff] at hp
  obtain ⟨rfl, hp⟩ := hp
  obtain ⟨o, fd, ho, hd⟩ := G.fns f a hfa
  refine Calls.callWith_function (o := o) (fd := fd) (Calls.evalArgs_plain (ha'.go R (.refl _ _ _) fun ρ₁ s₁ m₁ xs vs st t1 R₁ rl el h₁ => ⟨⟨R₁.hp.base _ _ ho, hd⟩, ?_⟩))
  refine wpAny_mono (h₁ F m₁ s₁ ρ₁ vs a cx.fm rfl R₁ rl cx.room cx.units hfa) (fun v s₂ hv => ?_) (Er.back t1)
  obtain ⟨ρ₂, m₂, x, st2, R₂, rx, e, hq⟩ := hv
  refine ⟨ρ₂, m₂, x, t1.trans st2, R₂, rx, ?_⟩
  rw [← e] at hq; exact hq

set_option tactic.hygienic true in
theorem sv_mth (G : GOk C) (cx : CxOk C c F n) {k : Me} {o : ME} {args : List ME} (io : SV C X n c F o) (iargs : ∀ a ∈ args, SV C X n c F a) : SV C X n c F (.mth k o args) := by
  intro e hc Q m h
  replace hc := onSome_true hc
  obtain ⟨⟨⟨ov, name, apos⟩, ys, pos⟩, hx, hc⟩ := hc
  have ee := xMeth_eq hx
  subst ee
  simp only [Bool.and_eq_true, beq_iff_eq, decide_eq_true_eq] at hc
  obtain ⟨⟨⟨⟨⟨hn, h0⟩, hl⟩, hz⟩, ho⟩, ha⟩ := hc
  intro s ρ R
  have hp := trees_plain ha pos F.env
  refine wpAny_Call_method_late (notCall0_base h0 _ _) ?_ (by simp [hl]) rfl ((io ov ho _ m h).go R (.refl _ _ _) fun ρ₁ s₁ m₁ x v st t1 R₁ rx h₁ => ?_)
  · rw [Bool.and_eq_true, Bool.and_eq_true]
    refine ⟨⟨?_, rfl⟩, ?_⟩
    · rw [List.all_eq_true]; intro q hq
      rw [List.any_eq_false] at hp
      simpa using hp q hq
    · simp; (first | lia | omega)
  · split at h₁
    · rename_i hm
      refine mth_ok G cx.fm hn t1 R₁ rx hm hp ?_
      exact (svEs G cx iargs ys ha _ m₁ h₁ pos).go R₁ t1 fun ρ₂ s₂ m₂ xs vs st2 t2 R₂ rl _ h₂ => ⟨ρ₂, m₂, xs, st2, R₂, rl, h₂⟩
    · exact h₁.elim

theorem sv_idx (G : GOk C) (cx : CxOk C c F n) {o : ME} {i : ME} (io : SV C X n c F o) (ii : SV C X n c F i) : SV C X n c F (.idx o i) := by
  intro e hc Q m h
  replace hc := onSome_true hc
  obtain ⟨⟨v, sl⟩, hxx, hc⟩ := hc
  obtain ⟨p, rfl⟩ := xSub_eq hxx
  simp only [Bool.and_eq_true] at hc
  obtain ⟨⟨hx, ho⟩, hi⟩ := hc
  intro s ρ R
  refine PyProof.Rows.Subscript_ ((io v ho _ m h).go R (.refl _ _ _) fun ρ₁ s₁ m₁ x v st t1 R₁ rx h₁ => ?_)
  refine (ii sl hi _ m₁ h₁).go R₁ t1 fun ρ₂ s₂ m₂ y w st' t2 R₂ ry h₂ => ?_
  exact wpAny_mono (idx_ok G R₂ cx.fm (rx.step st') ry hx h₂) (Out.back t2) fun _ _ x => x

theorem sv_sl (G : GOk C) (cx : CxOk C c F n) {o : ME} {lo : Option ME} {hi : Option ME} (io : SV C X n c F o) (ilo : ∀ a, lo = some a → SV C X n c F a) (ihi : ∀ a, hi = some a → SV C X n c F a) : SV C X n c F (.sl o lo hi) := by
  intro e hc Q m h
  replace hc := onSome_true hc
  obtain ⟨⟨v, sl⟩, hxx, hc⟩ := hc
  replace hc := onSome_true hc
  obtain ⟨⟨l, u, stp⟩, hx, hc⟩ := hc
  obtain ⟨p1, rfl⟩ := xSlice_eq hx
  obtain ⟨p2, rfl⟩ := xSub_eq hxx
  simp only [Bool.and_eq_true] at hc
  obtain ⟨⟨⟨hs, ho⟩, hlo⟩, hhi⟩ := hc
  cases stp with
  | some => cases hs
  | none =>
  intro s ρ R
  refine PyProof.Rows.Subscript_ ((io v ho _ m h).go R (.refl _ _ _) fun ρ₁ s₁ m₁ x v st t1 R₁ rx h₁ => ?_)
  refine wpAny_Slice ?_
  refine (svO G cx ilo l hlo _ m₁ h₁) s₁ ρ₁ R₁ _ _ _ t1 fun ρ₂ s₂ m₂ a va st2 t2 R₂ ra h₂ => ?_
  refine (svO G cx ihi u hhi _ m₂ h₂) s₂ ρ₂ R₂ _ _ _ t2 fun ρ₃ s₃ m₃ b vb st3 t3 R₃ rb h₃ => ?_
  rw [evalPart_none]
  refine wpAny_pure ?_
  have ra' : PartRep C ρ₃ s₃.heap a va := by
    cases a with
    | none => exact ra
    | some a => exact ra.step st3
  exact wpAny_mono (sl_ok R₃ cx.fm ((rx.step st2).step st3) ra' rb h₃) (Out.back t3) fun _ _ x => x

theorem sv_list (G : GOk C) (cx : CxOk C c F n) {es : List ME} (ies : ∀ a ∈ es, SV C X n c F a) : SV C X n c F (.list es) := by
  intro e hc Q m h
  replace hc := onSome_true hc
  obtain ⟨xs, hxx, hc⟩ := hc
  obtain ⟨p, rfl⟩ := xList_eq hxx
  simp only [Bool.and_eq_true, decide_eq_true_eq] at hc
  intro s ρ R
  refine wpAny_List ((svEs G cx ies xs hc.2 _ m h _).go R (.refl _ _ _) fun ρ₁ s₁ m₁ xs vs st t1 R₁ rl el h₁ => ?_)
  have hz : xs.length ≤ line := el ▸ Nat.le_trans hc.1 (by decide)
  exact ⟨by rw [rl.length]; exact hz, Out.back t1 _ _ (outList R₁ cx.fm rl hz h₁)⟩

theorem sv_tup (G : GOk C) (cx : CxOk C c F n) {es : List ME} (ies : ∀ a ∈ es, SV C X n c F a) : SV C X n c F (.tup es) := by
  intro e hc Q m h
  replace hc := onSome_true hc
  obtain ⟨xs, hxx, hc⟩ := hc
  obtain ⟨k, p, rfl⟩ := xTup_eq hxx
  simp only [Bool.and_eq_true, decide_eq_true_eq] at hc
  intro s ρ R
  refine wpAny_Tuple ((svEs G cx ies xs hc.2 _ m h _).go R (.refl _ _ _) fun ρ₁ s₁ m₁ xs vs st t1 R₁ rl el h₁ => ?_)
  have hz : xs.length ≤ line := el ▸ Nat.le_trans hc.1 (by decide)
  exact ⟨by rw [rl.length]; exact hz, Out.back t1 _ _ (outTup R₁ cx.fm rl hz h₁)⟩

theorem sv_dict0 (G : GOk C) (cx : CxOk C c F n)   : SV C X n c F (.dict0) := by
  intro e hc Q m h
  replace hc := onSome_true hc
  obtain ⟨⟨ks, vs⟩, hxx, hc⟩ := hc
  obtain ⟨p, rfl⟩ := xDict_eq hxx
  simp only [Bool.and_eq_true, List.isEmpty_iff] at hc
  obtain ⟨rfl, rfl⟩ := hc
  intro s ρ R
  refine wpAny_Dict_empty ?_
  have hk : ∀ a o, s.heap.get? a = some o → (s.heap.push { cls := .type "dict", data := .dict #[] }).get? a = some o := fun a o e => Heap.get?_push_of_some _ e
  obtain ⟨R', st⟩ := R.alloc (s' := { s with heap := s.heap.push { cls := .type "dict", data := .dict #[] } }) cx.fm hk rfl rfl (o := .dict []) (a := s.heap.objs.size) (fresh_at (Nat.le_refl _))
    ⟨[], Heap.DictOf.new _, .nil, Nat.zero_le _⟩
  exact ⟨_, _, _, st, R', .ref (i := m.heap.length) (by rw [← R.hp.len, List.getElem?_append_right (Nat.le_refl _)]; simp), h⟩

set_option tactic.hygienic true in
theorem sv_isi (G : GOk C) (cx : CxOk C c F n) {a : ME} {ts : List TS} (ia : SV C X n c F a) : SV C X n c F (.isi a ts) := by
  intro e hc Q m h
  replace hc := onSome_true hc
  obtain ⟨⟨x, ys, pos⟩, hx, hc⟩ := hc
  replace hc := onSome_true hc
  obtain ⟨⟨v, t⟩, hv2, hc⟩ := hc
  replace hc := onSome_true hc
  obtain ⟨t', ht', hc⟩ := hc
  cases two_eq hv2
  cases one_eq ht'
  obtain ⟨px, rfl⟩ := xFn_eq hx
  simp only [Bool.and_eq_true, beq_iff_eq] at hc
  obtain ⟨⟨⟨⟨hg, rfl⟩, hv⟩, ha⟩, ht⟩ := hc
  replace ht := onSome_true ht
  obtain ⟨y, hy, ht⟩ := ht
  replace ht := onSome_true ht
  obtain ⟨T, eT, ht⟩ := ht
  obtain ⟨py, rfl⟩ := xName_eq hy
  simp only [Bool.and_eq_true, beq_iff_eq, Bool.not_eq_true'] at ht
  obtain ⟨⟨rfl, hk⟩, hd⟩ := ht
  intro s ρ R
  refine PyProof.Rows.Call_Name rfl (load_blt cx R (v := .builtin "isinstance") (at_mem 7 rfl) (glName_ok hg).1 (glName_ok hg).2 ?_)
  refine call_args (.inl ⟨_, rfl⟩) (by rw [okX_star hv]; rfl) (by rw [okX_star hv]; exact List.cons_ne_nil _ _) ?_
  rw [okX_star hv]
  refine Calls.spliced_cons ((ia v ha _ m h).go R (.refl _ _ _) fun ρ₁ s₁ m₁ x v st t1 R₁ rx h₁ => ?_)
  refine Calls.spliced_cons (load_blt cx R₁ (ts_mem eT) hk hd (Calls.spliced_nil ?_))
  simp only at h₁
  split at h₁
  · rename_i b hb
    refine wpAny_mono (isi_ok (P := fun b => Q (.bool b) m₁) R₁.hp rx hb h₁ T eT) (fun v s' hv => ?_) fun _ _ x => x
    obtain ⟨b, rfl, m', st3, R', hq⟩ := outOfB (P := fun b m => Q (.bool b) m) R₁ cx.fm hv
    exact Out.back t1 _ _ ⟨_, _, _, st3, R', .bool b, hq⟩
  · exact h₁.elim
end
end Mine
end
section
set_option autoImplicit false
set_option linter.unusedVariables false
set_option tactic.hygienic false
namespace Mine
open PySem PyProof.Rows
theorem ss_ok {C : Glo} {F : Fm} {X : XM} {c : Cx} {n : Nat} (G : GOk C) (cx : CxOk C c F n) {args : List ME} (iargs : ∀ a ∈ args, SV C X n c F a) {e z : Expr} (hz : xSS c e = some z) (hc : chkEs c args [z] = true) {Q : PQ} {m : MS} (h : wpEs (Call C) n args (fun vs m => wpBlt .sortedSet vs Q m) X m) : WPv C F X (eval e F.env) Q m := by
  unfold xSS at hz
  replace hz := Option.bind_eq_some_iff.mp hz
  obtain ⟨q, _, hz⟩ := hz
  replace hz := Option.bind_eq_some_iff.mp hz
  obtain ⟨y, _, hz⟩ := hz
  replace hz := Option.bind_eq_some_iff.mp hz
  obtain ⟨r, _, hz⟩ := hz
  cases hz
end Mine
end
section
set_option autoImplicit false
set_option linter.unusedVariables false
set_option tactic.hygienic false
namespace Mine
open PySem PyProof.Rows
theorem sv_blt {C : Glo} {F : Fm} {X : XM} {c : Cx} {n : Nat} (G : GOk C) (cx : CxOk C c F n) {b : Bi} {args : List ME} (iargs : ∀ a ∈ args, SV C X n c F a) : SV C X n c F (.blt b args) := by
  intro e hc Q m h
  cases hb : isSS b with
  | true =>
    have hb' : b = .sortedSet := by cases b <;> first | rfl | cases hb
    subst hb'
    replace hc := onSome_true hc
    obtain ⟨z, hz, hc⟩ := hc
    exact ss_ok G cx iargs hz hc h
  | false =>
    replace hc : (if isSS b = true then _ else _) = true := hc
    rw [hb] at hc
    replace hc := onSome_true hc
    obtain ⟨⟨x, ys, pos⟩, hx, hc⟩ := hc
    obtain ⟨px, rfl⟩ := xFn_eq hx
    simp only [Bool.and_eq_true, Bool.not_eq_true'] at hc
    obtain ⟨⟨⟨hg, hf⟩, hne⟩, ha⟩ := hc
    replace hf := onSome_true hf
    obtain ⟨⟨z, f⟩, hb, hf⟩ := hf
    cases eq_of_beq hf
    intro s ρ R
    refine PyProof.Rows.Call_Name rfl (load_blt cx R (bi_mem hb) (glName_ok hg).1 (glName_ok hg).2 ?_)
    refine call_args (bi_fun hb) (trees_plain ha _ _) (okX_first ha hne _ _) ?_
    refine (svEs G cx iargs ys ha _ m h pos).go R (.refl _ _ _) fun ρ₁ s₁ m₁ xs vs st t1 R₁ rl el h₁ => ?_
    exact wpAny_mono (blt_ok G R₁ cx.fm rl hb h₁) (Out.back t1) fun _ _ x => x
end Mine
end
section
set_option autoImplicit false
set_option linter.unusedVariables false
set_option tactic.hygienic false
namespace Mine
open PySem PyProof.Rows

noncomputable def plainT (e : Expr) : Bool := okX e && ((view e).tag != 3 || (view e).u != .Not) && (view e).tag != 4 && (view e).tag != 5
theorem plainT_isTrue {e : Expr} (h : plainT e = true) (env : Env) (whole : Sem Value) : isTrue e env whole = (do let v ← whole; standAt e.pos; holding [v] (truthy v)) := by
  unfold plainT at h
  simp only [Bool.and_eq_true] at h
  obtain ⟨⟨⟨h1, h2⟩, h3⟩, h4⟩ := h
  exact okX_cases (P := fun e => ((view e).tag != 3 || (view e).u != .Not) = true → ((view e).tag != 4) = true → ((view e).tag != 5) = true → isTrue e env whole = (do let v ← whole; standAt e.pos; holding [v] (truthy v))) h1
    (fun _ _ _ _ _ _ => rfl) (fun _ _ _ _ _ => rfl) (fun _ _ _ _ _ _ _ => rfl) (fun o _ _ h _ _ => by cases o <;> first | rfl | cases h) (fun _ _ _ _ h _ => by cases h) (fun _ _ _ _ _ _ h => by cases h) (fun _ _ _ _ _ _ _ => rfl) (fun _ _ _ _ _ _ => rfl) (fun _ _ _ _ _ _ => rfl) (fun _ _ _ _ _ => rfl) (fun _ _ _ _ _ _ => rfl) (fun _ _ _ _ _ _ => rfl) (fun _ _ _ _ _ _ _ => rfl) h2 h3 h4
theorem plain_tag {e : Expr} {k : Nat} (h : (view e).tag = k) (hk : (k != 9 && k != 14 && k != 3 && k != 4 && k != 5) = true) : plainT e = true := by
  subst h
  simp only [Bool.and_eq_true] at hk
  obtain ⟨⟨⟨⟨h1, h2⟩, h3⟩, h4⟩, h5⟩ := hk
  simp [plainT, okX, h1, h2, h3, h4, h5]
theorem plain_some {α : Type} {e : Expr} {k : Nat} {x y : α} (h : (if (view e).tag = k then some x else none) = some y) (hk : (k != 9 && k != 14 && k != 3 && k != 4 && k != 5) = true) : plainT e = true := plain_tag (tag_some h).1 hk
theorem plain_fn {e : Expr} {q : Str × List Expr × Pos} (h : xFn e = some q) : plainT e = true := by
  unfold xFn at h
  obtain ⟨q, h, _⟩ := Option.bind_eq_some_iff.mp h
  exact plain_some h rfl
theorem plain_meth {e : Expr} {q : (Expr × Str × Pos) × List Expr × Pos} (h : xMeth e = some q) : plainT e = true := by
  unfold xMeth at h
  obtain ⟨q, h, _⟩ := Option.bind_eq_some_iff.mp h
  exact plain_some h rfl
noncomputable def ST (C : Glo) (X : XM) (n : Nat) (c : Cx) (F : Fm) (me : ME) : Prop :=
  ∀ (e : Expr), chkE c me e = true → ∀ (Q : Bool → MS → Prop) (m : MS), wpE (Call C) n me (ofBool Q) X m → WPt C F X (isTrue e F.env (eval e F.env)) Q m

section
variable {C : Glo} {F : Fm} {X : XM} {c : Cx} {n : Nat}

theorem st_plain (G : GOk C) (cx : CxOk C c F n) {me : ME} (ia : SV C X n c F me) (hpl : ∀ e, chkE c me e = true → plainT e = true) : ST C X n c F me := by
  intro e hc Q m h s ρ R
  refine wpAny_isTrue_value ((ia e hc _ m h).go R (.refl _ _ _) fun ρ₁ s₁ m₁ x v st t1 R₁ rx h₁ => ?_) (plainT_isTrue (hpl e hc) _ _)
  obtain ⟨b, rfl, h₁⟩ := ofBool_inv h₁
  cases rx; exact wpAny_truthy_bool ⟨_, _, t1, R₁, h₁⟩
theorem stAnd (G : GOk C) (cx : CxOk C c F n) : ∀ {es : List ME}, (∀ a ∈ es, ST C X n c F a) → ∀ (xs : List Expr), chkEs c es xs = true → ∀ (Q : Bool → MS → Prop) (m : MS), wpAnd (Call C) n es (ofBool Q) X m → WPt C F X (allTrue .And xs F.env) Q m
  | [], ih, xs, hc, Q, m, h => h.elim
  | [e], ih, xs, hc, Q, m, h => by
    cases xs with
    | nil => cases hc
    | cons x xs =>
      replace hc := chkEs_cons hc
      cases xs with
      | nil =>
        intro s ρ R
        refine wpAny_allTrue_And_cons ((ih e (by simp) x hc.1.2 _ m h).go R (.refl _ _ _) fun ρ₁ s₁ m₁ b st t1 R₁ h₁ => ?_)
        cases b with
        | true => exact wpAny_allTrue_And_nil ⟨_, _, t1, R₁, h₁⟩
        | false => exact ⟨_, _, t1, R₁, h₁⟩
      | cons => cases hc.2
  | e :: e' :: es, ih, xs, hc, Q, m, h => by
    cases xs with
    | nil => cases hc
    | cons x xs =>
      replace hc := chkEs_cons hc
      intro s ρ R
      refine wpAny_allTrue_And_cons ((ih e (by simp) x hc.1.2 _ m h).go R (.refl _ _ _) fun ρ₁ s₁ m₁ b st t1 R₁ h₁ => ?_)
      cases b with
      | true => exact wpAny_mono (stAnd G cx (fun a ha => ih a (List.mem_cons_of_mem _ ha)) xs hc.2 Q m₁ h₁ s₁ ρ₁ R₁) (fun b s' ⟨ρ', m', a, b', c'⟩ => ⟨ρ', m', t1.trans a, b', c'⟩) (Er.back t1)
      | false => exact ⟨_, _, t1, R₁, h₁⟩

theorem stOr (G : GOk C) (cx : CxOk C c F n) : ∀ {es : List ME}, (∀ a ∈ es, ST C X n c F a) → ∀ (xs : List Expr), chkEs c es xs = true → ∀ (Q : Bool → MS → Prop) (m : MS), wpOr (Call C) n es (ofBool Q) X m → WPt C F X (allTrue .Or xs F.env) Q m
  | [], ih, xs, hc, Q, m, h => h.elim
  | [e], ih, xs, hc, Q, m, h => by
    cases xs with
    | nil => cases hc
    | cons x xs =>
      replace hc := chkEs_cons hc
      cases xs with
      | nil =>
        intro s ρ R
        refine wpAny_allTrue_Or_cons ((ih e (by simp) x hc.1.2 _ m h).go R (.refl _ _ _) fun ρ₁ s₁ m₁ b st t1 R₁ h₁ => ?_)
        cases b with
        | true => exact ⟨_, _, t1, R₁, h₁⟩
        | false => exact wpAny_allTrue_Or_nil ⟨_, _, t1, R₁, h₁⟩
      | cons => cases hc.2
  | e :: e' :: es, ih, xs, hc, Q, m, h => by
    cases xs with
    | nil => cases hc
    | cons x xs =>
      replace hc := chkEs_cons hc
      intro s ρ R
      refine wpAny_allTrue_Or_cons ((ih e (by simp) x hc.1.2 _ m h).go R (.refl _ _ _) fun ρ₁ s₁ m₁ b st t1 R₁ h₁ => ?_)
      cases b with
      | false => exact wpAny_mono (stOr G cx (fun a ha => ih a (List.mem_cons_of_mem _ ha)) xs hc.2 Q m₁ h₁ s₁ ρ₁ R₁) (fun b s' ⟨ρ', m', a, b', c'⟩ => ⟨ρ', m', t1.trans a, b', c'⟩) (Er.back t1)
      | true => exact ⟨_, _, t1, R₁, h₁⟩

theorem st_not (G : GOk C) (cx : CxOk C c F n) {a : ME} (ia : ST C X n c F a) : ST C X n c F (.not a) := by
  intro e hc Q m h
  replace hc := onSome_true hc
  obtain ⟨⟨o, x⟩, hx, hc⟩ := hc
  obtain ⟨p, rfl⟩ := xUn_eq hx
  simp only [Bool.and_eq_true, beq_iff_eq] at hc
  obtain ⟨rfl, hc⟩ := hc
  intro s ρ R
  exact wpAny_isTrue_Not ((ia _ hc _ m h).go R (.refl _ _ _) fun ρ₁ s₁ m₁ b st t1 R₁ h₁ => ⟨_, _, t1, R₁, h₁⟩)

theorem st_and (G : GOk C) (cx : CxOk C c F n) {es : List ME} (ies : ∀ a ∈ es, ST C X n c F a) : ST C X n c F (.and es) := by
  intro e hc Q m h
  replace hc := onSome_true hc
  obtain ⟨⟨o, xs⟩, hx, hc⟩ := hc
  obtain ⟨p, rfl⟩ := xBool_eq hx
  simp only [Bool.and_eq_true, beq_iff_eq] at hc
  obtain ⟨rfl, hc⟩ := hc
  intro s ρ R; exact wpAny_isTrue_BoolOp (stAnd G cx ies _ hc _ m h s ρ R)

theorem st_or (G : GOk C) (cx : CxOk C c F n) {es : List ME} (ies : ∀ a ∈ es, ST C X n c F a) : ST C X n c F (.or es) := by
  intro e hc Q m h
  replace hc := onSome_true hc
  obtain ⟨⟨o, xs⟩, hx, hc⟩ := hc
  obtain ⟨p, rfl⟩ := xBool_eq hx
  simp only [Bool.and_eq_true, beq_iff_eq] at hc
  obtain ⟨rfl, hc⟩ := hc
  intro s ρ R; exact wpAny_isTrue_BoolOp (stOr G cx ies _ hc _ m h s ρ R)

theorem st_cmp (G : GOk C) (cx : CxOk C c F n) {op : Cmp} {a b : ME} (ia : SV C X n c F a) (ib : SV C X n c F b) : ST C X n c F (.cmp op a b) := by
  intro e hc Q m h
  replace hc := onSome_true hc
  obtain ⟨⟨l, os, rs⟩, hxx, hc⟩ := hc
  replace hc := onSome_true hc
  obtain ⟨o, ho, hc⟩ := hc
  replace hc := onSome_true hc
  obtain ⟨r, hr, hc⟩ := hc
  cases one_eq ho
  cases one_eq hr
  obtain ⟨p, rfl⟩ := xCmp_eq hxx
  simp only [Bool.and_eq_true, beq_iff_eq] at hc
  obtain ⟨⟨⟨rfl, hx⟩, ha⟩, hb⟩ := hc
  intro s ρ R
  exact wpAny_isTrue_Compare1 (cmp_trees G cx ia ib ha hb R h fun b ρ' m' s' st R' hq => wpAny_truthy_bool ⟨_, _, st, R', hq⟩) (okX_marks hx _)

theorem st_isN (G : GOk C) (cx : CxOk C c F n) {p : Bool} {a : ME} (ia : SV C X n c F a) : ST C X n c F (.isN p a) := by
  intro e hc Q m h
  replace hc := onSome_true hc
  obtain ⟨⟨l, os, rs⟩, hxx, hc⟩ := hc
  replace hc := onSome_true hc
  obtain ⟨o, ho, hc⟩ := hc
  replace hc := onSome_true hc
  obtain ⟨r, hr, hc⟩ := hc
  cases one_eq ho
  cases one_eq hr
  obtain ⟨p2, rfl⟩ := xCmp_eq hxx
  simp only [Bool.and_eq_true, beq_iff_eq] at hc
  obtain ⟨⟨rfl, hn⟩, ha⟩ := hc
  obtain ⟨_, _, rfl⟩ := xConst_eq hn
  intro s ρ R
  exact wpAny_isTrue_Compare1 (isN_tree G cx ia ha R h fun b ρ' m' s' st R' hq => wpAny_truthy_bool ⟨_, _, st, R', hq⟩) rfl

theorem chk_some {α : Type} {o : Option α} {f : α → Bool} (h : onSome o f = true) : ∃ a, o = some a := let ⟨a, h, _⟩ := onSome_true h; ⟨a, h⟩
theorem pl_cst {v : MV} : ∀ e, chkE c (.cst v) e = true → plainT e = true := fun e hc => by
  obtain ⟨_, hx⟩ := chk_some hc
  exact plain_some hx rfl
theorem pl_var {i : Nat} : ∀ e, chkE c (.var i) e = true → plainT e = true := fun e hc => by
  obtain ⟨_, hx⟩ := chk_some hc
  exact plain_some hx rfl
theorem pl_glob {g : Nat} {v : MV} : ∀ e, chkE c (.glob g v) e = true → plainT e = true := fun e hc => by
  obtain ⟨_, hx⟩ := chk_some hc
  exact plain_some hx rfl
theorem pl_bin {op : Op} {a b : ME} : ∀ e, chkE c (.bin op a b) e = true → plainT e = true := fun e hc => by
  obtain ⟨_, hx⟩ := chk_some hc
  exact plain_some hx rfl
theorem pl_idx {o i : ME} : ∀ e, chkE c (.idx o i) e = true → plainT e = true := fun e hc => by
  obtain ⟨_, hx⟩ := chk_some hc
  exact plain_some hx rfl
theorem pl_sl {o : ME} {lo hi : Option ME} : ∀ e, chkE c (.sl o lo hi) e = true → plainT e = true := fun e hc => by
  obtain ⟨_, hx⟩ := chk_some hc
  exact plain_some hx rfl
theorem pl_list {es : List ME} : ∀ e, chkE c (.list es) e = true → plainT e = true := fun e hc => by
  obtain ⟨_, hx⟩ := chk_some hc
  exact plain_some hx rfl
theorem pl_tup {es : List ME} : ∀ e, chkE c (.tup es) e = true → plainT e = true := fun e hc => by
  obtain ⟨_, hx⟩ := chk_some hc
  exact plain_some hx rfl
theorem pl_dict0 : ∀ e, chkE c (.dict0) e = true → plainT e = true := fun e hc => by
  obtain ⟨_, hx⟩ := chk_some hc
  exact plain_some hx rfl
theorem pl_comp {elt : ME} {t : List Nat} {many : Bool} {k : IK} {src ifs : List ME} : ∀ e, chkE c (.comp elt t many k src ifs) e = true → plainT e = true := fun e hc => by
  obtain ⟨_, hx⟩ := chk_some hc
  exact plain_some hx rfl
theorem pl_call {f : Nat} {args : List ME} : ∀ e, chkE c (.call f args) e = true → plainT e = true := fun e hc => by
  obtain ⟨_, hx⟩ := chk_some hc
  exact plain_fn hx
theorem pl_isi {a : ME} {ts : List TS} : ∀ e, chkE c (.isi a ts) e = true → plainT e = true := fun e hc => by
  obtain ⟨_, hx⟩ := chk_some hc
  exact plain_fn hx
theorem pl_mth {k : Me} {o : ME} {args : List ME} : ∀ e, chkE c (.mth k o args) e = true → plainT e = true := fun e hc => by
  obtain ⟨_, hx⟩ := chk_some hc
  exact plain_meth hx
theorem pl_blt {b : Bi} {args : List ME} : ∀ e, chkE c (.blt b args) e = true → plainT e = true := fun e hc => by
  replace hc : (if isSS b = true then _ else _) = true := hc
  split at hc
  · obtain ⟨_, hx⟩ := chk_some hc
    unfold xSS at hx
    obtain ⟨_, hx, _⟩ := Option.bind_eq_some_iff.mp hx
    exact plain_fn hx
  · obtain ⟨_, hx⟩ := chk_some hc
    exact plain_fn hx
theorem pl_neg {a : ME} : ∀ e, chkE c (.neg a) e = true → plainT e = true := fun e hc => by
  replace hc := onSome_true hc
  obtain ⟨⟨o, x⟩, hx, hc⟩ := hc
  obtain ⟨p, rfl⟩ := xUn_eq hx
  simp only [Bool.and_eq_true, beq_iff_eq] at hc
  obtain ⟨rfl, _⟩ := hc
  rfl
end
end Mine
end
section
set_option autoImplicit false
set_option linter.unusedVariables false
set_option tactic.hygienic false
namespace Mine
open PySem PyProof.Rows
section
variable {M : Model} {A : Around} {E : Value → Shared → Prop} {s : Shared} {env : Env}
theorem wp_op {vs : List Value} {t : Sem Value} {Q : Value → Shared → Prop} (h : wpAny M A t Q E s) : wpAny M A (operate vs t) Q E s := fun Γ p hΓ => by
  rw [Sem.wp_operate]; exact h Γ p hΓ
theorem wp_Compare2 {l r r' : Expr} {o o' : CmpOp} {pos : Pos} {Q : Value → Shared → Prop} (hm' : behindInMarks o' r' = false)
    (h : wpAny M A (eval l env) (fun a s₁ => wpAny M A (eval r env) (fun b s₂ => wpAny M A (compareOp o a b) (fun c s₃ => wpAny M A (truthy c) (fun t s₄ =>
      match t with
      | true => wpAny M A (eval r' env) (fun d s₅ => wpAny M A (compareOp o' b d) Q E s₅) E s₄
      | false => Q c s₄) E s₃) E s₂) E s₁) E s) : wpAny M A (eval (.Compare l [o, o'] [r, r'] pos) env) Q E s := by
  show wpAny M A (eval l env >>= fun a => compareChain pos a [o, o'] [eval r env, markedBehindIn o' r' (eval r' env)]) Q E s
  rw [markedBehindIn_of_false hm']
  refine wpAny_bind (wpAny_mono h (fun a s₁ h₁ => ?_) fun _ _ x => x)
  show wpAny M A (do
    let rv ← holding [a] (eval r env)
    standAt pos
    let c ← holding [a, rv] (compareOp o a rv)
    release [a, rv] [c]
    if ← holding [c, rv] (truthy c) then compareChain pos rv [o'] [eval r' env] else pure c) Q E s₁
  refine wpAny_bind (wpAny_holding (wpAny_mono h₁ (fun b s₂ h₂ => ?_) fun _ _ x => x))
  refine wpAny_bind (wpAny_standAt (wpAny_bind (wpAny_holding (wpAny_mono h₂ (fun c s₃ h₃ => ?_) fun _ _ x => x))))
  refine wpAny_bind (wpAny_release (wpAny_bind (wpAny_holding (wpAny_mono h₃ (fun t s₄ h₄ => ?_) fun _ _ x => x))))
  cases t with
  | false => exact wpAny_pure h₄
  | true =>
    show wpAny M A (do
      let rv ← holding [b] (eval r' env)
      standAt pos
      operate [b, rv] (compareOp o' b rv)) Q E s₄
    exact wpAny_bind (wpAny_holding (wpAny_mono h₄ (fun d s₅ h₅ => wpAny_bind (wpAny_standAt (wp_op h₅))) fun _ _ x => x))
theorem wp_test2 {l r r' : Expr} {o o' : CmpOp} {pos : Pos} {whole : Sem Value} {Q : Bool → Shared → Prop} (hm' : behindInMarks o' r' = false)
    (h : wpAny M A (eval l env) (fun a s₁ => wpAny M A (eval r env) (fun b s₂ => wpAny M A (compareOp o a b) (fun c s₃ => wpAny M A (truthy c) (fun t s₄ =>
      match t with
      | true => wpAny M A (eval r' env) (fun d s₅ => wpAny M A (compareOp o' b d) (fun c s₆ => wpAny M A (truthy c) Q E s₆) E s₅) E s₄
      | false => Q false s₄) E s₃) E s₂) E s₁) E s) : wpAny M A (isTrue (.Compare l [o, o'] [r, r'] pos) env whole) Q E s := by
  show wpAny M A (eval l env >>= fun a => testChain pos a [o, o'] [eval r env, markedBehindIn o' r' (eval r' env)]) Q E s
  rw [markedBehindIn_of_false hm']
  refine wpAny_bind (wpAny_mono h (fun a s₁ h₁ => ?_) fun _ _ x => x)
  show wpAny M A (do
    let rv ← holding [a] (eval r env)
    standAt pos
    let c ← holding [a, rv] (compareOp o a rv)
    release [a, rv] [c]
    if ← holding [c, rv] (truthy c) then testChain pos rv [o'] [eval r' env] else pure false) Q E s₁
  refine wpAny_bind (wpAny_holding (wpAny_mono h₁ (fun b s₂ h₂ => ?_) fun _ _ x => x))
  refine wpAny_bind (wpAny_standAt (wpAny_bind (wpAny_holding (wpAny_mono h₂ (fun c s₃ h₃ => ?_) fun _ _ x => x))))
  refine wpAny_bind (wpAny_release (wpAny_bind (wpAny_holding (wpAny_mono h₃ (fun t s₄ h₄ => ?_) fun _ _ x => x))))
  cases t with
  | false => exact wpAny_pure h₄
  | true =>
    show wpAny M A (do
      let rv ← holding [b] (eval r' env)
      standAt pos
      let c ← operate [b, rv] (compareOp o' b rv)
      holding [c] (truthy c)) Q E s₄
    exact wpAny_bind (wpAny_holding (wpAny_mono h₄ (fun d s₅ h₅ => wpAny_bind (wpAny_standAt (wpAny_bind (wp_op (wpAny_mono h₅ (fun c s₆ h₆ => wpAny_holding h₆) fun _ _ x => x))))) fun _ _ x => x))
end

section
variable {C : Glo} {F : Fm} {X : XM} {c : Cx} {n : Nat}

theorem cmp2_inv {op op' : Cmp} {a b d : ME} {e : Expr} (hc : chkE c (.cmp2 op op' a b d) e = true) : ∃ l r r' p, e = .Compare l [cmpIs op, cmpIs op'] [r, r'] p ∧ okX r' = true ∧ chkE c a l = true ∧ chkE c b r = true ∧ chkE c d r' = true := by
  replace hc := onSome_true hc
  obtain ⟨⟨l, os, rs⟩, hxx, hc⟩ := hc
  replace hc := onSome_true hc
  obtain ⟨⟨o, o'⟩, ho, hc⟩ := hc
  replace hc := onSome_true hc
  obtain ⟨⟨r, r'⟩, hr, hc⟩ := hc
  cases two_eq ho
  cases two_eq hr
  obtain ⟨p, rfl⟩ := xCmp_eq hxx
  simp only [Bool.and_eq_true, beq_iff_eq] at hc
  obtain ⟨⟨⟨⟨⟨⟨rfl, rfl⟩, hx⟩, hx'⟩, ha⟩, hb⟩, hd⟩ := hc
  exact ⟨l, r, r', p, rfl, hx', ha, hb, hd⟩
theorem cmp2_trees (G : GOk C) (cx : CxOk C c F n) {op op' : Cmp} {a b d : ME} (ia : SV C X n c F a) (ib : SV C X n c F b) (id' : SV C X n c F d) {l r r' : Expr} (ha : chkE c a l = true) (hb : chkE c b r = true) (hd : chkE c d r' = true) {P : Bool → MS → Prop} {m : MS} {s : Shared} {ρ : List Addr} (R : Rel C F ρ m s)
    (h : wpE (Call C) n a (fun x m => wpE (Call C) n b (fun y m => wpCmp op x y (fun t m => match t with
      | true => wpE (Call C) n d (fun z m => wpCmp op' y z P m) X m
      | false => P false m) m) X m) X m) {Q Q' : Value → Shared → Prop} (k : ∀ b ρ' m' s', Step F.W ρ s ρ' s' → Rel C F ρ' m' s' → P b m' → Q (.bool b) s') (k' : ∀ ρ' m' s', Step F.W ρ s ρ' s' → Rel C F ρ' m' s' → P false m' → Q' (.bool false) s') :
    wpAny (mod C) F.A (eval l F.env) (fun v s₁ => wpAny (mod C) F.A (eval r F.env) (fun w s₂ => wpAny (mod C) F.A (compareOp (cmpIs op) v w) (fun q s₃ => wpAny (mod C) F.A (truthy q) (fun t s₄ => match t with
      | true => wpAny (mod C) F.A (eval r' F.env) (fun u s₅ => wpAny (mod C) F.A (compareOp (cmpIs op') w u) Q (Er C F X ρ s) s₅) (Er C F X ρ s) s₄
      | false => Q' q s₄) (Er C F X ρ s) s₃) (Er C F X ρ s) s₂) (Er C F X ρ s) s₁) (Er C F X ρ s) s := by
  refine (ia l ha _ m h).go R (.refl _ _ _) fun ρ₁ s₁ m₁ x v st t1 R₁ rx h₁ => ?_
  refine (ib r hb _ m₁ h₁).go R₁ t1 fun ρ₂ s₂ m₂ y w st' t2 R₂ ry h₂ => ?_
  refine cmp_two G cx cx.u R₂ t2 (rx.step st') ry h₂ fun t ρ₃ m₃ s₃ st3 t3 R₃ hq => wpAny_truthy_bool ?_
  cases t with
  | false => exact k' ρ₃ m₃ s₃ t3 R₃ hq
  | true =>
    refine (id' r' hd _ m₃ hq).go R₃ t3 fun ρ₄ s₄ m₄ z u st4 t4 R₄ rz h₄ => ?_
    exact cmp_two G cx cx.u R₄ t4 ((ry.step st3).step st4) rz h₄ fun b ρ' m' s' _ st R' hq => k b ρ' m' s' st R' hq
theorem sv_cmp2 (G : GOk C) (cx : CxOk C c F n) {op op' : Cmp} {a b d : ME} (ia : SV C X n c F a) (ib : SV C X n c F b) (id' : SV C X n c F d) : SV C X n c F (.cmp2 op op' a b d) := by
  intro e hc Q m h
  obtain ⟨l, r, r', p, rfl, hx', ha, hb, hd⟩ := cmp2_inv hc
  intro s ρ R
  exact wp_Compare2 (okX_marks hx' _) (cmp2_trees G cx ia ib id' (P := fun b m => Q (.bool b) m) ha hb hd R h (fun b ρ' m' s' st R' hq => ⟨_, _, _, st, R', .bool b, hq⟩) fun ρ' m' s' st R' hq => ⟨_, _, _, st, R', .bool _, hq⟩)
theorem st_cmp2 (G : GOk C) (cx : CxOk C c F n) {op op' : Cmp} {a b d : ME} (ia : SV C X n c F a) (ib : SV C X n c F b) (id' : SV C X n c F d) : ST C X n c F (.cmp2 op op' a b d) := by
  intro e hc Q m h
  obtain ⟨l, r, r', p, rfl, hx', ha, hb, hd⟩ := cmp2_inv hc
  intro s ρ R
  exact wp_test2 (okX_marks hx' _) (cmp2_trees G cx ia ib id' (P := Q) (Q' := fun _ s' => OutT C F ρ s Q false s') ha hb hd R h (fun b ρ' m' s' st R' hq => wpAny_truthy_bool ⟨_, _, st, R', hq⟩) fun ρ' m' s' st R' hq => ⟨_, _, st, R', hq⟩)
end
end Mine
end
section
set_option autoImplicit false
set_option linter.unusedVariables false
set_option tactic.hygienic false
namespace Mine
open PySem PyProof.Rows

section
variable {C : Glo} {F : Fm} {X : XM} {c : Cx} {n : Nat} {ρ ρ' ρ₀ : List Addr} {m : MS} {s s' s₀ : Shared} {A : Around} {E : Value → Shared → Prop}

set_option tactic.hygienic true in
theorem names_inv {i : Nat} {t : List Nat} {xs : List Expr} (h : chkNames c (i :: t) xs = true) : ∃ x p r, xs = .Name x p :: r ∧ c.nm i = some x ∧ setOk c x = true ∧ chkNames c t r = true := by
  unfold chkNames at h
  split at h
  · cases h
  · rename_i e r
    rw [Bool.and_eq_true] at h
    obtain ⟨h1, h2⟩ := h
    replace h1 := onSome_true h1
    obtain ⟨x, hx, h1⟩ := h1
    obtain ⟨p, rfl⟩ := xName_eq hx
    simp only [Bool.and_eq_true, beq_iff_eq] at h1
    exact ⟨x, p, r, rfl, h1.1, h1.2, h2⟩
theorem names_ok (cx : CxOk C c F n) {Q : MS → Prop} : ∀ (t : List Nat) (elts : List Expr) (xs : List MV) (vs : List Value) (m : MS) (s : Shared), chkNames c t elts = true → t.length = xs.length → RepL C ρ s.heap xs vs → Rel C F ρ m s → Q (setAll t xs m) →
    wpAny (mod C) A (assignInOrder ((assignEach elts F.env).map (·.2)) vs) (fun _ s' => ∃ m', Step F.W ρ s ρ s' ∧ Rel C F ρ m' s' ∧ Q m') E s
  | [], elts, xs, vs, m, s, h, hl, hr, R, hq => by
    cases elts with
    | nil =>
      cases hr with
      | nil => exact wpAny_pure ⟨m, .refl _ _ _, R, hq⟩
      | cons => cases hl
    | cons => cases h
  | i :: t, elts, xs, vs, m, s, h, hl, hr, R, hq => by
    obtain ⟨x, p, r, rfl, h1, h2, h3⟩ := names_inv h
    cases hr with
    | nil => cases hl
    | @cons x' v' xs' vs' ra rl =>
      refine wpAny_bind (wpAny_holding ?_)
      refine PyProof.Rows.assign_Name (store_var cx R h1 (setOk_is h2) ra fun s₁ st R₁ => ?_)
      exact wpAny_mono (names_ok cx t r xs' vs' _ s₁ h3 (Nat.succ.inj hl) (rl.step st) R₁ hq) (fun _ s₂ ⟨m', st2, R₂, q⟩ => ⟨m', st.trans st2, R₂, q⟩) fun _ _ x => x

theorem assignEach_len (env : Env) : ∀ (t : List Nat) (elts : List Expr), chkNames c t elts = true → (assignEach elts env).length = t.length ∧ (assignEach elts env).findIdx? (·.1) = none
  | [], elts, h => by
    cases elts with
    | nil => exact ⟨rfl, rfl⟩
    | cons => cases h
  | i :: t, elts, h => by
    obtain ⟨x, p, r, rfl, _, _, h3⟩ := names_inv h
    obtain ⟨h1, h2⟩ := assignEach_len env t r h3
    refine ⟨congrArg (· + 1) h1, ?_⟩
    show List.findIdx? (·.1) ((false, _) :: assignEach r env) = none
    rw [List.findIdx?_cons, h2]; rfl

theorem assign_ok (cx : CxOk C c F n) {Q : MS → Prop} {t : List Nat} {many : Bool} {e : Expr} (h : chkT c t many e = true) {x : MV} {v : Value} (hr : Rep C ρ s.heap x v) (R : Rel C F ρ m s) (hq : asg t many x Q m) (hA : A.handled = none) :
    wpAny (mod C) A (assign e F.env v) (fun _ s' => ∃ m', Step F.W ρ s ρ s' ∧ Rel C F ρ m' s' ∧ Q m') E s := by
  cases many with
  | false =>
    obtain ⟨i, y, p, rfl, rfl, h1, h2⟩ := chkT_one h
    exact PyProof.Rows.assign_Name (store_var cx R h1 (setOk_is h2) hr fun s₁ st R₁ => ⟨_, st, R₁, hq⟩)
  | true =>
    replace h := chkT_many h
    obtain ⟨elts, k, p, rfl, h⟩ := h
    cases x with
    | tup xs =>
      have hq : t.length = xs.length ∧ Q (setAll t xs m) := hq
      cases hr with | @tup a k _ items g rl z =>
      obtain ⟨e1, e2⟩ := assignEach_len F.env _ _ h
      refine wpAny_assign_Tuple hA ⟨_, g, rfl, _, rfl⟩ (by rw [e1, hq.1, List.size_toArray, rl.length]) e2 fun h' he => ?_
      have hk : ∀ b o, s.heap.get? b = some o → h'.get? b = some o := fun b o eb => he b o (fun q => by rw [q, fresh_at (Nat.le_refl _)] at eb; cases eb) eb
      obtain ⟨R', st⟩ := R.grow (s' := { s with heap := h' }) cx.fm hk rfl rfl
      exact wpAny_mono (names_ok cx _ _ _ _ m { s with heap := h' } h hq.1 (rl.step st) R' hq.2) (fun _ s₂ ⟨m', st2, R₂, q⟩ => ⟨m', st.trans st2, R₂, q⟩) fun _ _ x => x
    | _ => exact (show False from hq).elim
theorem Er.no {e : Value} {P : Prop} (h : Er C F X ρ s e s') : P := False.elim h
end
end Mine
end
section
set_option autoImplicit false
set_option linter.unusedVariables false
set_option tactic.hygienic false
namespace Mine
open PySem PyProof.Rows

section
variable {W W' S : List Addr} {ρ ρ' ρ₂ : List Addr} {s s' s₂ : Shared}
theorem Step.mono (hW : ∀ a ∈ W, a ∈ W') (x : Step W ρ s ρ' s') : Step W' ρ s ρ' s' :=
  ⟨x.pre, x.new, fun a o e h1 h2 => x.keep a o e h1 fun q => h2 (hW a q), x.solid, x.alive, x.gens, x.os⟩
theorem Step.ofSide (sd : Side S s s') (hS : ∀ a ∈ S, a ∈ W) (h1 : ∀ a ∈ S, Shp s.heap a) (h2 : ∀ a ∈ S, Shp s'.heap a) : Step W ρ s ρ s' :=
  ⟨List.prefix_refl _, fun _ h => .inl h, fun a o e _ h => .inl (sd.1 a o (fun q => h (hS a q)) e), shp_solids h1 sd, fun a o e => by
    by_cases q : a ∈ S
    · obtain ⟨o', e', _⟩ := h2 a q; exact ⟨o', e'⟩
    · exact ⟨o, sd.1 a o q e⟩, sd.2.1, sd.2.2⟩
theorem Step.behind (x : Step W ρ s ρ₂ s₂) (y : Step W' ρ₂ s₂ ρ' s') (h : ∀ a ∈ W', s.heap.get? a = none) : Step W ρ s ρ' s' where
  pre := x.pre.trans y.pre
  new := fun a h => (y.new a h).elim (fun h => x.new a h) fun h => .inr (none_back x h)
  keep := fun a o e h1 h2 => by
    have hw : a ∉ W' := fun q => by rw [h a q] at e; cases e
    have h1' : a ∉ ρ₂ := fun h => (x.new a h).elim h1 fun h => by rw [h] at e; cases e
    rcases x.keep a o e h1 h2 with e1 | ⟨hc, sl, e1⟩
    · exact y.keep a o e1 h1' hw
    · rcases y.keep a _ e1 h1' hw with e2 | ⟨_, sl2, e2⟩
      · exact .inr ⟨hc, sl, e2⟩
      · exact .inr ⟨hc, sl2, e2⟩
  solid := fun a o e h => y.solid a o (x.solid a o e h) h
  alive := fun a o e => let ⟨o', e'⟩ := x.alive a o e; y.alive a o' e'
  gens := y.gens.trans x.gens
  os := y.os.trans x.os
end

noncomputable def subFm (F : Fm) (sc : Scope) (cl : List (Str × Addr)) (t : List Nat) (tn : List Str) (L : Addr) : Fm where
  env := compEnvC sc cl L F.env
  A := F.A
  W := [L]
  V := F.W ++ F.V
  lay := fun i => match (t.zip tn).lookup i with
    | some x => some (.nm L x)
    | none => F.lay i
  outer := []

structure CompOk (c : Cx) (sc : Scope) (t : List Nat) (tn : List Str) : Prop where
  kind : sc.kind = .function
  cell : ∀ p ∈ sc.names, p.2 ≠ .cell
  loc : ∀ p ∈ sc.names, p.2 = .local → sc.names.lookup p.1 = some .local
  free : ∀ p ∈ sc.names, p.2 = .free → (∃ i, c.nm i = some p.1) ∧ c.kind p.1 ≠ some .local ∧ cdc p.1 = false
  len : t.length = tn.length
  nodup : t.Nodup
  nodup' : tn.Nodup
  fr : ∀ i ∈ t, c.fr i = true
  tn : ∀ x ∈ tn, sc.names.lookup x = some .local

theorem compOk_is {c : Cx} {sc : Scope} {t : List Nat} {tn : List Str} (h : compOk c sc t tn = true) : CompOk c sc t tn := by
  simp only [compOk, Bool.and_eq_true, beq_iff_eq, decide_eq_true_eq, List.all_eq_true] at h
  obtain ⟨⟨⟨⟨⟨⟨h1, h2⟩, h3⟩, h4⟩, h5⟩, h6⟩, h7⟩ := h
  refine ⟨h1, fun p hp => ?_, fun p hp e => ?_, fun p hp e => ?_, h3, h4, h5, h6, h7⟩
  · have := (h2 p hp).1.1; simpa using this
  · have := (h2 p hp).1.2
    rw [e] at this; simpa using this
  · have := (h2 p hp).2
    rw [e] at this
    simp only [bne_self_eq_false, Bool.false_or, freeOk, Bool.and_eq_true, List.any_eq_true, beq_iff_eq, bne_iff_ne, Bool.not_eq_true'] at this
    obtain ⟨⟨⟨i, _, e1⟩, e2⟩, e3⟩ := this
    exact ⟨⟨i, e1⟩, e2, e3⟩

set_option tactic.hygienic true in
theorem lk_mem {α β : Type} [BEq α] [LawfulBEq α] : ∀ {l : List (α × β)} {a : α} {b : β}, l.lookup a = some b → (a, b) ∈ l
  | [], _, _, h => by cases h
  | (x, y) :: r, a, b, h => by
    rw [List.lookup_cons] at h
    split at h
    · rename_i q; cases h; have : a = x := by simpa using q
      subst this; exact List.mem_cons_self ..
    · exact List.mem_cons_of_mem _ (lk_mem h)
theorem zip_mem {t : List Nat} {tn : List Str} {i : Nat} {x : Str} (h : (t.zip tn).lookup i = some x) : i ∈ t ∧ x ∈ tn ∧ ∃ k : Nat, t[k]? = some i ∧ tn[k]? = some x := by
  have hm := lk_mem h
  refine ⟨(List.of_mem_zip hm).1, (List.of_mem_zip hm).2, ?_⟩
  obtain ⟨k, hk⟩ := List.getElem?_of_mem hm
  exact ⟨k, (List.getElem?_zip_eq_some.mp hk).1, (List.getElem?_zip_eq_some.mp hk).2⟩
theorem zip_inj {t : List Nat} {tn : List Str} (hn : tn.Nodup) {i j : Nat} {x : Str} (h1 : (t.zip tn).lookup i = some x) (h2 : (t.zip tn).lookup j = some x) : i = j := by
  obtain ⟨_, _, k, a1, a2⟩ := zip_mem h1
  obtain ⟨_, _, l, b1, b2⟩ := zip_mem h2
  have q1 := List.getElem?_eq_some_iff.mp a2
  have q2 := List.getElem?_eq_some_iff.mp b2
  have : k = l := (List.getElem_inj hn).mp (q1.2.trans q2.2.symm)
  subst this
  rw [a1] at b1; cases b1; rfl
theorem zip_some : ∀ {t : List Nat} {tn : List Str}, t.length = tn.length → ∀ {i : Nat}, i ∈ t → ∃ x, (t.zip tn).lookup i = some x
  | [], _, _, _, h => by cases h
  | _ :: _, [], h, _, _ => by cases h
  | a :: t, x :: tn, hl, i, h => by
    simp only [List.zip_cons_cons, List.lookup_cons]
    by_cases e : i = a
    · subst e; exact ⟨x, by simp⟩
    · rcases List.mem_cons.mp h with q | q
      · exact absurd q e
      · obtain ⟨y, hy⟩ := zip_some (by simpa using hl) q
        exact ⟨y, by rw [show (i == a) = false by simpa using e]; exact hy⟩

theorem relab_lookup {kind : Str → Option NameKind} : ∀ {names : List (Str × NameKind)} {x : Str} {k : NameKind}, names.lookup x = some k → (relab kind names).lookup x = some (if (k == .free && kind x == some .cell) then .cell else k)
  | [], _, _, h => by cases h
  | (y, k') :: r, x, k, h => by
    have ih := @relab_lookup kind r x k
    show List.lookup x ((if (k' == .free && kind y == some .cell) then (y, NameKind.cell) else (y, k')) :: relab kind r) = _
    by_cases e : x = y
    · subst e
      simp only [List.lookup_cons, beq_self_eq_true] at h
      obtain rfl : k' = k := Option.some.inj h
      by_cases q : (k' == NameKind.free && kind x == some .cell) = true
      · rw [if_pos q, if_pos q]; simp [List.lookup_cons]
      · rw [if_neg q, if_neg q]; simp [List.lookup_cons]
    · have e' : (x == y) = false := by simpa using e
      simp only [List.lookup_cons, e'] at h
      by_cases q : (k' == NameKind.free && kind y == some .cell) = true
      · rw [if_pos q]; simp only [List.lookup_cons, e']; exact ih h
      · rw [if_neg q]; simp only [List.lookup_cons, e']; exact ih h
theorem relabel_is {env : Env} {kind : Str → Option NameKind} (h : ∀ x, env.kindOf x = kind x) (hk : env.scope.kind = .function) (sc : Scope) : (relabel sc env).names = relab kind sc.names := by
  unfold relabel relab
  simp only [hk, h, beq_self_eq_true, Bool.and_true]

set_option tactic.hygienic true in
theorem closure_list {env : Env} {f : Str × NameKind → List (Str × Addr) → Sem (ForInStep (List (Str × Addr)))} (h1 : ∀ x a acc, env.cells.lookup x = some a → f (x, .free) acc = pure (.yield ((x, a) :: acc)))
    (h2 : ∀ x k acc, k ≠ .free → f (x, k) acc = pure (.yield acc)) : ∀ (names : List (Str × NameKind)) (acc : List (Str × Addr)), (∀ p ∈ names, p.2 = .free → ∃ a, env.cells.lookup p.1 = some a) → (∀ y b, acc.lookup y = some b → env.cells.lookup y = some b) →
      ∃ cl, forIn names acc f = pure cl ∧ (∀ y b, cl.lookup y = some b → env.cells.lookup y = some b) ∧ (∀ y, (acc.lookup y).isSome → (cl.lookup y).isSome) ∧ ∀ y, (y, NameKind.free) ∈ names → (cl.lookup y).isSome
  | [], acc, _, ha => ⟨acc, rfl, ha, fun _ h => h, fun _ h => by cases h⟩
  | (x, k) :: r, acc, hn, ha => by
    have hr : ∀ p ∈ r, p.2 = .free → ∃ a, env.cells.lookup p.1 = some a := fun p hp => hn p (List.mem_cons_of_mem _ hp)
    by_cases hk : k = .free
    · subst hk
      obtain ⟨a, e⟩ := hn (x, .free) (List.mem_cons_self ..) rfl
      have ha' : ∀ y b, ((x, a) :: acc).lookup y = some b → env.cells.lookup y = some b := fun y b q => by
        simp only [List.lookup_cons] at q
        split at q
        · rename_i q'; cases q; have : y = x := by simpa using q'
          subst this; exact e
        · exact ha y b q
      obtain ⟨cl, c1, c2, c3, c4⟩ := closure_list h1 h2 r ((x, a) :: acc) hr ha'
      have hx : (((x, a) :: acc).lookup x).isSome := by simp [List.lookup_cons]
      refine ⟨cl, ?_, c2, fun y hy => c3 y ?_, fun y hy => ?_⟩
      · rw [List.forIn_cons, h1 x a acc e]; exact c1
      · simp only [List.lookup_cons]; split
        · rfl
        · exact hy
      · rcases List.mem_cons.mp hy with q | q
        · cases q; exact c3 _ hx
        · exact c4 y q
    · obtain ⟨cl, c1, c2, c3, c4⟩ := closure_list h1 h2 r acc hr ha
      refine ⟨cl, ?_, c2, c3, fun y hy => ?_⟩
      · rw [List.forIn_cons, h2 x k acc hk]; exact c1
      · rcases List.mem_cons.mp hy with q | q
        · cases q; exact absurd rfl hk
        · exact c4 y q
theorem closure_ok {env : Env} {sc : Scope} (h : ∀ p ∈ sc.names, p.2 = .free → ∃ a, env.cells.lookup p.1 = some a) : ∃ cl, closureFor sc env = pure cl ∧ ∀ x a, (x, NameKind.free) ∈ sc.names → env.cells.lookup x = some a → cl.lookup x = some a := by
  obtain ⟨cl, c1, c2, _, c4⟩ := closure_list (env := env) (f := fun p cs => if p.2 == .free then do let r ← cellOf env p.1; pure (ForInStep.yield ((p.1, r) :: cs)) else pure (ForInStep.yield cs))
    (fun x a acc e => by simp [cellOf, e]) (fun x k acc hk => by simp [hk]) sc.names [] h (fun y b q => by cases q)
  refine ⟨cl, ?_, fun x a hx e => ?_⟩
  · unfold closureFor
    refine Eq.trans ?_ (congrArg (· >>= pure) c1)
    rfl
  · obtain ⟨b, hb⟩ := Option.isSome_iff_exists.mp (c4 x hx)
    have := c2 x b hb
    rw [e] at this; cases this; exact hb

section
variable {C : Glo} {F : Fm} {X : XM} {c : Cx} {n : Nat} {ρ ρ' ρ₀ : List Addr} {m : MS} {s s' s₀ : Shared} {sc : Scope} {cl : List (Str × Addr)} {t : List Nat} {tn : List Str} {L : Addr}

set_option tactic.hygienic true in
theorem subFm_ok (cx : CxOk C c F n) (h : CompOk c sc t tn) (hL : L ∉ F.W ++ F.V) : FmOk (subFm F sc cl t tn L) where
  loc := List.mem_singleton.mpr rfl
  lay := fun i l e => by
    simp only [subFm] at e ⊢
    split at e
    · cases e; exact List.mem_append_left _ (List.mem_singleton.mpr rfl)
    · exact List.mem_append_right _ (cx.fm.lay i l e)
  inj := fun i j l e1 e2 => by
    simp only [subFm] at e1 e2
    split at e1
    · rename_i x hx
      cases e1
      split at e2
      · rename_i y hy; cases e2; exact zip_inj h.nodup' hx hy
      · exact absurd (cx.fm.lay j _ e2) hL
    · split at e2
      · rename_i y hy; cases e2; exact absurd (cx.fm.lay i _ e1) hL
      · exact cx.fm.inj i j l e1 e2
  kind := by show (relabel sc F.env).kind = .function; exact h.kind
  hn := cx.fm.hn

theorem free_cell (cx : CxOk C c F n) (h : CompOk c sc t tn) : ∀ p ∈ sc.names, p.2 = .free → ∃ a, F.env.cells.lookup p.1 = some a := fun p hp e => by
  obtain ⟨⟨i, h1⟩, h2, _⟩ := h.free p hp e
  rcases cx.nm i _ h1 with ⟨q, _⟩ | ⟨a, _, q, _⟩
  · rw [cx.kind] at q; exact absurd q h2
  · exact ⟨a, q⟩

set_option tactic.hygienic true in
theorem subCx_ok (cx : CxOk C c F n) (h : CompOk c sc t tn) (hL : L ∉ F.W ++ F.V) (hcl : ∀ x a, (x, NameKind.free) ∈ sc.names → F.env.cells.lookup x = some a → cl.lookup x = some a) : CxOk C (subCx c sc t tn) (subFm F sc cl t tn L) n where
  fm := subFm_ok cx h hL
  kind := fun x => by
    show (relabel sc F.env).names.lookup x = (relab c.kind sc.names).lookup x
    rw [relabel_is cx.kind cx.fm.kind]
  nm := fun i x e => by
    have hkk : ∀ x, (subFm F sc cl t tn L).env.kindOf x = (relab c.kind sc.names).lookup x := fun x => by
      show (relabel sc F.env).names.lookup x = _
      rw [relabel_is cx.kind cx.fm.kind]
    simp only [subCx] at e
    split at e
    · rename_i y hy
      cases e
      refine .inl ⟨?_, ?_⟩
      · rw [hkk, relab_lookup (h.tn x (zip_mem hy).2.1)]; rfl
      · simp only [subFm, hy]; rfl
    · rename_i hy
      unfold subNm at e
      split at e
      · rename_i y hy'
        split at e
        · rename_i hf
          cases e
          have hf : sc.names.lookup x = some .free := by simpa using hf
          have hm := lk_mem hf
          obtain ⟨_, k2, k3⟩ := h.free _ hm rfl
          rcases cx.nm i x hy' with ⟨q, _⟩ | ⟨a, q1, q2, q3⟩
          · rw [cx.kind] at q; exact absurd q k2
          · refine .inr ⟨a, ?_, hcl x a hm q2, by simp only [subFm, hy]; exact q3⟩
            rw [hkk, relab_lookup hf]
            by_cases e : c.kind x = some .cell
            · exact .inl (by simp [e])
            · exact .inr ⟨by simp [e], k3⟩
        · cases e
      · cases e
  glob := cx.glob
  units := cx.units
  room := cx.room
  inter := by
    show interactive (compEnvC sc cl L F.env) = false
    unfold interactive
    show ((relabel sc F.env).kind == _ && _) = false
    rw [show (relabel sc F.env).kind = ScopeKind.function from h.kind]; rfl
  wr := fun i a _ e => by cases e
  fr := fun i e => by
    simp only [subCx, Bool.and_eq_true, Bool.not_eq_true'] at e
    simp only [subFm]
    split
    · rename_i x hx
      have := (zip_mem hx).1
      have e2 := e.2
      rw [List.contains_eq_mem] at e2
      simp [this] at e2
    · exact cx.fr i e.1

set_option tactic.hygienic true in
theorem subRel (cx : CxOk C c F n) (R : Rel C F ρ m s) (h : CompOk c sc t tn) (hk : ∀ a o, s.heap.get? a = some o → s'.heap.get? a = some o) (hg : s'.gens = s.gens) (hL : s.heap.get? L = none) (hns : ∃ f, s'.heap.Ns L f) : Rel C (subFm F sc cl t tn L) ρ m s' where
  hp := R.hp.up (fun a o e _ => hk a o e) (fun a _ o e => hk a o e) fun b o e => hk b o (R.hp.base b o e)
  ns := hns
  w := fun a ha => by
    have ha : a ∈ [L] ++ (F.W ++ F.V) := ha
    rcases List.mem_append.mp ha with q | q
    · have : a = L := by simpa using q
      subst this
      refine ⟨fun q => ?_, base_fresh R.hp hL, ?_⟩
      · obtain ⟨o, e⟩ := R.hp.there q; rw [hL] at e; cases e
      · obtain ⟨f, o, es, ep, e1, e2, _⟩ := hns
        exact ⟨o, e1, .inl ⟨es, ep, e2⟩⟩
    · obtain ⟨h1, h2, o, h3, h4⟩ := R.w a q
      exact ⟨h1, h2, o, hk a o h3, h4⟩
  vars := fun i v e => by
    obtain ⟨l, h1, h2⟩ := R.vars i v e
    refine ⟨l, ?_, h2.up (fun a o e _ => hk a o e) (List.prefix_refl _) (fun o e => ⟨o, hk _ o e, rfl, rfl⟩)⟩
    simp only [subFm]
    split
    · rename_i x hx
      rw [cx.fr i (h.fr i (zip_mem hx).1)] at h1; cases h1
    · exact h1
  cells := fun i a e => by
    simp only [subFm] at e
    split at e
    · cases e
    · obtain ⟨v, o, h1, h2⟩ := R.cells i a e
      exact ⟨v, o, hk a o h1, h2⟩
  out := fun e he => by cases he
  gens := hg.trans R.gens
end
end Mine
end
section
set_option autoImplicit false
set_option linter.unusedVariables false
set_option tactic.hygienic false
namespace Mine
open PySem PyProof.Rows

section
variable {C : Glo} {F : Fm} {X : XM} {c : Cx} {n : Nat} {ρ ρ' ρ₀ : List Addr} {m : MS} {s s' s₀ : Shared} {A : Around}

theorem comp_turns {elt target iter : Expr} {ifs : List Expr} {scope : Scope} {pos : Pos} {it acc : Value} {env : Env} {R : Result → Shared → Prop} (I : Nat → Shared → Prop)
    (turn : ∀ k s, I k s → wpAny (mod C) A (pyNext it) (fun r s₁ => match r with
      | none => R (.ok .next) s₁
      | some v => wpAny (mod C) A (letOwnedTupleGo target it v) (fun _ s₂ => wpAny (mod C) A (assign target env v) (fun _ s₃ =>
          wpAny (mod C) A (forIn ifs true fun c r => if r = true then do let ok ← isTrue c env (eval c env); pure (ForInStep.yield ok) else pure (ForInStep.yield r)) (fun ok s₄ =>
            match ok with
            | true => wpAny (mod C) A (eval elt env) (fun x s₅ => wpAny (mod C) A (call (.builtin "list.append") [acc, x]) (fun _ s₆ => ∃ j, j < k ∧ I j s₆) (fun _ _ => False) s₅) (fun _ _ => False) s₄
            | false => ∃ j, j < k ∧ I j s₄) (fun _ _ => False) s₃) (fun _ _ => False) s₂) (fun _ _ => False) s₁) (fun _ _ => False) s)
    (k : Nat) (h : I k s) : codeAny (mod C) A (.compLoop (.ListComp elt [⟨target, iter, ifs, 0⟩] scope pos) 0 it acc env) R s := by
  refine codeAny_loop rfl I (fun k s hI => ?_) k h
  show wpAny _ A ((compTurn (.ListComp elt [⟨target, iter, ifs, 0⟩] scope pos) 0 it acc env).onRaise (fun x => do noteFrame x env; theTreesLotGoes x)) _ _ s
  refine wpAny_noted ?_
  rw [compTurn_list]
  refine wpAny_bind (wpAny_standAt (wpAny_bind (wpAny_mono (turn k s hI) (fun r s₁ h₁ => ?_) fun _ _ h' => h'.elim)))
  cases r with
  | none => exact wpAny_pure h₁
  | some v =>
    refine wpAny_bind (wpAny_mono h₁ (fun _ s₂ h₂ => wpAny_bind (wpAny_mono h₂ (fun _ s₃ h₃ => wpAny_bind (wpAny_mono h₃ (fun ok s₄ h₄ => ?_) fun _ _ h' => h'.elim)) fun _ _ h' => h'.elim)) fun _ _ h' => h'.elim)
    cases ok with
    | false => exact wpAny_pure ⟨rfl, h₄⟩
    | true => exact wpAny_bind (wpAny_bind (wpAny_mono h₄ (fun x s₅ h₅ => wpAny_bind (wpAny_mono h₅ (fun _ s₆ h₆ => wpAny_pure (wpAny_pure ⟨rfl, h₆⟩)) fun _ _ h' => h'.elim)) fun _ _ h' => h'.elim))

theorem ifs_ok (cx : CxOk C c F n) : ∀ {ifs : List ME}, (∀ a ∈ ifs, ST C X n c F a) → ∀ (xs : List Expr), chkEs c ifs xs = true → ∀ (Q : Bool → MS → Prop) (m : MS), wpIfs (Call C) n ifs Q X m →
    WPt C F X (forIn xs true fun c r => if r = true then do let ok ← isTrue c F.env (eval c F.env); pure (ForInStep.yield ok) else pure (ForInStep.yield r)) Q m
  | [], ih, xs, hc, Q, m, h => by
    cases xs with
    | nil => intro s ρ R; exact wpAny_pure ⟨_, _, .refl _ _ _, R, h⟩
    | cons => cases hc
  | e :: es, ih, xs, hc, Q, m, h => by
    cases xs with
    | nil => cases hc
    | cons x xs =>
      replace hc := chkEs_cons hc
      intro s ρ R
      rw [List.forIn_cons]
      refine wpAny_bind ?_
      show wpAny (mod C) F.A (do let ok ← isTrue x F.env (eval x F.env); pure (ForInStep.yield ok)) _ _ _
      refine wpAny_bind ((ih e (by simp) x hc.1.2 _ m h).go R (.refl _ _ _) fun ρ₁ s₁ m₁ b st t1 R₁ h₁ => wpAny_pure ?_)
      show wpAny (mod C) F.A (forIn xs b fun c r => if r = true then do let ok ← isTrue c F.env (eval c F.env); pure (ForInStep.yield ok) else pure (ForInStep.yield r)) _ _ _
      cases b with
      | true => exact wpAny_mono (ifs_ok cx (fun a ha => ih a (List.mem_cons_of_mem _ ha)) xs hc.2 Q m₁ h₁ s₁ ρ₁ R₁) (fun b s' ⟨ρ', m', a, b', c'⟩ => ⟨ρ', m', t1.trans a, b', c'⟩) (Er.back t1)
      | false =>
        have : ∀ (ys : List Expr) (P : Bool → Shared → Prop) (E : Value → Shared → Prop), P false s₁ → wpAny (mod C) F.A (forIn ys false fun c r => if r = true then do let ok ← isTrue c F.env (eval c F.env); pure (ForInStep.yield ok) else pure (ForInStep.yield r)) P E s₁ := by
          intro ys
          induction ys with
          | nil => intro P E hp; exact wpAny_pure hp
          | cons y ys ihy => intro P E hp; rw [List.forIn_cons]; exact wpAny_bind (wpAny_pure (ihy P E hp))
        exact this xs _ _ ⟨_, _, t1, R₁, h₁⟩
termination_by structural ifs => ifs

noncomputable def Let (C : Glo) (F : Fm) (L : Addr) (ρ₀ : List Addr) (s₀ : Shared) (ρ : List Addr) (s : Shared) : Prop :=
  ∀ ρ' m' s', Step F.W ρ s ρ' s' → Rel C F ρ' m' s' → (∃ f, s'.heap.Ns L f) ∧ ∀ h', Heap.SameBut L s'.heap h' → Rel C F ρ' m' { s' with heap := h' } ∧ Step F.W ρ₀ s₀ ρ' { s' with heap := h' } ∧ Solids s'.heap h'
theorem let_ok (cx : CxOk C c F n) {L : Addr} (st₀ : Step F.W ρ₀ s₀ ρ s) (R₀ : Rel C F ρ₀ m s₀) (h0 : s₀.heap.get? L = none) (h1 : L ∉ ρ) (h2 : L ∉ F.W ++ F.V) (h3 : ∃ f, s.heap.Ns L f) : Let C F L ρ₀ s₀ ρ s := by
  intro ρ' m' s' st R
  obtain ⟨f, hf⟩ := h3
  obtain ⟨o, es, ep, e1, e2, e3⟩ := id hf
  have hb := base_fresh R₀.hp h0
  have hL : L ∉ ρ' := fun q => (st.new L q).elim h1 fun q => by rw [q] at e1; cases e1
  have hd : ∀ o, s.heap.get? L = some o → ∃ o', s'.heap.get? L = some o' ∧ o'.data = o.data := fun o e => by
    rcases st.keep L o e h1 (fun q => h2 (List.mem_append_left _ q)) with q | ⟨_, sl, q⟩
    · exact ⟨_, q, rfl⟩
    · exact ⟨_, q, rfl⟩
  have hf' : s'.heap.Ns L f := ns_data hf hd
  refine ⟨⟨f, hf'⟩, fun h' hs => ?_⟩
  obtain ⟨o', g1, g2⟩ := hd o e1
  have hw : WOk s'.heap L := ⟨o', g1, .inl ⟨es, ep, g2.trans e2⟩⟩
  have hsol : Solids s'.heap h' := solids_but (fun b ob q e => (hs.2 b q).trans e) (wok_not_solid hw)
  have sd : Side [L] s' { s' with heap := h' } := ⟨fun b ob hb e => (hs.2 b (by simpa using hb)).trans e, rfl, rfl⟩
  refine ⟨R.side0 cx.fm hsol (fun a ha => ?_) (fun e he L' hL' q => ?_) sd, (st₀.trans st).side sd (fun a ha => ?_), hsol⟩
  · have : a = L := by simpa using ha
    subst this; exact ⟨hL, h2, hb⟩
  · have : L' = L := by simpa using q
    subst this
    obtain ⟨_, L2, ob, _, _, k1, _, _, _, k5, _⟩ := R₀.out e he
    rw [hL'] at k1; cases k1
    rw [h0] at k5; cases k5
  · have : a = L := by simpa using ha
    subst this; exact h0
end
end Mine
end
section
set_option autoImplicit false
set_option linter.unusedVariables false
set_option tactic.hygienic false
namespace Mine
open PySem PyProof.Rows

section
variable {C : Glo} {F : Fm} {X : XM} {c : Cx} {n : Nat} {ρ ρ' ρ₀ : List Addr} {m : MS} {s s' s₀ : Shared} {A : Around}

theorem comp_loop {F' : Fm} {c' : Cx} (cx' : CxOk C c' F' n) {L D : Addr} (hW : F'.W = [L]) {target elt' iter : Expr} {ifs' : List Expr} {elt : ME} {ifs : List ME} {t : List Nat} {many : Bool} {sc : Scope} {pos : Pos} {itv : Value} {items : List MV} {g : Option (Nat × List MV)} {S : List Addr} {It : Nat → List Addr → Shared → Prop}
    (wk : Walk C F'.A target itv items g S It) (hlen : items.length ≤ line) (helt : SV C X n c' F' elt) (hce : chkE c' elt elt' = true) (hifs : ∀ a ∈ ifs, ST C X n c' F' a) (hci : chkEs c' ifs ifs' = true) (ht : chkT c' t many target = true)
    {stp : MV → (Option MV → MS → Prop) → MS → Prop} (hstp : ∀ v P m, stp v P m → asg t many v (fun m => wpIfs (Call C) n ifs (fun b m => match b with
        | true => wpE (Call C) n elt (fun x m => P (some x) m) X m
        | false => P none m) X m) m)
    {Q : List MV → MS → Prop} (R : Rel C F' ρ m s) (h0 : It 0 ρ s) (as : Aside C F' ρ s.heap (D :: S)) (hDS : D ∉ S) {k₀ : Nat} (hD : s.heap.get? D = some (listO [] k₀))
    (h : compL g stp Q items [] m)
    {RR : Result → Shared → Prop} (hk : ∀ ρ' m' s₁ s' acc accv k, Step (L :: D :: S) ρ s ρ' s₁ → Side S s₁ s' → Solids s₁.heap s'.heap → Rel C F' ρ' m' s' → s'.heap.get? D = some (listO accv k) → RepL C ρ' s'.heap acc accv → acc.length ≤ line → Q acc m' → RR (.ok .next) s') :
    codeAny (mod C) F'.A (.compLoop (.ListComp elt' [⟨target, iter, ifs', 0⟩] sc pos) 0 itv (.ref D) F'.env) RR s := by
  have hn := cx'.fm.hn
  refine comp_turns (fun k s₁ => ∃ ρ₁ m₁ i acc accv k₁, k = items.length - i ∧ Step (L :: D :: S) ρ s ρ₁ s₁ ∧ Rel C F' ρ₁ m₁ s₁ ∧ It i ρ₁ s₁ ∧ Aside C F' ρ₁ s₁.heap (D :: S) ∧ s₁.heap.get? D = some (listO accv k₁) ∧ RepL C ρ₁ s₁.heap acc accv ∧ (acc.length ≤ i ∧ i ≤ items.length) ∧
    compL g stp Q (items.drop i) acc m₁) (fun k s₁ hI => ?_) _ ⟨ρ, m, 0, [], [], k₀, rfl, .refl _ _ _, R, h0, as, hD, .nil, ⟨Nat.le_refl _, Nat.zero_le _⟩, by simpa using h⟩
  obtain ⟨ρ₁, m₁, i, acc, accv, k₁, rfl, st₁, R₁, hit, as₁, hD₁, rl, ⟨hal, hil⟩, hf⟩ := hI
  have hsub : ∀ a ∈ S, a ∈ L :: D :: S := fun a ha => List.mem_cons_of_mem _ (List.mem_cons_of_mem _ ha)
  have hsubD : ∀ a ∈ [D], a ∈ L :: D :: S := fun a ha => by
    have : a = D := by simpa using ha
    subst this; exact List.mem_cons_of_mem _ (List.mem_cons_self ..)
  have hsubL : ∀ a ∈ F'.W, a ∈ L :: D :: S := fun a ha => by
    rw [hW] at ha
    have : a = L := by simpa using ha
    subst this; exact List.mem_cons_self ..
  have asS : Aside C F' ρ₁ s₁.heap S := fun a ha => as₁ a (List.mem_cons_of_mem _ ha)
  cases e : items[i]? with
  | none =>
    have hd : items.drop i = [] := by rw [List.drop_eq_nil_iff]; exact List.getElem?_eq_none_iff.mp e
    rw [hd, compL_nil] at hf
    obtain ⟨hg, hq⟩ := hf
    refine wpAny_mono (wk.done i ρ₁ m₁.heap s₁ R₁.hp hg hit e (fun _ _ => False) (fun s₂ => Side S s₁ s₂) fun s₂ sd => sd) (fun r s₂ ⟨hr, sd⟩ => ?_) fun _ _ x => x.elim
    subst hr
    have hsol := asS.solids sd
    exact hk ρ₁ m₁ s₁ s₂ acc accv k₁ st₁ sd hsol (R₁.side cx'.fm asS sd) (sd.1 D _ hDS hD₁) (rl.up hsol (List.prefix_refl _)) (Nat.le_trans hal (Nat.le_trans hil hlen)) hq
  | some x =>
    obtain ⟨hlt, hx⟩ := List.getElem?_eq_some_iff.mp e
    rw [List.drop_eq_getElem_cons hlt, hx, compL_cons] at hf
    obtain ⟨hg, hq⟩ := hf
    refine wk.item i ρ₁ m₁.heap s₁ x R₁.hp hg hit e _ _ _ fun v s₂ sd hit' rv => ?_
    have hsol := asS.solids sd
    have R₂ := R₁.side cx'.fm asS sd
    have sh₂ := wk.shape _ _ _ hit'
    have hD₂ := sd.1 D _ hDS hD₁
    have as₂ : Aside C F' ρ₁ s₂.heap (D :: S) := as₁.shape fun a ha => by
      rcases List.mem_cons.mp ha with rfl | ha
      · exact shp_one hD₂ rfl (by decide) (by decide) a (by simp)
      · exact sh₂ a ha
    have rl₂ := rl.up hsol (List.prefix_refl _)
    have st₂ := st₁.trans (Step.ofSide sd hsub (fun a ha => (asS a ha).2.2.2) sh₂)
    refine wpAny_mono (assign_ok cx' ht rv R₂ (hstp _ _ _ hq) hn) (fun _ s₃ h₃ => ?_) fun _ _ x => x
    obtain ⟨m₃, st₃, R₃, hq₃⟩ := h₃
    refine wpAny_mono ((ifs_ok cx' hifs ifs' hci _ m₃ hq₃).go R₃ st₃ fun ρ₄ s₄ m₄ b st₄ t₄ R₄ h₄ => ?_) (fun b s₄ h₄ => h₄) fun _ _ x => Er.no x
    obtain ⟨as₄, kp₄⟩ := as₂.step t₄
    cases b with
    | false => exact ⟨_, by (first | lia | omega), ρ₄, m₄, i + 1, acc, accv, k₁, rfl, st₂.trans (t₄.mono hsubL), R₄, wk.keep _ _ _ _ _ hit' t₄.pre t₄.solid (fun a ha => kp₄ a (List.mem_cons_of_mem _ ha)), as₄, kp₄ D (List.mem_cons_self ..) _ hD₂, rl₂.step t₄, ⟨Nat.le_succ_of_le hal, hlt⟩, h₄⟩
    | true =>
      refine wpAny_mono ((helt elt' hce _ m₄ h₄).go R₄ t₄ fun ρ₅ s₅ m₅ y w st₅ t₅ R₅ ry h₅ => ?_) (fun b s₅ h₅ => h₅) fun _ _ x => Er.no x
      obtain ⟨as₅, kp₅⟩ := as₂.step t₅
      have hD₅ := kp₅ D (List.mem_cons_self ..) _ hD₂
      have rl₅ := rl₂.step t₅
      refine PySem.wpAny_list_append_plain ⟨_, hD₅⟩ (fun h' hl hs => ?_) (by rw [List.size_toArray, rl₅.length]; exact Nat.le_trans hal (Nat.le_trans (Nat.le_of_lt hlt) hlen))
      obtain ⟨k₆, hl⟩ := hl
      have sd₆ : Side [D] s₅ { s₅ with heap := h' } := ⟨fun b ob hb e => (hs.2 b (by simpa using hb)).trans e, rfl, rfl⟩
      have asD : Aside C F' ρ₅ s₅.heap [D] := fun a ha => as₅ a (by
        have : a = D := by simpa using ha
        subst this; exact List.mem_cons_self ..)
      have hsol₆ := asD.solids sd₆
      have hD₆ : h'.get? D = some (listO (accv ++ [w]) k₆) := by rw [hl]; simp
      have shD : ∀ a ∈ [D], Shp h' a := shp_one hD₆ rfl (by decide) (by decide)
      have kS : ∀ a ∈ S, ∀ o, s₅.heap.get? a = some o → h'.get? a = some o := fun a ha o e => sd₆.1 a o (fun q => by
        have : a = D := by simpa using q
        subst this; exact hDS ha) e
      refine ⟨_, by (first | lia | omega), ρ₅, m₅, i + 1, acc ++ [y], accv ++ [w], k₆, rfl, (st₂.trans (t₅.mono hsubL)).trans (Step.ofSide sd₆ hsubD (fun a ha => (asD a ha).2.2.2) shD), R₅.side cx'.fm asD sd₆,
        wk.keep _ _ _ _ _ hit' t₅.pre (fun a o e h => hsol₆ a o (t₅.solid a o e h) h) (fun a ha o e => kS a ha o (kp₅ a (List.mem_cons_of_mem _ ha) o e)), as₅.shape (fun a ha => ?_), hD₆,
        (rl₅.append (.cons ry .nil)).up hsol₆ (List.prefix_refl _), ⟨by rw [List.length_append]; exact Nat.succ_le_succ hal, hlt⟩, h₅⟩
      rcases List.mem_cons.mp ha with rfl | ha
      · exact shD a (by simp)
      · obtain ⟨o, e1, e2⟩ := (as₅ a (List.mem_cons_of_mem _ ha)).2.2.2
        exact ⟨o, kS a ha o e1, e2⟩
end
end Mine
end
section
set_option autoImplicit false
set_option linter.unusedVariables false
set_option tactic.hygienic false
namespace Mine
open PySem PyProof.Rows

section
variable {C : Glo} {F : Fm} {X : XM} {c : Cx} {n : Nat} {ρ ρ' ρ₀ : List Addr} {m : MS} {s s' s₀ : Shared} {A : Around}

theorem comp_ok (G : GOk C) (cx : CxOk C c F n) {elt : ME} {t : List Nat} {many : Bool} {k : IK} {src ifs : List ME} {elt' : Expr} {g : Comprehension} {sc : Scope} {pos p' : Pos} {xs : List Expr}
    (hasync : g.is_async = 0) (hx : okX g.iter = true) (hen : isEnum k = true → many = true) (hco : compOk c sc t (tgNames g.target) = true) (hxs : itArgs c k g.iter = some xs) (hcs : chkEs c src xs = true)
    (ht : chkT (subCx c sc t (tgNames g.target)) t many g.target = true) (hci : chkEs (subCx c sc t (tgNames g.target)) ifs g.ifs = true) (hce : chkE (subCx c sc t (tgNames g.target)) elt elt' = true)
    (hsrc : ∀ a ∈ src, SV C X n c F a) (helt : ∀ F', CxOk C (subCx c sc t (tgNames g.target)) F' n → SV C X n (subCx c sc t (tgNames g.target)) F' elt)
    (hifs : ∀ F', CxOk C (subCx c sc t (tgNames g.target)) F' n → ∀ a ∈ ifs, ST C X n (subCx c sc t (tgNames g.target)) F' a)
    {Q : PQ} (h : wpE (Call C) n (.comp elt t many k src ifs) Q X m) (R : Rel C F ρ m s) {use : Option (Value → Sem Unit)} {QQ : Value → Shared → Prop}
    (hk : ∀ D L ρ' m' s' i, Step F.W ρ s ρ' s' → Rel C F ρ' m' s' → Rep C ρ' s'.heap (.ref i) (.ref D) → Q (.ref i) m' → Let C F L ρ s ρ' s' → compPost (mod C) F.A (Er C F X ρ s) use QQ (.ref D) L (.ok .next) s') :
    wpAny (mod C) F.A (comprehension (.ListComp elt' [g] sc pos) sc F.env p' (newList []) false (eval g.iter F.env) use) QQ (Er C F X ρ s) s := by
  obtain ⟨target, iter, ifs', isa⟩ := g
  replace h : wpEs (Call C) n src _ X m := h
  simp only at *
  subst hasync
  have hCO := compOk_is hco
  obtain ⟨cl, hcl, hcl'⟩ := closure_ok (free_cell cx hCO)
  have htt := chkT_target ht
  refine wpAny_comprehension_free rfl (okX_folded hx _) hcl hCO.kind hCO.loc (wpAny_mono (soundIt G cx hsrc hxs hcs htt (fun e => by have := hen e; subst this; obtain ⟨a, b, d, e, _⟩ := chkT_many ht; exact ⟨a, b, d, e, trivial⟩)
    (P := fun items g m => compL g (fun v P m => asg t many v (fun m => wpIfs (Call C) n ifs (fun b m => match b with
        | true => wpE (Call C) n elt (fun x m => P (some x) m) X m
        | false => P none m) X m) m) (fun acc m' => Q (.ref m'.heap.length) ⟨m.vars, m'.heap ++ [.list acc]⟩) items [] m) h R) (fun xv s₁ h₁ => wpAny_mono h₁ (fun itv s₂ h₂ => ?_) fun _ _ x => x) fun _ _ x => x)
  obtain ⟨ρ₂, m₂, items, gg, S, It, st₂, R₂, wk, h0, as, hS, hlen, hP⟩ := h₂
  refine wpAny_newObj_type (wpAny_newFunctionEnv hCO.cell (by intro y hy; cases hy) (fun h₁ hns₁ hsb₁ => ?_) hCO.kind)
  dsimp only at hns₁ hsb₁ ⊢
  generalize hH2 : s₂.heap.push { cls := .type "list", dict := none, data := .seq ([] : List Value).toArray } = H2 at hns₁ hsb₁ ⊢
  have hC : H2.objs.size = s₂.heap.objs.size + 1 := by rw [← hH2, Heap.size_push]
  generalize hLL : H2.objs.size = L at hns₁ hsb₁ hC ⊢
  generalize hDD : s₂.heap.objs.size = D at hC ⊢
  have hD0 : s₂.heap.get? D = none := fresh_at (by rw [hDD]; exact Nat.le_refl _)
  have hL0 : s₂.heap.get? L = none := fresh_at (by rw [hDD, hC]; exact Nat.le_succ _)
  have hDL : D ≠ L := by rw [hC]; exact (Nat.succ_ne_self _).symm
  have hk4 : ∀ a o, s₂.heap.get? a = some o → h₁.get? a = some o := fun a o e => by
    have ha : a ≠ L := fun q => by rw [q, hL0] at e; cases e
    exact (hsb₁.2 a ha).trans (Heap.get?_push_of_some _ (hH2 ▸ Heap.get?_push_of_some _ e))
  have hD4 : h₁.get? D = some (listO [] 0) := (hsb₁.2 D hDL).trans (Heap.get?_push_of_some _ (by rw [← hH2, ← hDD]; exact Heap.get?_push_size _ rfl))
  generalize hs4 : ({ s₂ with heap := h₁, toks := s₂.toks + ([] : List (Str × Value)).length } : Shared) = s₄
  have e4 : s₄.heap = h₁ ∧ s₄.gens = s₂.gens ∧ s₄.os = s₂.os := by rw [← hs4]; exact ⟨rfl, rfl, rfl⟩
  rw [← e4.1] at hns₁ hD4 hk4
  have notW : ∀ a, s₂.heap.get? a = none → a ∉ F.W ++ F.V := fun a e q => by
    obtain ⟨_, _, o, e', _⟩ := R₂.w a q; rw [e] at e'; cases e'
  have cx' := subCx_ok (cl := cl) cx hCO (notW L hL0) hcl'
  have R₄ := subRel (cl := cl) (s' := s₄) cx R₂ hCO hk4 e4.2.1 hL0 ⟨_, hns₁⟩
  have hsol4 : Solids s₂.heap s₄.heap := fun a o e _ => hk4 a o e
  have h04 : It 0 ρ₂ s₄ := wk.keep _ _ _ _ _ h0 (List.prefix_refl _) hsol4 fun a _ o e => hk4 a o e
  have hSthere : ∀ a ∈ S, ∃ o, s₂.heap.get? a = some o := fun a ha => by obtain ⟨_, _, _, o, e, _⟩ := as a ha; exact ⟨o, e⟩
  have hDS : D ∉ S := fun q => by obtain ⟨o, e⟩ := hSthere D q; rw [hD0] at e; cases e
  have notρ : ∀ a, s₂.heap.get? a = none → a ∉ ρ₂ := fun a e q => by obtain ⟨o, e'⟩ := R₂.hp.there q; rw [e] at e'; cases e'
  have as4 : Aside C (subFm F sc cl t (tgNames target) L) ρ₂ s₄.heap (D :: S) := fun a ha => by
    rcases List.mem_cons.mp ha with rfl | ha
    · refine ⟨notρ a hD0, fun q => ?_, base_fresh R₂.hp hD0, shp_one hD4 rfl (by decide) (by decide) a (by simp)⟩
      have q : a ∈ [L] ++ (F.W ++ F.V) := q
      rcases List.mem_append.mp q with q | q
      · exact hDL (by simpa using q)
      · exact notW a hD0 q
    · obtain ⟨a1, a2, a3, o, a4, a5⟩ := as a ha
      refine ⟨a1, fun q => ?_, a3, o, hk4 a o a4, a5⟩
      have q : a ∈ [L] ++ (F.W ++ F.V) := q
      rcases List.mem_append.mp q with q | q
      · have : a = L := by simpa using q
        subst this; rw [hL0] at a4; cases a4
      · exact a2 q
  have fin : ∀ ρ' m' s₁' s' acc accv k', Step (L :: D :: S) ρ₂ s₄ ρ' s₁' → Side S s₁' s' → Solids s₁'.heap s'.heap → Rel C (subFm F sc cl t (tgNames target) L) ρ' m' s' → s'.heap.get? D = some (listO accv k') → RepL C ρ' s'.heap acc accv → acc.length ≤ line →
      Q (.ref m'.heap.length) ⟨m₂.vars, m'.heap ++ [.list acc]⟩ → compPost (mod C) F.A (Er C F X ρ s) use QQ (.ref D) L (.ok .next) s' := by
    intro ρ' m' s₁' s' acc accv k' st' sd hsol R' hD' rl hal hq
    have hDρ : D ∉ ρ' := fun q => (st'.new D q).elim (notρ D hD0) fun q => by rw [q] at hD4; cases hD4
    have hLW := R'.w L (List.mem_append_left _ (List.mem_singleton.mpr rfl))
    have hH : Hp C (ρ' ++ [D]) (m'.heap ++ [.list acc]) s'.heap := R'.hp.alloc (fun a o e _ => e) (fun a _ o e => e) R'.hp.base hDρ (base_fresh R₂.hp hD0) ⟨accv, k', hD', rl.up (fun a o e _ => e) (List.prefix_append _ _), hal⟩
    have hkeep : ∀ a o, s₂.heap.get? a = some o → a ∉ ρ₂ → a ∉ S → s'.heap.get? a = some o ∨ (o.cls = .type "frame" ∧ ∃ sl, s'.heap.get? a = some { o with slots := sl }) := fun a o e h1 h2 => by
      have hn : a ∉ L :: D :: S := fun q => by
        rcases List.mem_cons.mp q with rfl | q
        · rw [hL0] at e; cases e
        · rcases List.mem_cons.mp q with rfl | q
          · rw [hD0] at e; cases e
          · exact h2 q
      rcases st'.keep a o (hk4 a o e) h1 hn with q | ⟨q, sl, q'⟩
      · exact .inl (sd.1 a _ h2 q)
      · exact .inr ⟨q, sl, sd.1 a _ h2 q'⟩
    have hKD : ∀ a, a ∉ ρ₂ → a ∉ S → KeepD s₂.heap s'.heap a := fun a h1 h2 o e => by
      rcases hkeep a o e h1 h2 with q | ⟨_, sl, q⟩
      · exact ⟨_, q, rfl, rfl⟩
      · exact ⟨_, q, rfl, rfl⟩
    have hs2 : Solids s₂.heap s'.heap := fun a o e h => hsol a o (st'.solid a o (hk4 a o e) h) h
    have hpre : ρ₂ <+: ρ' ++ [D] := st'.pre.trans (List.prefix_append _ _)
    have hnew : ∀ a ∈ ρ' ++ [D], a ∈ ρ₂ ∨ s₂.heap.get? a = none := fun a ha => by
      rcases List.mem_append.mp ha with q | q
      · exact (st'.new a q).imp id fun q => by
          cases e : s₂.heap.get? a with
          | none => rfl
          | some o => rw [hk4 a o e] at q; cases q
      · have : a = D := by simpa using q
        subst this; exact .inr hD0
    have hgens : s'.gens = s₂.gens := sd.2.1.trans (st'.gens.trans e4.2.1)
    have Rf : Rel C F (ρ' ++ [D]) ⟨m₂.vars, m'.heap ++ [.list acc]⟩ s' := R₂.up cx.fm hs2 hpre hH hnew (fun a ha => hKD a (R₂.w a ha).1 fun q => (as a q).2.1 ha)
      (fun e he L' hL' => by
        obtain ⟨_, L2, o, _, _, k1, _, k3, _, k5, k6, _⟩ := R₂.out e he
        rw [hL'] at k1; cases k1
        refine hKD L' k3 fun q => ?_
        obtain ⟨_, _, _, o2, g1, _, g2⟩ := as L' q
        rw [k5] at g1; cases g1
        exact g2 k6) hgens
    have fr : ∀ a ∈ L :: D :: S, s.heap.get? a = none := fun a ha => by
      rcases List.mem_cons.mp ha with rfl | q
      · exact none_back st₂ hL0
      · rcases List.mem_cons.mp q with rfl | q
        · exact none_back st₂ hD0
        · exact hS a q
    have stf : Step F.W ρ s (ρ' ++ [D]) s' := by
      have g : Step F.W ρ₂ s₂ ρ₂ s₄ := ⟨List.prefix_refl _, fun _ h => .inl h, fun a o e _ _ => .inl (hk4 a o e), hsol4, fun a o e => ⟨o, hk4 a o e⟩, e4.2.1, e4.2.2⟩
      have z := ((st₂.trans g).behind st' fr).side sd fun a ha => hS a ha
      exact ⟨z.pre.trans (List.prefix_append _ _), fun a ha => by
        rcases List.mem_append.mp ha with q | q
        · exact z.new a q
        · have : a = D := by simpa using q
          subst this; exact .inr (none_back st₂ hD0), z.keep, z.solid, z.alive, z.gens, z.os⟩
    refine hk D L (ρ' ++ [D]) _ s' m'.heap.length stf Rf (.ref ?_) hq (let_ok cx stf R (none_back st₂ hL0) (fun q => ?_) (notW L hL0) R'.ns)
    · rw [← R'.hp.len, List.getElem?_append_right (Nat.le_refl _)]; simp
    · rcases List.mem_append.mp q with q | q
      · exact hLW.1 q
      · exact hDL (by simpa using q : L = D).symm
  have loop : codeAny (mod C) F.A (.compLoop (.ListComp elt' [⟨target, iter, ifs', 0⟩] sc pos) 0 itv (.ref D) (compEnvC sc cl L F.env)) (compPost (mod C) F.A (Er C F X ρ s) use QQ (.ref D) L) s₄ :=
    comp_loop cx' rfl wk hlen (helt _ cx') hce (hifs _ cx') hci ht (fun _ _ _ h => h) R₄ h04 as4 hDS hD4 hP fin
  exact codeAny_compStart_list loop (wk.self 0 ρ₂ s₄ h04 _ _ loop)
end
end Mine
end
section
set_option autoImplicit false
set_option linter.unusedVariables false
set_option tactic.hygienic false
namespace Mine
open PySem PyProof.Rows

section
variable {C : Glo} {F : Fm} {X : XM} {c : Cx} {n : Nat}

theorem sv_comp (G : GOk C) (cx : CxOk C c F n) {elt : ME} {t : List Nat} {many : Bool} {k : IK} {src ifs : List ME} (hsrc : ∀ a ∈ src, SV C X n c F a) (helt : ∀ c' F', CxOk C c' F' n → SV C X n c' F' elt)
    (hifs : ∀ c' F', CxOk C c' F' n → ∀ a ∈ ifs, ST C X n c' F' a) : SV C X n c F (.comp elt t many k src ifs) := by
  intro e hc Q m h
  replace hc := onSome_true hc
  obtain ⟨⟨elt', gs, sc⟩, hxx, hc⟩ := hc
  replace hc := onSome_true hc
  obtain ⟨g, hg, hc⟩ := hc
  cases one_eq hg
  obtain ⟨pos, rfl⟩ := xLC_eq hxx
  simp only [Bool.and_eq_true, beq_iff_eq, Bool.or_eq_true, Bool.not_eq_true'] at hc
  obtain ⟨⟨⟨⟨⟨⟨⟨h1, h2⟩, h3⟩, h4⟩, h5⟩, h6⟩, h7⟩, h8⟩ := hc
  obtain ⟨xs, hxs, h5⟩ := onSome_true h5
  intro s ρ R
  have ha : firstAsync [g] = false := by
    obtain ⟨_, _, _, a⟩ := g; simp only at h1; subst h1; rfl
  have hfi : firstIter [g] F.env = eval g.iter F.env := by cases g; rfl
  rw [eval_ListComp, ha, hfi]
  refine comp_ok (use := none) G cx h1 h2 (fun e => h3.resolve_left (by rw [e]; decide)) h4 hxs h5 h6 h7 h8 hsrc (helt _) (hifs _) h R fun D L ρ' m' s' i st R' rx hq hl => ?_
  obtain ⟨⟨f, hf⟩, hs⟩ := hl ρ' m' s' (.refl _ _ _) R'
  refine ⟨f, hf, fun h' hsb => ?_⟩
  obtain ⟨Rf, stf, hsol⟩ := hs h' hsb
  exact ⟨ρ', m', .ref i, stf, Rf, rx.up hsol (List.prefix_refl _), hq⟩

theorem sv_no {me : ME} (h : ∀ e, chkE c me e = false) : SV C X n c F me ∧ ST C X n c F me :=
  ⟨fun e hc => by rw [h e] at hc; exact Bool.noConfusion hc, fun e hc => by rw [h e] at hc; exact Bool.noConfusion hc⟩
theorem sv_both (G : GOk C) (cx : CxOk C c F n) {me : ME} (ia : SV C X n c F me) (hpl : ∀ e, chkE c me e = true → plainT e = true) : SV C X n c F me ∧ ST C X n c F me := ⟨ia, st_plain G cx ia hpl⟩

mutual
theorem sE (G : GOk C) : ∀ (me : ME) (c : Cx) (F : Fm), CxOk C c F n → SV C X n c F me ∧ ST C X n c F me
  | .cst v, c, F, cx => sv_both G cx (sv_cst G cx) pl_cst
  | .var i, c, F, cx => sv_both G cx (sv_var G cx) pl_var
  | .glob g v, c, F, cx => sv_both G cx (sv_glob G cx) pl_glob
  | .bin op a b, c, F, cx => sv_both G cx (sv_bin G cx (sE G a c F cx).1 (sE G b c F cx).1) pl_bin
  | .neg a, c, F, cx => sv_both G cx (sv_neg G cx (sE G a c F cx).1) pl_neg
  | .not a, c, F, cx => ⟨sv_not G cx (sE G a c F cx).1, st_not G cx (sE G a c F cx).2⟩
  | .and es, c, F, cx => ⟨sv_and G cx fun a ha => (sEs G es c F cx a ha).1, st_and G cx fun a ha => (sEs G es c F cx a ha).2⟩
  | .or es, c, F, cx => ⟨sv_or G cx fun a ha => (sEs G es c F cx a ha).1, st_or G cx fun a ha => (sEs G es c F cx a ha).2⟩
  | .cmp op a b, c, F, cx => ⟨sv_cmp G cx (sE G a c F cx).1 (sE G b c F cx).1, st_cmp G cx (sE G a c F cx).1 (sE G b c F cx).1⟩
  | .cmp2 op op' a b d, c, F, cx => ⟨sv_cmp2 G cx (sE G a c F cx).1 (sE G b c F cx).1 (sE G d c F cx).1, st_cmp2 G cx (sE G a c F cx).1 (sE G b c F cx).1 (sE G d c F cx).1⟩
  | .isN p a, c, F, cx => ⟨sv_isN G cx (sE G a c F cx).1, st_isN G cx (sE G a c F cx).1⟩
  | .call f args, c, F, cx => sv_both G cx (sv_call G cx fun a ha => (sEs G args c F cx a ha).1) pl_call
  | .blt b args, c, F, cx => sv_both G cx (sv_blt G cx fun a ha => (sEs G args c F cx a ha).1) pl_blt
  | .mth k o args, c, F, cx => sv_both G cx (sv_mth G cx (sE G o c F cx).1 fun a ha => (sEs G args c F cx a ha).1) pl_mth
  | .umth _ _ _, c, F, cx => sv_no fun e => rfl
  | .new _ _ _, c, F, cx => sv_no fun e => rfl
  | .attr _ _, c, F, cx => sv_no fun e => rfl
  | .idx o i, c, F, cx => sv_both G cx (sv_idx G cx (sE G o c F cx).1 (sE G i c F cx).1) pl_idx
  | .sl o lo hi, c, F, cx => sv_both G cx (sv_sl G cx (sE G o c F cx).1 (sO G lo c F cx) (sO G hi c F cx)) pl_sl
  | .list es, c, F, cx => sv_both G cx (sv_list G cx fun a ha => (sEs G es c F cx a ha).1) pl_list
  | .tup es, c, F, cx => sv_both G cx (sv_tup G cx fun a ha => (sEs G es c F cx a ha).1) pl_tup
  | .dict0, c, F, cx => sv_both G cx (sv_dict0 G cx) pl_dict0
  | .comp elt t many k src ifs, c, F, cx => sv_both G cx (sv_comp G cx (fun a ha => (sEs G src c F cx a ha).1) (fun c' F' cx' => (sE G elt c' F' cx').1) fun c' F' cx' a ha => (sEs G ifs c' F' cx' a ha).2) pl_comp
  | .isi a ts, c, F, cx => sv_both G cx (sv_isi G cx (sE G a c F cx).1) pl_isi
theorem sEs (G : GOk C) : ∀ (es : List ME) (c : Cx) (F : Fm), CxOk C c F n → ∀ a ∈ es, SV C X n c F a ∧ ST C X n c F a
  | [], c, F, cx, a, ha => by cases ha
  | e :: es, c, F, cx, a, ha => (List.mem_cons.mp ha).elim (fun h => h ▸ sE G e c F cx) fun h => sEs G es c F cx a h
theorem sO (G : GOk C) : ∀ (o : Option ME) (c : Cx) (F : Fm), CxOk C c F n → ∀ a, o = some a → SV C X n c F a
  | none, c, F, cx, a, ha => by cases ha
  | some e, c, F, cx, a, ha => (Option.some.inj ha) ▸ (sE G e c F cx).1
end

theorem soundE (G : GOk C) (cx : CxOk C c F n) (me : ME) (e : Expr) (hc : chkE c me e = true) (Q : PQ) (m : MS) (h : wpE (Call C) n me Q X m) : WPv C F X (eval e F.env) Q m := (sE G me c F cx).1 e hc Q m h
theorem soundC (G : GOk C) (cx : CxOk C c F n) (me : ME) (e : Expr) (hc : chkE c me e = true) (Q : Bool → MS → Prop) (m : MS) (h : wpE (Call C) n me (ofBool Q) X m) : WPt C F X (isTrue e F.env (eval e F.env)) Q m := (sE G me c F cx).2 e hc Q m h
end
end Mine
end
section
set_option autoImplicit false
set_option linter.unusedVariables false
set_option tactic.hygienic false
namespace Mine
open PySem PyProof.Rows

noncomputable def isTupE (e : Expr) : Bool := (xTup e).isSome
theorem swapped_no {elts : List Expr} {k : Nat} {p : Pos} {v : Expr} (h : isTupE v = false) (h' : okX v = true) (env : Env) : swappedStores [.Tuple elts k p] v env = pure none :=
  okX_cases (P := fun v => isTupE v = false → swappedStores [.Tuple elts k p] v env = pure none) h' (fun _ _ _ _ => rfl) (fun _ _ _ => rfl) (fun _ _ _ _ _ => rfl) (fun _ _ _ _ => rfl) (fun _ _ _ _ => rfl) (fun _ _ _ _ _ => rfl) (fun _ _ _ _ _ => rfl) (fun _ _ _ _ => rfl) (fun _ _ _ _ => rfl) (fun _ _ _ => rfl) (fun _ _ _ h => by cases h) (fun _ _ _ _ => rfl) (fun _ _ _ _ _ => rfl) h
noncomputable def isCompM : ME → Bool
  | .comp .. => true
  | _ => false

structure VS where
  tag : Nat
  p : Pos := noPos
  e1 : Expr := noE
  e2 : Expr := noE
  b1 : List Stmt := []
  b2 : List Stmt := []
noncomputable def viewS : Stmt → VS
  | .Assign ts e2 p => match ts with
    | [e1] => { tag := 0, e1, e2, p }
    | _ => { tag := 7 }
  | .Expr e1 p => { tag := 1, e1, p }
  | .If e1 b1 b2 p => { tag := 2, e1, b1, b2, p }
  | .For e1 e2 b1 b2 p => { tag := 3, e1, e2, b1, b2, p }
  | .While e1 b1 b2 p => { tag := 4, e1, b1, b2, p }
  | .Return o p => match o with
    | some e1 => { tag := 5, e1, p }
    | none => { tag := 8, p }
  | .Continue p => { tag := 6, p }
  | _ => { tag := 7 }
noncomputable def backS (v : VS) : Nat → Option Stmt
  | 0 => some (.Assign [v.e1] v.e2 v.p)
  | 1 => some (.Expr v.e1 v.p)
  | 2 => some (.If v.e1 v.b1 v.b2 v.p)
  | 3 => some (.For v.e1 v.e2 v.b1 v.b2 v.p)
  | 4 => some (.While v.e1 v.b1 v.b2 v.p)
  | 5 => some (.Return (some v.e1) v.p)
  | 6 => some (.Continue v.p)
  | 8 => some (.Return none v.p)
  | _ => none
theorem viewS_eq (e : Stmt) : ∀ x, backS (viewS e) (viewS e).tag = some x → e = x := by
  cases e with
  | Assign ts v p =>
    cases ts with
    | nil => exact fun x h => nomatch h
    | cons a r => cases r <;> first | exact fun x h => Option.some.inj h | exact fun x h => nomatch h
  | Return v p => cases v <;> exact fun x h => Option.some.inj h
  | _ => first | exact fun x h => Option.some.inj h | exact fun x h => nomatch h
theorem viewS_at {e : Stmt} {n : Nat} {x : Stmt} (h : (viewS e).tag = n) (hx : backS (viewS e) n = some x) : e = x := viewS_eq e x (h ▸ hx)
noncomputable def isTag (st : Stmt) (n : Nat) : Bool := (viewS st).tag == n
theorem isTag_eq {e : Stmt} {n : Nat} {x : Stmt} (h : isTag e n = true) (hx : backS (viewS e) n = some x) : e = x := viewS_at (eq_of_beq h) hx

mutual
noncomputable def chkS (c : Cx) : MSt → Stmt → Bool
  | .asg t many e, st => isTag st 0 && (chkT c t many (viewS st).e1 && okX (viewS st).e2 && (!many || !isTupE (viewS st).e2) && (!isComp (viewS st).e2 || isCompM e) && chkE c e (viewS st).e2)
  | .setAttr _ _ _, _ => false
  | .setIdx o i e, st => isTag st 0 && (okX (viewS st).e2 && !isComp (viewS st).e2 && chkE c e (viewS st).e2 && onSome (xSub (viewS st).e1) fun q => chkE c o q.1 && chkE c i q.2)
  | .expr e, st => isTag st 1 && (okX (viewS st).e1 && !isComp (viewS st).e1 && chkE c e (viewS st).e1)
  | .ite d a b, st => isTag st 2 && (chkE c d (viewS st).e1 && chkSs c a (viewS st).b1 && chkSs c b (viewS st).b2)
  | .for_ t many k src body, st => isTag st 3 && ((viewS st).b2.isEmpty && chkT c t many (viewS st).e1 && (!isEnum k || many) && okX (viewS st).e2 && onSome (itArgs c k (viewS st).e2) (fun xs => chkEs c src xs) && chkSs c body (viewS st).b1)
  | .while_ d body, st => isTag st 4 && ((viewS st).b2.isEmpty && chkE c d (viewS st).e1 && chkSs c body (viewS st).b1)
  | .ret e, st => isTag st 5 && chkE c e (viewS st).e1
  | .cont, st => isTag st 6
  | .raise _, _ => true
  | .try_ _ _ _ _, _ => false
noncomputable def chkSs (c : Cx) : List MSt → List Stmt → Bool
  | [], xs => xs.isEmpty
  | s :: ss, xs => match xs with
    | [] => false
    | x :: xs => chkS c s x && chkSs c ss xs
end

section
variable {C : Glo} {F : Fm} {X : XM} {c : Cx} {n : Nat} {ρ ρ' ρ₀ : List Addr} {m : MS} {s s' s₀ : Shared} {A : Around} {E : Value → Shared → Prop}

inductive FlR (C : Glo) (ρ : List Addr) (h : Heap) : Fl → Flow → Prop
  | next : FlR C ρ h .next .next
  | brk : FlR C ρ h .brk .brk
  | cont : FlR C ρ h .cont .cont
  | ret {x v} : Rep C ρ h x v → FlR C ρ h (.ret x) (.ret v)

noncomputable def OutF (C : Glo) (F : Fm) (ρ : List Addr) (s : Shared) (Q : Fl → MS → Prop) : Flow → Shared → Prop :=
  fun f s' => ∃ ρ' m' fl, Step F.W ρ s ρ' s' ∧ Rel C F ρ' m' s' ∧ FlR C ρ' s'.heap fl f ∧ Q fl m'
theorem OutF.back {Q : Fl → MS → Prop} (st : Step F.W ρ₀ s₀ ρ s) : ∀ f s', OutF C F ρ s Q f s' → OutF C F ρ₀ s₀ Q f s' :=
  fun _ _ ⟨ρ', m', x, a, b⟩ => ⟨ρ', m', x, st.trans a, b⟩
noncomputable def WPs (C : Glo) (F : Fm) (X : XM) (t : Sem Flow) (Q : Fl → MS → Prop) (m : MS) : Prop :=
  ∀ s ρ, Rel C F ρ m s → wpAny (mod C) F.A t (OutF C F ρ s Q) (Er C F X ρ s) s


theorem for_ok (cx : CxOk C c F n) {target : Expr} {itv : Value} {items : List MV} {g : Option (Nat × List MV)} {S : List Addr} {It : Nat → List Addr → Shared → Prop} (wk : Walk C F.A target itv items g S It)
    {st : MV → (Fl → MS → Prop) → MS → Prop} {Q : Fl → MS → Prop} {body : List Stmt} (hS : ∀ a ∈ S, s₀.heap.get? a = none)
    (hb : ∀ x v ρ m s (P : Fl → MS → Prop) (E : Value → Shared → Prop), Rel C F ρ m s → Rep C ρ s.heap x v → st x P m → wpAny (mod C) F.A (assign target F.env v) (fun _ s₁ => wpAny (mod C) F.A (execs body F.env) (OutF C F ρ s P) E s₁) E s)
    (st₀ : Step F.W ρ₀ s₀ ρ s) (R : Rel C F ρ m s) (h0 : It 0 ρ s) (as : Aside C F ρ s.heap S) (h : forL g st Q items m) (P : Value → Shared → Prop) :
    codeAny (mod C) F.A (.forLoop target itv body [] F.env) (fun r s' => match r with | .ok f => OutF C F ρ₀ s₀ Q f s' | .error e => P e s') s := by
  refine codeAny_forLoop_any (fun k s => ∃ ρ m i, k = items.length - i ∧ Step F.W ρ₀ s₀ ρ s ∧ Rel C F ρ m s ∧ It i ρ s ∧ Aside C F ρ s.heap S ∧ forL g st Q (items.drop i) m) (fun k s hI => ?_) _ ⟨ρ, m, 0, rfl, st₀, R, h0, as, by simpa using h⟩
  obtain ⟨ρ, m, i, rfl, st₁, R, hit, as, hf⟩ := hI
  cases e : items[i]? with
  | none =>
    have : items.drop i = [] := by rw [List.drop_eq_nil_iff]; exact List.getElem?_eq_none_iff.mp e
    rw [this, forL_nil] at hf
    obtain ⟨hg, hq⟩ := hf
    refine wpAny_mono (wk.done i ρ m.heap s R.hp hg hit e (fun _ _ => False) (fun s₂ => Side S s s₂) fun s₂ sd => sd) (fun r s₁ ⟨hr, sd⟩ => ?_) fun _ _ x => x.elim
    subst hr
    exact wpAny_execs_nil ⟨ρ, m, .next, st₁.side sd hS, R.side cx.fm as sd, .next, hq⟩
  | some x =>
    obtain ⟨hlt, hx⟩ := List.getElem?_eq_some_iff.mp e
    rw [List.drop_eq_getElem_cons hlt, hx, forL_cons] at hf
    obtain ⟨hg, hq⟩ := hf
    refine wk.item i ρ m.heap s x R.hp hg hit e _ _ _ fun v s₂ sd hit' rv => ?_
    have R₂ := R.side cx.fm as sd
    have st₂ := st₁.side sd hS
    refine wpAny_mono (hb x v ρ m s₂ _ _ R₂ rv hq) (fun _ s₃ h₃ => wpAny_mono h₃ (fun f s₄ h₄ => ?_) fun _ _ x => x) fun _ _ x => x
    obtain ⟨ρ₄, m₄, fl, st₄, R₄, hfl, hq₄⟩ := h₄
    obtain ⟨as₄, kp₄⟩ := (as.shape (wk.shape _ _ _ hit')).step st₄
    have hit₄ := wk.keep _ _ _ _ _ hit' st₄.pre st₄.solid kp₄
    cases hfl with
    | next => exact ⟨_, by (first | lia | omega), ρ₄, m₄, i + 1, rfl, st₂.trans st₄, R₄, hit₄, as₄, hq₄⟩
    | cont => exact ⟨_, by (first | lia | omega), ρ₄, m₄, i + 1, rfl, st₂.trans st₄, R₄, hit₄, as₄, hq₄⟩
    | brk => exact ⟨ρ₄, m₄, .next, st₂.trans st₄, R₄, .next, hq₄⟩
    | ret rv => exact ⟨ρ₄, m₄, .ret _, st₂.trans st₄, R₄, .ret rv, hq₄⟩

theorem dset_stored : ∀ {es : List (List Nat × MV)} {kvs : List (Str × Value)} {h : Heap}, RepK C ρ h es kvs → (kvs.map (·.1)).Nodup → ∀ {k : List Nat} {x : MV} {v : Value}, Rep C ρ h x v → RepK C ρ h (dset es k x) (stored kvs (str k) v)
  | _, _, _, .nil, _, k, x, v, r => by
    simp only [dset, stored]
    exact .cons r .nil
  | _, _, _, @RepK.cons _ _ _ k' x' v' es ds a b, hn, k, x, v, r => by
    simp only [List.map_cons, List.nodup_cons] at hn
    unfold dset
    by_cases e : k' = k
    · subst e
      simp only [beq_self_eq_true]
      have e1 : stored ((str k', v') :: ds) (str k') v = (str k', v) :: ds := by
        unfold stored
        rw [if_pos (by simp)]
        simp only [List.map_cons, if_true]
        congr 1
        conv => rhs; rw [← List.map_id ds]
        refine List.map_congr_left fun p hp => ?_
        rw [if_neg (fun q => hn.1 (by rw [← q]; exact List.mem_map.mpr ⟨p, hp, rfl⟩))]; rfl
      rw [e1]
      exact .cons r b
    · have e2 : ¬ str k' = str k := fun q => e (str_inj q)
      have e1 : (k' == k) = false := by simpa using e
      simp only [e1]
      have e3 : stored ((str k', v') :: ds) (str k) v = (str k', v') :: stored ds (str k) v := by
        unfold stored
        simp only [List.any_cons, e2, decide_false, Bool.false_or, List.map_cons, if_false]
        split <;> rfl
      rw [e3]
      exact .cons a (dset_stored b hn.2 r)
theorem dset_len : ∀ (es : List (List Nat × MV)) (k : List Nat) (x : MV), (dset es k x).length ≤ es.length + 1
  | [], _, _ => Nat.le_refl _
  | (k', x') :: r, k, x => by
    unfold dset
    split
    · simp
    · have := dset_len r k x; simp only [List.length_cons]; (first | lia | omega)

theorem swaps_some {v : Expr} (h : okX v = true) (x : Str) (px : Pos) (l : Nat) (env : Env) : ∃ b, swapsWith v (some (.Name x px)) l env = pure b := by
  cases hi : isComp v with
  | false => exact ⟨false, swaps_no hi h _ _ _⟩
  | true =>
    unfold isComp at hi
    obtain ⟨k, hk⟩ := Option.isSome_iff_exists.mp hi
    obtain ⟨p, rfl⟩ := xLC_eq hk
    exact ⟨_, rfl⟩
theorem swaps_tup {v : Expr} (h : okX v = true) (elts : List Expr) (k : Nat) (p : Pos) (l : Nat) (env : Env) : swapsWith v (some (.Tuple elts k p)) l env = pure false := by
  cases hi : isComp v with
  | false => exact swaps_no hi h _ _ _
  | true =>
    unfold isComp at hi
    obtain ⟨k, hk⟩ := Option.isSome_iff_exists.mp hi
    obtain ⟨p, rfl⟩ := xLC_eq hk
    rfl
theorem compM_is {e : ME} (h : isCompM e = true) : ∃ elt t many k src ifs, e = .comp elt t many k src ifs := by
  unfold isCompM at h
  split at h
  · exact ⟨_, _, _, _, _, _, rfl⟩
  · cases h
theorem swaps_comp {v : Expr} {t : Option Expr} {l : Nat} {env : Env} (h' : okX v = true) (h : swapsWith v t l env = pure true) : isComp v = true := by
  cases hi : isComp v with
  | true => rfl
  | false =>
    rw [swaps_no hi h'] at h
    exact absurd h (by intro h; injection h with h; cases h)
theorem asg_comp (G : GOk C) (cx : CxOk C c F n) {e : ME} {v : Expr} {i : Nat} {x : Str} {px pos : Pos} (hx : c.nm i = some x) (hk : c.kind x = some .local ∨ (c.wr = true ∧ c.kind x ≠ some .free)) (hm : isCompM e = true) (he : chkE c e v = true)
    (hb : swapsWith v (some (.Name x px)) pos.line F.env = pure true) {Q : Fl → MS → Prop} (h : wpE (Call C) n e (fun v m => asg [i] false v (fun m => Q .next m) m) X m) (R : Rel C F ρ m s) :
    wpAny (mod C) F.A (exec (.Assign [.Name x px] v pos) F.env) (OutF C F ρ s Q) (Er C F X ρ s) s := by
  obtain ⟨elt, t, many, k, src, ifs, rfl⟩ := compM_is hm
  rw [exec_Assign_Name_used _ _ _ _ hb]
  replace he := onSome_true he
  obtain ⟨⟨elt', gs, sc⟩, hxx, he⟩ := he
  replace he := onSome_true he
  obtain ⟨g, hg, he⟩ := he
  cases one_eq hg
  obtain ⟨pos', rfl⟩ := xLC_eq hxx
  simp only [Bool.and_eq_true, beq_iff_eq, Bool.or_eq_true, Bool.not_eq_true'] at he
  obtain ⟨⟨⟨⟨⟨⟨⟨h1, h2⟩, h3⟩, h4⟩, h5⟩, h6⟩, h7⟩, h8⟩ := he
  obtain ⟨xs, hxs, h5⟩ := onSome_true h5
  have ha : firstAsync [g] = false := by
    obtain ⟨_, _, _, a⟩ := g; simp only at h1; subst h1; rfl
  refine wpAny_bind (wpAny_standAt (wpAny_bind ?_))
  show wpAny _ F.A (do let _ ← comprehension (.ListComp elt' [g] sc pos') sc F.env (firstIterPos [g] pos') (newList []) (firstAsync [g]) (firstIter [g] F.env) (some (assign (.Name x px) F.env))) _ _ s
  have hfi : firstIter [g] F.env = eval g.iter F.env := by cases g; rfl
  rw [ha, hfi]
  refine wpAny_bind (wpAny_mono (comp_ok (use := some (assign (.Name x px) F.env)) (QQ := fun _ s' => OutF C F ρ s Q .next s') G cx h1 h2 (fun e => h3.resolve_left (by rw [e]; decide)) h4 hxs h5 h6 h7 h8 (fun a ha => (sEs G src c F cx a ha).1)
    (fun F' cx' => (sE G elt _ F' cx').1) (fun F' cx' a ha => (sEs G ifs _ F' cx' a ha).2) h R fun D L ρ' m' s' j st R' rx hq hl => ?_) (fun _ s' hq => wpAny_pure (wpAny_pure hq)) fun _ _ x => x)
  show wpAny _ _ (assign (.Name x px) F.env (.ref D)) _ _ _
  refine PyProof.Rows.assign_Name (store_var cx R' hx hk rx fun s₂ st2 R₂ => ?_)
  obtain ⟨⟨f, hf⟩, hs⟩ := hl ρ' _ s₂ st2 R₂
  refine ⟨f, hf, fun h' hsb => ?_⟩
  obtain ⟨Rf, stf, hsol⟩ := hs h' hsb
  exact ⟨ρ', _, .next, stf, Rf, .next, hq⟩

noncomputable def SS (C : Glo) (X : XM) (n : Nat) (c : Cx) (F : Fm) (me : MSt) : Prop := ∀ (e : Stmt), chkS c me e = true → ∀ (Q : Fl → MS → Prop) (m : MS), wpS (Call C) n me Q X m → WPs C F X (exec e F.env) Q m
noncomputable def SSs (C : Glo) (X : XM) (n : Nat) (c : Cx) (F : Fm) (ss : List MSt) : Prop := ∀ (es : List Stmt), chkSs c ss es = true → ∀ (Q : Fl → MS → Prop) (m : MS), wpSs (Call C) n ss Q X m → WPs C F X (execs es F.env) Q m

theorem ss_asg (G : GOk C) (cx : CxOk C c F n) {t : List Nat} {many : Bool} {e : ME} : SS C X n c F (.asg t many e) := by
  intro st hc Q m h
  obtain ⟨hv, hc⟩ := and_t hc
  rw [isTag_eq hv rfl]
  generalize (viewS st).e1 = tg at *
  generalize (viewS st).e2 = v at *
  generalize (viewS st).p = pos at *
  simp only [Bool.and_eq_true, Bool.not_eq_true', Bool.or_eq_true] at hc
  obtain ⟨⟨⟨⟨ht, ho⟩, hm⟩, hcm⟩, he⟩ := hc
  intro s ρ R
  cases many with
  | false =>
    obtain ⟨i, x, px, rfl, rfl, h1, h2⟩ := chkT_one ht
    obtain ⟨b, hb⟩ := swaps_some ho x px pos.line F.env
    cases b with
    | false =>
      refine wpAny_Assign_Name ((soundE G cx e v he _ m h).go R (.refl _ _ _) fun ρ₁ s₁ m₁ y w st t1 R₁ rx h₁ => ?_) hb
      exact store_var cx R₁ h1 (setOk_is h2) rx fun s₂ st2 R₂ => ⟨ρ₁, _, .next, t1.trans st2, R₂, .next, h₁⟩
    | true => exact asg_comp G cx h1 (setOk_is h2) (hcm.resolve_left (by rw [swaps_comp ho hb]; decide)) he hb h R
  | true =>
    obtain ⟨elts, k, p, rfl, _⟩ := chkT_many ht
    have hm' : isTupE v = false := by rcases hm with hm | hm <;> first | cases hm | exact hm
    refine PyProof.Rows.Assign_Tuple ((soundE G cx e v he _ m h).go R (.refl _ _ _) fun ρ₁ s₁ m₁ y w st t1 R₁ rx h₁ => ?_) (by show swapsWith v (some (.Tuple elts k p)) pos.line F.env = _; exact swaps_tup ho elts k p pos.line F.env) (swapped_no hm' ho _)
    exact wpAny_mono (assign_ok cx ht rx R₁ h₁ cx.fm.hn) (fun _ s₂ ⟨m', st2, R₂, q⟩ => ⟨ρ₁, m', .next, t1.trans st2, R₂, .next, q⟩) fun _ _ x => x

set_option tactic.hygienic true in
theorem ss_setIdx (G : GOk C) (cx : CxOk C c F n) {o i e : ME} : SS C X n c F (.setIdx o i e) := by
  intro st hc Q m h
  obtain ⟨hv, hc⟩ := and_t hc
  rw [isTag_eq hv rfl]
  generalize (viewS st).e1 = tg at *
  generalize (viewS st).e2 = v at *
  generalize (viewS st).p = pos at *
  simp only [Bool.and_eq_true, Bool.not_eq_true'] at hc
  obtain ⟨⟨⟨hox, hcomp⟩, he⟩, ho⟩ := hc
  replace ho := onSome_true ho
  obtain ⟨⟨ov, iv⟩, hx, ho⟩ := ho
  obtain ⟨p, rfl⟩ := xSub_eq hx
  rw [Bool.and_eq_true] at ho
  obtain ⟨ho, hi⟩ := ho
  intro s ρ R
  refine wpAny_Assign_Subscript ((soundE G cx e v he _ m h).go R (.refl _ _ _) fun ρ₁ s₁ m₁ x xv st t1 R₁ rx h₁ => ?_) (swaps_no hcomp hox _ _ _)
  refine (soundE G cx o ov ho _ m₁ h₁).go R₁ t1 fun ρ₂ s₂ m₂ y yv st2 t2 R₂ ry h₂ => ?_
  refine (soundE G cx i iv hi _ m₂ h₂).go R₂ t2 fun ρ₃ s₃ m₃ z zv st3 t3 R₃ rz h₃ => ?_
  split at h₃
  · rename_i r k
    split at h₃
    · rename_i es hes
      obtain ⟨hlen, hq⟩ := h₃
      have ry' := ry.step st3
      have rx' := (rx.step st2).step st3
      cases ry' with | @ref _ a g =>
      cases rz with | str _ t z =>
      obtain ⟨kvs, dk, rk, zz⟩ := R₃.hp.objs _ _ _ hes g
      refine wpAny_setItem_pairs (knd := strKind C.prog C.w) (k := str k) (strKind_is _ _ _ _) dk (fun h' hd hs => ?_) (by rw [rk.length]; exact Nat.le_of_lt hlen)
      have hk : ∀ b ob, b ≠ a → s₃.heap.get? b = some ob → h'.get? b = some ob := fun b ob q e => (hs.2 b q).trans e
      have hsol : Solids s₃.heap h' := solids_but hk (repO_not_solid (R₃.hp.objs _ _ _ hes g))
      have hnd : (kvs.map (·.1)).Nodup := by obtain ⟨_, _, _, _, _, _, _, _, hn⟩ := dk; exact hn
      obtain ⟨R₄, st₄⟩ := R₃.put (s' := { s₃ with heap := h', toks := s₃.toks + 1 }) cx.fm g hes (o := .dict (dset es k x)) hk rfl rfl
        ⟨_, hd, (dset_stored rk hnd rx').up hsol (List.prefix_refl _), Nat.le_trans (dset_len es k x) hlen⟩
      exact ⟨_, _, .next, t3.trans st₄, R₄, .next, hq⟩
    · exact h₃.elim
  · exact h₃.elim

theorem ss_expr (G : GOk C) (cx : CxOk C c F n) {e : ME} : SS C X n c F (.expr e) := by
  intro st hc Q m h
  obtain ⟨hv, hc⟩ := and_t hc
  simp only [Bool.and_eq_true, Bool.not_eq_true'] at hc
  rw [isTag_eq hv rfl]
  intro s ρ R
  refine wpAny_Expr ((soundE G cx e _ hc.2 _ m h).go R (.refl _ _ _) fun ρ₁ s₁ m₁ y w st t1 R₁ rx h₁ => ?_) cx.inter (swaps_no hc.1.2 hc.1.1 _ _ _)
  cases rx with
  | none => exact ⟨_, _, .next, t1, R₁, .next, h₁⟩
  | bool => exact ⟨_, _, .next, t1, R₁, .next, h₁⟩
  | int => exact ⟨_, _, .next, t1, R₁, .next, h₁⟩
  | str => exact ⟨_, _, .next, t1, R₁, .next, h₁⟩
  | _ => exact h₁.elim

theorem ss_ite (G : GOk C) (cx : CxOk C c F n) {d : ME} {a b : List MSt} (ia : SSs C X n c F a) (ib : SSs C X n c F b) : SS C X n c F (.ite d a b) := by
  intro st hc Q m h
  obtain ⟨hv, hc⟩ := and_t hc
  simp only [Bool.and_eq_true] at hc
  obtain ⟨⟨hd, ha⟩, hb⟩ := hc
  rw [isTag_eq hv rfl]
  intro s ρ R
  refine wpAny_If ((soundC G cx d _ hd _ m h).go R (.refl _ _ _) fun ρ₁ s₁ m₁ t st t1 R₁ h₁ => ?_)
  cases t with
  | true => exact wpAny_mono (ia _ ha Q m₁ h₁ s₁ ρ₁ R₁) (OutF.back t1) (Er.back t1)
  | false => exact wpAny_mono (ib _ hb Q m₁ h₁ s₁ ρ₁ R₁) (OutF.back t1) (Er.back t1)

theorem ss_for (G : GOk C) (cx : CxOk C c F n) {t : List Nat} {many : Bool} {k : IK} {src : List ME} {body : List MSt} (ib : SSs C X n c F body) : SS C X n c F (.for_ t many k src body) := by
  intro st hc Q m h
  obtain ⟨hv, hc⟩ := and_t hc
  simp only [Bool.and_eq_true, List.isEmpty_iff] at hc
  obtain ⟨⟨⟨⟨⟨hb2, ht⟩, hm⟩, hx⟩, hi⟩, hb⟩ := hc
  have ev := isTag_eq hv rfl
  rw [hb2] at ev
  rw [ev]
  intro s ρ R
  obtain ⟨xs, hxs, hi⟩ := onSome_true hi
  refine wpAny_For (wpAny_mono (soundIt G cx (fun a ha => (sEs G src c F cx a ha).1) hxs hi (chkT_target ht) (fun e => by
    have hm : many = true := by simpa [e] using hm
    subst hm
    obtain ⟨a, b, d, e, _⟩ := chkT_many ht
    exact ⟨a, b, d, e, trivial⟩) (P := fun items g m => forL g (fun v P m => asg t many v (fun m => wpSs (Call C) n body P X m) m) Q items m) h R) (fun xv s₁ h₁ => wpAny_mono h₁ (fun itv s₂ h₂ => ?_) fun _ _ x => x) fun _ _ x => x) (okX_folded hx _)
  obtain ⟨ρ₂, m₂, items, g, S, It, st₂, R₂, wk, h0, as, hS, _, hf⟩ := h₂
  refine for_ok cx wk hS (fun x v ρ m s P E R rv hst => ?_) st₂ R₂ h0 as hf _
  refine wpAny_mono (assign_ok cx ht rv R hst cx.fm.hn) (fun _ s₁ ⟨m', st1, R₁, q⟩ => ?_) fun _ _ x => x
  exact wpAny_mono (ib _ hb P m' q s₁ ρ R₁) (OutF.back st1) fun _ _ x => Er.no x

theorem ss_while (G : GOk C) (cx : CxOk C c F n) {d : ME} {body : List MSt} (ib : SSs C X n c F body) : SS C X n c F (.while_ d body) := by
  intro st hc Q m h
  obtain ⟨hv, hc⟩ := and_t hc
  simp only [Bool.and_eq_true, List.isEmpty_iff] at hc
  obtain ⟨⟨hb2, hd⟩, hb⟩ := hc
  have ev := isTag_eq hv rfl
  rw [hb2] at ev
  rw [ev]
  obtain ⟨k, h⟩ := h
  intro s ρ R
  refine wpAny_While (codeAny_whileLoop (fun k s₁ => ∃ ρ₁ m₁, Step F.W ρ s ρ₁ s₁ ∧ Rel C F ρ₁ m₁ s₁ ∧ whileN (fun P m => wpE (Call C) n d (ofBool P) X m) (fun P m => wpSs (Call C) n body P X m) Q k m₁) (fun k s₁ hI => ?_) k ⟨ρ, m, .refl _ _ _, R, h⟩)
  obtain ⟨ρ₁, m₁, st₁, R₁, hw⟩ := hI
  cases k with
  | zero => rw [whileN_zero] at hw; exact hw.elim
  | succ k =>
    rw [whileN_succ] at hw
    refine wpAny_mono (soundC G cx d _ hd _ m₁ hw s₁ ρ₁ R₁) (fun t s₂ ⟨ρ₂, m₂, st₂, R₂, h₂⟩ => ?_) fun _ _ x => Er.no x
    cases t with
    | true =>
      rw [if_pos rfl]
      refine wpAny_mono (ib _ hb _ m₂ h₂ s₂ ρ₂ R₂) (fun f s₃ ⟨ρ₃, m₃, fl, st₃, R₃, hfl, h₃⟩ => ?_) fun _ _ x => Er.no x
      have stt := (st₁.trans st₂).trans st₃
      cases hfl with
      | next => exact ⟨k, Nat.lt_succ_self k, ρ₃, m₃, stt, R₃, h₃⟩
      | cont => exact ⟨k, Nat.lt_succ_self k, ρ₃, m₃, stt, R₃, h₃⟩
      | brk => exact ⟨ρ₃, m₃, .next, stt, R₃, .next, h₃⟩
      | ret rv => exact ⟨ρ₃, m₃, .ret _, stt, R₃, .ret rv, h₃⟩
    | false =>
      rw [if_neg (by decide)]
      exact wpAny_execs_nil ⟨ρ₂, m₂, .next, st₁.trans st₂, R₂, .next, h₂⟩

theorem ss_ret (G : GOk C) (cx : CxOk C c F n) {e : ME} : SS C X n c F (.ret e) := by
  intro st hc Q m h
  obtain ⟨hv, hc⟩ := and_t hc
  rw [isTag_eq hv rfl]
  intro s ρ R
  exact wpAny_Return_some ((soundE G cx e _ hc _ m h).go R (.refl _ _ _) fun ρ₁ s₁ m₁ y w st t1 R₁ rx h₁ => ⟨_, _, _, t1, R₁, .ret rx, h₁⟩)
theorem ss_cont : SS C X n c F .cont := by
  intro st hc Q m h
  rw [isTag_eq hc rfl]
  intro s ρ R
  exact wpAny_Continue ⟨_, _, _, .refl _ _ _, R, .cont, h⟩
theorem sss_nil : SSs C X n c F [] := by
  intro es hc Q m h
  cases es with
  | nil => intro s ρ R; exact wpAny_execs_nil ⟨_, _, _, .refl _ _ _, R, .next, h⟩
  | cons => cases hc
theorem sss_cons {x : MSt} {ss : List MSt} (ix : SS C X n c F x) (iss : SSs C X n c F ss) : SSs C X n c F (x :: ss) := by
  intro es hc Q m h
  cases es with
  | nil => cases hc
  | cons e es =>
    replace hc := and_t hc
    intro s ρ R
    refine wpAny_execs_cons (wpAny_mono (ix e hc.1 _ m h s ρ R) (fun f s₁ ⟨ρ₁, m₁, fl, st, R₁, hfl, h₁⟩ => ?_) fun _ _ x => x)
    cases hfl with
    | next => exact wpAny_mono (iss es hc.2 Q m₁ h₁ s₁ ρ₁ R₁) (OutF.back st) (Er.back st)
    | brk => exact ⟨_, _, _, st, R₁, .brk, h₁⟩
    | cont => exact ⟨_, _, _, st, R₁, .cont, h₁⟩
    | ret rv => exact ⟨_, _, _, st, R₁, .ret rv, h₁⟩
theorem ss_no {me : MSt} (h : ∀ e, chkS c me e = false) : SS C X n c F me := fun e hc => by rw [h e] at hc; cases hc

mutual
theorem soundS (G : GOk C) (cx : CxOk C c F n) : ∀ (me : MSt), SS C X n c F me
  | .asg t many e => ss_asg G cx
  | .setAttr _ _ _ => ss_no fun e => rfl
  | .setIdx o i e => ss_setIdx G cx
  | .expr e => ss_expr G cx
  | .ite d a b => ss_ite G cx (soundSs G cx a) (soundSs G cx b)
  | .for_ t many k src body => ss_for G cx (soundSs G cx body)
  | .while_ d body => ss_while G cx (soundSs G cx body)
  | .ret e => ss_ret G cx
  | .cont => ss_cont
  | .raise _ => fun e hc Q m h => False.elim h
  | .try_ _ _ _ _ => ss_no fun e => rfl
theorem soundSs (G : GOk C) (cx : CxOk C c F n) : ∀ (ss : List MSt), SSs C X n c F ss
  | [] => sss_nil
  | x :: ss => sss_cons (soundS G cx x) (soundSs G cx ss)
end
end
end Mine
end
section
set_option autoImplicit false
set_option linter.unusedVariables false
set_option tactic.hygienic false
namespace Mine
open PySem PyProof.Rows

noncomputable def mkCx (sc : Scope) (ns : List Str) (fn : Nat → Option Str) (gl : Nat → Option (Str × MV)) : Cx := ⟨fun x => sc.names.lookup x, fun i => ns[i]?, fn, gl, true, fun i => decide (ns.length ≤ i)⟩

noncomputable def Globs (C : Glo) (g b : Addr) (fn : Nat → Option Str) (gl : Nat → Option (Str × MV)) : Prop :=
  ∃ mg mb, C.base.Ns g mg ∧ C.base.Ns b mb ∧ (∀ f x, fn f = some x → ∃ a, C.fa f = some a ∧ mg x = some (.ref a)) ∧
    (∀ g x v, gl g = some (x, v) → ∃ w, mg x = some w ∧ ∀ ρ h, C.base.StaysIn h → Rep C ρ h v w) ∧ (∀ x v, (x, v) ∈ bltNames → mg x = none ∧ mb x = some v)

noncomputable def namesOk (sc : Scope) (ps ns : List Str) : Bool :=
  ps.isPrefixOf ns && decide ns.Nodup && ns.all (fun x => sc.names.lookup x == some .local || (sc.names.lookup x == some .cell && ((cellsFrom 0 sc.names []).lookup x).isSome))

structure FnIs (C : Glo) (fn : Nat → Option Str) (gl : Nat → Option (Str × MV)) (d : Fn) (a : Addr) : Prop where
  is : ∃ o fd body ps ns, C.base.get? a = some o ∧ o.data = .func fd ∧ C.base.CodeRec fd.code fd.qualname ∧ fd.body = .stmts body ∧ fd.closure = [] ∧ fd.scope.isCoroutine = false ∧ fd.scope.isGenerator = false ∧
    fd.scope.kind = .function ∧ (∀ vals : List Value, vals.length = ps.length → bindArgs fd ⟨vals, []⟩ = pure (ps.zip vals)) ∧ ps.length = d.args ∧ namesOk fd.scope ps ns = true ∧
    chkSs (mkCx fd.scope ns fn gl) d.body body = true ∧ Globs C fd.globals fd.builtins fn gl

noncomputable def FnsOk (C : Glo) (fn : Nat → Option Str) (gl : Nat → Option (Str × MV)) (P : Nat → Option Fn) : Prop := ∀ f d a, P f = some d → C.fa f = some a → FnIs C fn gl d a

theorem cellsFrom_some : ∀ (names : List (Str × NameKind)) (n k : Nat) (acc acc' : List (Str × Addr)) (x : Str), (∀ y, (acc.lookup y).isSome = (acc'.lookup y).isSome) → ((cellsFrom n names acc).lookup x).isSome = ((cellsFrom k names acc').lookup x).isSome
  | [], n, k, acc, acc', x, h => h x
  | (y, kd) :: r, n, k, acc, acc', x, h => by
    unfold cellsFrom
    split
    · refine cellsFrom_some r _ _ _ _ x fun z => ?_
      simp only [List.lookup_cons]
      split
      · rfl
      · exact h z
    · exact cellsFrom_some r _ _ _ _ x h

section
variable {C : Glo} {ρ : List Addr} {h : Heap}

theorem zip_get {ps : List Str} {ws : List Value} (hl : ws.length = ps.length) {i : Nat} {x : Str} {w : Value} (e1 : ps[i]? = some x) (e2 : ws[i]? = some w) : (ps.zip ws)[i]? = some (x, w) := by
  rw [List.getElem?_zip_eq_some]; exact ⟨e1, e2⟩

theorem bindL_other (k : Str → Option NameKind) : ∀ (l : List (Str × Value)) (m : Str → Option Value) (x : Str), (∀ p ∈ l, p.1 ≠ x) → bindL k l m x = m x
  | [], m, x, _ => rfl
  | (n, v) :: r, m, x, h => by
    unfold bindL
    rw [bindL_other k r _ x fun p hp => h p (List.mem_cons_of_mem _ hp)]
    have : n ≠ x := h _ (List.mem_cons_self ..)
    split
    · exact if_neg fun q : x = n => this q.symm
    · rfl
theorem bindC_other (k : Str → Option NameKind) : ∀ (l : List (Str × Value)) (m : Str → Option Value) (x : Str), (∀ p ∈ l, p.1 ≠ x) → bindC k l m x = m x
  | [], m, x, _ => rfl
  | (n, v) :: r, m, x, h => by
    unfold bindC
    rw [bindC_other k r _ x fun p hp => h p (List.mem_cons_of_mem _ hp)]
    have : n ≠ x := h _ (List.mem_cons_self ..)
    split
    · rfl
    · exact if_neg fun q : x = n => this q.symm
theorem bindL_get (k : Str → Option NameKind) : ∀ (l : List (Str × Value)) (m : Str → Option Value) (x : Str) (w : Value), (l.map (·.1)).Nodup → (x, w) ∈ l → k x = some .local → bindL k l m x = some w
  | (n, v) :: r, m, x, w, hn, hm, hk => by
    simp only [List.map_cons, List.nodup_cons] at hn
    unfold bindL
    rcases List.mem_cons.mp hm with e | hm
    · cases e
      rw [bindL_other k r _ _ fun p hp q => hn.1 (List.mem_map.mpr ⟨p, hp, q⟩), if_pos hk]; simp
    · exact bindL_get k r _ x w hn.2 hm hk
theorem bindC_get (k : Str → Option NameKind) (l : List (Str × Value)) (m : Str → Option Value) (x : Str) (w : Value) (hn : (l.map (·.1)).Nodup) (hm : (x, w) ∈ l) (hk : k x ≠ some .local) : bindC k l m x = some w := by
  induction l generalizing m with
  | nil => cases hm
  | cons p r ih =>
    obtain ⟨n, v⟩ := p
    simp only [List.map_cons, List.nodup_cons] at hn
    unfold bindC
    rcases List.mem_cons.mp hm with e | hm
    · cases e
      rw [bindC_other k r _ _ fun p hp q => hn.1 (List.mem_map.mpr ⟨p, hp, q⟩), if_neg hk]; simp
    · exact ih _ hn.2 hm

set_option tactic.hygienic true in
theorem start_get {d : Fn} {vs : List MV} {hp : List MO} {i : Nat} {v : MV} (e : (start d vs hp).get i = some v) : vs[i]? = some v := by
  unfold start MS.get at e
  simp only at e
  split at e
  · rename_i w hw
    cases e
    rcases Nat.lt_or_ge i (vs.map some).length with hi | hi
    · rw [List.getElem?_append_left hi, List.getElem?_map] at hw
      cases q : vs[i]? with
      | none => rw [q] at hw; cases hw
      | some u => rw [q] at hw; cases hw; rfl
    · rw [List.getElem?_append_right hi, List.getElem?_replicate] at hw
      split at hw <;> cases hw
  · cases e

noncomputable def inFm (A : Around) (env : Env) (ns : List Str) : Fm where
  env := env
  A := A.deeper env
  W := env.locals :: ns.filterMap (fun x => if env.kindOf x = some .local then none else env.cells.lookup x)
  V := []
  lay := fun i => match ns[i]? with
    | some x => if env.kindOf x = some .local then some (.nm env.locals x) else match env.cells.lookup x with
      | some c => some (.cl c)
      | none => none
    | none => none
  outer := []

set_option tactic.hygienic true in
theorem call_core (G : GOk C) {fn : Nat → Option Str} {gl : Nat → Option (Str × MV)} {P : Nat → Option Fn} (H : FnsOk C fn gl P) {n f : Nat} {vs : List MV} {Q : MV → List MO → Prop} {X : XT} {hp : List MO} {d : Fn} (hP : P f = some d) (hlen : vs.length = d.args)
    (hw : wpSs (Call C) n d.body (fin Q) (fun c m => X c m.heap) (start d vs hp)) {A : Around} {s : Shared} {ws : List Value} {a : Addr} (hA : A.handled = none) (hH : Hp C ρ hp s.heap) (hgens : s.gens = #[]) (rl : RepL C ρ s.heap vs ws)
    (hroom : A.depth + (n + 1) ≤ 999) (hunits : A.units ≤ 3 * A.depth + 4) (hfa : C.fa f = some a) {E : Value → Shared → Prop} :
    wpAny (mod C) A (call (.ref a) ws) (fun v s' => ∃ ρ' hp' x, Step [] ρ s ρ' s' ∧ Hp C ρ' hp' s'.heap ∧ Rep C ρ' s'.heap x v ∧ Q x hp') E s := by
  obtain ⟨o, fd, body, ps, ns, ho, hd, hcd, hbody, hclo, hco, hgen, hk, hbind, hps, hns, hchk, hgl⟩ := (H f d a hP hfa).is
  simp only [namesOk, Bool.and_eq_true, decide_eq_true_eq, List.all_eq_true, Bool.or_eq_true, beq_iff_eq] at hns
  obtain ⟨⟨hpre, hnd⟩, hall⟩ := hns
  have hpre : ps <+: ns := List.isPrefixOf_iff_prefix.mp hpre
  have hwl : ws.length = ps.length := by rw [rl.length, hlen, hps]
  have hmem : ∀ x ∈ ps, x ∈ ns := fun x hx => hpre.subset hx
  have hcellS : ∀ k x, ((cellsFrom k fd.scope.names []).lookup x).isSome = ((cellsFrom 0 fd.scope.names []).lookup x).isSome := fun k x => cellsFrom_some _ _ _ _ _ _ fun _ => rfl
  have hzip : ∀ p ∈ ps.zip ws, p.1 ∈ ps := fun p hp => (List.of_mem_zip (a := p.1) (b := p.2) hp).1
  have hzn : ((ps.zip ws).map (·.1)).Nodup := by
    rw [List.map_fst_zip (by (first | lia | omega))]
    exact hnd.sublist hpre.sublist
  refine wpAny_call (codeAny_call_cells (by show _ < 1000; (first | lia | omega)) (hH.base _ _ ho) hd (G.nolimit.keeps hH.base) (hcd.keeps hH.base) hbody (hbind ws hwl) hclo (fun x hx => ?_) (fun s₁ ic => ?_) hco hgen hk)
  · rcases hall _ (hmem _ (hzip x hx)) with q | ⟨q, q'⟩
    · exact .inl q
    · exact .inr ⟨q, by rw [hcellS]; exact q'⟩
  · generalize henv : callEnvC fd s.heap.objs.size a = env at ic ⊢
    have eL : env.locals = s.heap.objs.size := by rw [← henv]; rfl
    have eK : ∀ x, env.kindOf x = fd.scope.names.lookup x := fun x => by rw [← henv]; rfl
    have eC : env.cells = cellsFrom (s.heap.objs.size + 1) fd.scope.names [] := by rw [← henv]; rfl
    have eS : env.scope = fd.scope := by rw [← henv]; rfl
    have eG : env.globals = fd.globals ∧ env.builtins = fd.builtins := by rw [← henv]; exact ⟨rfl, rfl⟩
    obtain ⟨⟨⟨h₁, tk, hs₁⟩, hns1, hkeep, hfresh⟩, hcell, hapart, habove⟩ := ic
    have fL : s.heap.get? env.locals = none := fresh_at hfresh
    have hcl : ∀ x c, env.cells.lookup x = some c → s₁.heap.IsCell c (bindC env.kindOf (ps.zip ws) (fun _ => none) x) ∧ s.heap.get? c = none := fun x c e => by
      refine ⟨hcell x c e, fresh_at ?_⟩
      have := habove x c (mem_of_lookup e)
      exact Nat.le_of_lt (Nat.lt_of_le_of_lt hfresh this)
    have hg1 : s₁.gens = s.gens ∧ s₁.os = s.os := by rw [hs₁]; exact ⟨rfl, rfl⟩
    have hW : ∀ b ∈ (inFm A env ns).W, s.heap.get? b = none ∧ WOk s₁.heap b := fun b hb => by
      rcases List.mem_cons.mp hb with rfl | hb
      · obtain ⟨o, es, ep, e1, e2, _⟩ := hns1
        exact ⟨fL, o, e1, .inl ⟨es, ep, e2⟩⟩
      · obtain ⟨x, hx, e⟩ := List.mem_filterMap.mp hb
        split at e
        · cases e
        · obtain ⟨⟨o, e1, e2⟩, e3⟩ := hcl x b e
          exact ⟨e3, o, e1, .inr ⟨_, e2⟩⟩
    have hlay : ∀ i l, (inFm A env ns).lay i = some l → ∃ x, ns[i]? = some x ∧ ((env.kindOf x = some .local ∧ l = .nm env.locals x) ∨ (env.kindOf x ≠ some .local ∧ ∃ c, env.cells.lookup x = some c ∧ l = .cl c)) := fun i l e => by
      simp only [inFm] at e
      split at e
      · rename_i x hx
        refine ⟨x, hx, ?_⟩
        split at e
        · rename_i q; cases e; exact .inl ⟨q, rfl⟩
        · rename_i q
          split at e
          · rename_i c hc; cases e; exact .inr ⟨q, c, hc, rfl⟩
          · cases e
      · cases e
    have hidx : ∀ (i j : Nat) (x : Str), ns[i]? = some x → ns[j]? = some x → i = j := fun i j x e1 e2 => by
      have h1 := List.getElem?_eq_some_iff.mp e1
      have h2 := List.getElem?_eq_some_iff.mp e2
      exact (List.getElem_inj hnd).mp (h1.2.trans h2.2.symm)
    have ok' : FmOk (inFm A env ns) := by
      refine ⟨List.mem_cons_self .., fun i l e => ?_, fun i j l e1 e2 => ?_, ?_, hA⟩
      · obtain ⟨x, hx, ⟨q, rfl⟩ | ⟨q, c, hc, rfl⟩⟩ := hlay i l e
        · exact List.mem_cons_self ..
        · refine List.mem_append_left _ (List.mem_cons_of_mem _ (List.mem_filterMap.mpr ⟨x, List.mem_of_getElem? hx, ?_⟩))
          rw [if_neg q]; exact hc
      · obtain ⟨x, hx, q1⟩ := hlay i l e1
        obtain ⟨y, hy, q2⟩ := hlay j l e2
        rcases q1 with ⟨_, rfl⟩ | ⟨_, c, hc, rfl⟩
        · rcases q2 with ⟨_, q⟩ | ⟨_, c', _, q⟩
          · cases q; exact hidx i j x hx hy
          · cases q
        · rcases q2 with ⟨_, q⟩ | ⟨_, c', hc', q⟩
          · cases q
          · cases q
            have := name_of_addr hapart (mem_of_lookup hc) (mem_of_lookup hc')
            subst this
            exact hidx i j x hx hy
      · show env.scope.kind = .function
        rw [eS]; exact hk
    have cx : CxOk C (mkCx fd.scope ns fn gl) (inFm A env ns) n := by
      refine ⟨ok', fun x => eK x, fun i x e => ?_, ?_, ?_, ?_, ?_, fun i a e _ => (List.mem_append.mp (ok'.lay i _ e)).elim id (fun q => nomatch q), fun i e => ?_⟩
      · have hx : ns[i]? = some x := e
        rcases hall x (List.mem_of_getElem? hx) with q | ⟨q, q'⟩
        · refine .inl ⟨(eK x).trans q, ?_⟩
          simp only [inFm, hx, eK, q, if_true]
        · have hne : fd.scope.names.lookup x ≠ some .local := by rw [q]; intro q; cases q
          rw [← hcellS (s.heap.objs.size + 1), ← eC] at q'
          obtain ⟨c, hc⟩ := Option.isSome_iff_exists.mp q'
          refine .inr ⟨c, .inl ((eK x).trans q), hc, ?_⟩
          simp only [inFm, hx, eK, q, hc]
          rfl
      · show Globs C env.globals env.builtins fn gl
        rw [eG.1, eG.2]; exact hgl
      · show A.units + 3 ≤ 3 * (A.depth + 1) + 4
        (first | lia | omega)
      · show A.depth + 1 + n ≤ 999
        (first | lia | omega)
      · show interactive env = false
        unfold interactive
        rw [eS, hk]; rfl
      · have e : ns.length ≤ i := by simpa [mkCx] using e
        simp only [inFm, List.getElem?_eq_none e]
    have hk' : ∀ b ob, s.heap.get? b = some ob → s₁.heap.get? b = some ob := hkeep
    have hs0 : Solids s.heap s₁.heap := fun b ob e _ => hk' b ob e
    have R₁ : Rel C (inFm A env ns) ρ (start d vs hp) s₁ := by
      refine ⟨?_, ⟨_, hns1⟩, fun b hb => ?_, fun i v e => ?_, fun i c e => ?_, fun e he => (by cases he), hg1.1.trans hgens⟩
      · show Hp C ρ hp s₁.heap
        exact hH.up hs0 (fun b _ ob e => hk' b ob e) fun b ob e => hk' b ob (hH.base b ob e)
      · have hb : b ∈ (inFm A env ns).W := (List.mem_append.mp hb).elim id fun q => by cases q
        obtain ⟨h1, h2⟩ := hW b hb
        refine ⟨fun q => ?_, base_fresh (m := ⟨[], hp⟩) hH h1, h2⟩
        obtain ⟨o', e'⟩ := Hp.there (m := ⟨[], hp⟩) hH q
        rw [h1] at e'; cases e'
      · have hv := start_get e
        obtain ⟨w, hw1, hw2⟩ := rl.get hv
        have hi : i < ps.length := by rw [← hwl]; exact (List.getElem?_eq_some_iff.mp hw1).1
        have hpi : ps[i]? = some ps[i] := List.getElem?_eq_getElem hi
        have hni : ns[i]? = some ps[i] := by
          obtain ⟨t, rfl⟩ := hpre
          rw [List.getElem?_append_left hi]; exact hpi
        have hz : (ps[i], w) ∈ ps.zip ws := List.mem_of_getElem? (zip_get hwl hpi hw1)
        rcases cx.nm i ps[i] hni with ⟨q1, q2⟩ | ⟨c, q1, q2, q3⟩
        · refine ⟨_, q2, _, w, hns1, ?_, hw2.up hs0 (List.prefix_refl _)⟩
          exact bindL_get _ _ _ _ _ hzn hz q1
        · refine ⟨_, q3, w, ?_, hw2.up hs0 (List.prefix_refl _)⟩
          have := (hcl ps[i] c q2).1
          rw [bindC_get _ _ _ _ w hzn hz] at this
          · exact this
          · intro q
            have q1' : env.kindOf ps[i] = some .cell ∨ env.kindOf ps[i] = some .free ∧ cdc ps[i] = false := q1
            rw [q] at q1'
            rcases q1' with q1' | ⟨q1', _⟩ <;> cases q1'
      · obtain ⟨x, hx, ⟨q, q'⟩ | ⟨q, c', hc, q'⟩⟩ := hlay i _ e
        · cases q'
        · cases q'; exact ⟨_, (hcl x c hc).1⟩
    refine wpAny_mono (soundSs G cx d.body body hchk (fin Q) (start d vs hp) (X := fun c m => X c m.heap) hw s₁ ρ R₁) (fun fl s' hf => ?_) fun _ _ x => Er.no x
    obtain ⟨ρ', m', f', st, R', hfl, hq⟩ := hf
    have key : ∀ v x, Rep C ρ' s'.heap x v → Q x m'.heap → ∃ ρ' hp' x, Step [] ρ s ρ' s' ∧ Hp C ρ' hp' s'.heap ∧ Rep C ρ' s'.heap x v ∧ Q x hp' := fun v x rx hq => by
      have hnW : ∀ b ob, s.heap.get? b = some ob → b ∉ (inFm A env ns).W := fun b ob e q => by rw [(hW b q).1] at e; cases e
      have hnew : ∀ b ∈ ρ', b ∈ ρ ∨ s.heap.get? b = none := fun b hb => (st.new b hb).imp id fun q => by
        cases e : s.heap.get? b with
        | none => rfl
        | some ob => rw [hk' b ob e] at q; cases q
      exact ⟨ρ', m'.heap, x, ⟨st.pre, hnew, fun b ob e h1 _ => st.keep b ob (hk' b ob e) h1 (hnW b ob e), fun b ob e hsd => st.solid b ob (hk' b ob e) hsd, fun b ob e => st.alive b ob (hk' b ob e), st.gens.trans hg1.1, st.os.trans hg1.2⟩, R'.hp, rx, hq⟩
    cases hfl with
    | next => exact key .none .none .none hq
    | brk => exact hq.elim
    | cont => exact hq.elim
    | ret rv => exact key _ _ rv hq

set_option tactic.hygienic true in
theorem closed (G : GOk C) {fn : Nat → Option Str} {gl : Nat → Option (Str × MV)} {P : Nat → Option Fn} (H : FnsOk C fn gl P) : Closed P (Call C) := by
  intro n f vs Q X hp d hP hlen hw F m s ρ ws a okF hm R rl hroom hunits hfa
  refine wpAny_mono (call_core G H hP hlen hw okF.hn (by rw [← hm]; exact R.hp) R.gens rl hroom hunits hfa) (fun v s' ⟨ρ', hp', x, st, hH, rx, hq⟩ => ?_) fun _ _ x => x
  have hD : ∀ b ob, s.heap.get? b = some ob → b ∉ ρ → KeepD s.heap s'.heap b := fun b ob e hb ob' e' => by
    rw [e] at e'; cases e'
    rcases st.keep b ob e hb (by simp) with q | ⟨_, sl, q⟩
    · exact ⟨_, q, rfl, rfl⟩
    · exact ⟨_, q, rfl, rfl⟩
  refine ⟨ρ', ⟨m.vars, hp'⟩, x, ⟨st.pre, st.new, fun b ob e h1 _ => st.keep b ob e h1 (by simp), st.solid, st.alive, st.gens, st.os⟩, ?_, rx, rfl, hq⟩
  refine R.up okF st.solid st.pre hH st.new (fun b hb => ?_) (fun e he L hL => ?_) st.gens
  · obtain ⟨h1, _, ob, e, _⟩ := R.w b hb
    exact hD b ob e h1
  · obtain ⟨_, L', ob, _, _, g1, _, g3, _, g5, _⟩ := R.out e he
    rw [hL] at g1; cases g1
    exact hD L ob g5 g3
end
end Mine
end
section
set_option autoImplicit false
set_option linter.unusedVariables false
set_option tactic.hygienic false
namespace Mine
open PySem PyProof.Rows

noncomputable abbrev Tab := List (Nat × Str × List Str × Fn)
noncomputable def fnOf (tab : Tab) (f : Nat) : Option Str := (tab.lookup f).map (·.1)
noncomputable def fnP (tab : Tab) (f : Nat) : Option Fn := (tab.lookup f).map (·.2.2)
noncomputable def mkFa (fn : Nat → Option Str) (mg : Str → Option Value) (f : Nat) : Option Addr := match fn f with
  | some x => match mg x with
    | some (.ref a) => some a
    | _ => none
  | none => none

noncomputable def chkRec (fn : Nat → Option Str) (gl : Nat → Option (Str × MV)) (ns : List Str) (d : Fn) (r : DefRec) : Bool :=
  r.params.posonlyargs.isEmpty && r.params.vararg.isNone && r.params.kwonlyargs.isEmpty && r.params.kwarg.isNone && !r.scope.isCoroutine && !r.scope.isGenerator && r.scope.kind == .function &&
  (r.params.args.map (·.arg)).length == d.args && namesOk r.scope (r.params.args.map (·.arg)) ns && chkSs (mkCx r.scope ns fn gl) d.body r.body
noncomputable def tabOk (recs : List DefRec) (tab : Tab) (gl : Nat → Option (Str × MV)) : Bool :=
  tab.all fun e => recs.any fun r => r.name == e.2.1 && chkRec (fnOf tab) gl e.2.2.1 e.2.2.2 r
noncomputable def bltOk (p : Program) (loose : List Str) : Bool :=
  bltNames.all fun q => !startupNames.contains q.1 && !loose.contains q.1 && !((recsOf p).map (·.name)).contains q.1 && !((litsOf p).map (·.1)).contains q.1 && !((clssOf p loose).map (·.name)).contains q.1 && !(q.1 == ("__name__" : Str)) &&
    match bootBuiltins q.1, q.2 with
    | some (.builtin a), .builtin b => a == b
    | some (.type a), .type b => a == b
    | _, _ => false

set_option tactic.hygienic true in
theorem lookup_mem {α : Type} : ∀ {l : List (Nat × α)} {k : Nat} {v : α}, l.lookup k = some v → (k, v) ∈ l
  | [], k, v, h => by cases h
  | (a, b) :: r, k, v, h => by
    rw [List.lookup_cons] at h
    split at h
    · rename_i e
      cases h
      have : k = a := by simpa using e
      subst this
      exact List.mem_cons_self ..
    · exact List.mem_cons_of_mem _ (lookup_mem h)

set_option tactic.hygienic true in
theorem lookup_zip : ∀ {ps : List Str} {vs : List Value} {x : Str}, vs.length = ps.length → x ∈ ps → ((ps.zip vs).lookup x).isSome = true
  | [], _, _, _, h => by cases h
  | p :: ps, [], _, h, _ => by cases h
  | p :: ps, v :: vs, x, hl, h => by
    rw [List.zip_cons_cons, List.lookup_cons]
    split
    · rfl
    · rename_i e
      refine lookup_zip (by simpa using hl) ?_
      rcases List.mem_cons.mp h with rfl | h
      · simp at e
      · exact h
theorem filterMap_zip : ∀ {ps : List Str} {vs : List Value} (pre : List (Str × Value)), vs.length = ps.length → ps.Nodup → (∀ x ∈ ps, pre.lookup x = none) → ps.filterMap (fun n => ((pre ++ ps.zip vs).lookup n).map (n, ·)) = ps.zip vs
  | [], _, _, _, _, _ => rfl
  | p :: ps, [], _, h, _, _ => by cases h
  | p :: ps, v :: vs, pre, hl, hn, hp => by
    rw [List.nodup_cons] at hn
    have e1 : (pre ++ (p :: ps).zip (v :: vs)).lookup p = some v := by
      rw [List.lookup_append, hp p (List.mem_cons_self ..)]
      simp [List.lookup_cons]
    rw [List.filterMap_cons, e1]
    simp only [Option.map_some]
    rw [List.zip_cons_cons]
    congr 1
    have e2 : pre ++ (p, v) :: ps.zip vs = (pre ++ [(p, v)]) ++ ps.zip vs := by simp
    rw [e2]
    refine filterMap_zip (pre ++ [(p, v)]) (by simpa using hl) hn.2 fun x hx => ?_
    rw [List.lookup_append, hp x (List.mem_cons_of_mem _ hx)]
    have : (x == p) = false := by
      cases e : x == p with
      | false => rfl
      | true => have : x = p := by simpa using e
                subst this; exact absurd hx hn.1
    simp [List.lookup_cons, this]

theorem bind_plain' {fd : FuncData} {vals : List Value} (h1 : fd.params.posonlyargs = []) (h2 : fd.params.vararg = none) (h3 : fd.params.kwonlyargs = []) (h4 : fd.params.kwarg = none) (h5 : fd.defaults = .none)
    (e5 : (decide (vals.length > (fd.params.args.map (·.arg)).length)) = false) (e2 : (fd.params.args.map (·.arg)).filter (fun n => (((fd.params.args.map (·.arg)).zip vals).lookup n).isNone) = [])
    (e3 : (fd.params.args.map (·.arg)).filterMap (fun n => (((fd.params.args.map (·.arg)).zip vals).lookup n).map (n, ·)) = (fd.params.args.map (·.arg)).zip vals) : bindArgs fd ⟨vals, []⟩ = pure ((fd.params.args.map (·.arg)).zip vals) := by
  obtain ⟨a1, a2, ⟨b1, b2, b3, b4, b5, b6, b7⟩, a4, a5, a6, a7, a8, a9, a10, a11, a12, a13, a14, a15⟩ := fd
  dsimp only at h1 h2 h3 h4 h5 e5 e2 e3 ⊢
  subst h1 h2 h3 h4 h5
  refine (if_neg (c := (decide (vals.length > (b2.map (·.arg)).length) && true) = true) (by rw [e5]; decide)).trans ?_
  have hd : ∀ k, List.drop k ((none : Option (Array Value)).getD #[]).toList = [] := fun k => List.drop_nil
  rw [hd]
  refine (if_neg (c := (!(((b2.map (·.arg)).take ((b2.map (·.arg)).length - 0)).filter (fun n => (((b2.map (·.arg)).zip vals).lookup n).isNone)).isEmpty) = true) (by rw [Nat.sub_zero, List.take_length, e2]; decide)).trans ?_
  have hz : (List.drop ((b2.map (·.arg)).length - 0) (b2.map (·.arg))).zip ([] : List Value) = [] := List.zip_nil_right
  refine (congrArg (fun l => (forIn (m := Sem) l ((b2.map (·.arg)).zip vals) _ >>= _)) hz).trans ?_

  exact congrArg (fun l => (pure l : Sem (List (Str × Value)))) ((congrArg (List.filterMap _) (List.append_nil (b2.map (·.arg)))).trans e3)
theorem bind_plain {fd : FuncData} {vals : List Value} (h1 : fd.params.posonlyargs = []) (h2 : fd.params.vararg = none) (h3 : fd.params.kwonlyargs = []) (h4 : fd.params.kwarg = none) (h5 : fd.defaults = .none)
    (hn : (fd.params.args.map (·.arg)).Nodup) (hl : vals.length = (fd.params.args.map (·.arg)).length) : bindArgs fd ⟨vals, []⟩ = pure ((fd.params.args.map (·.arg)).zip vals) := by
  have e1 : ∀ x ∈ fd.params.args.map (·.arg), (((fd.params.args.map (·.arg)).zip vals).lookup x).isNone = false := fun x hx => by
    have := lookup_zip hl hx
    cases e : ((fd.params.args.map (·.arg)).zip vals).lookup x with
    | none => rw [e] at this; cases this
    | some => rfl
  have e2 : (fd.params.args.map (·.arg)).filter (fun n => (((fd.params.args.map (·.arg)).zip vals).lookup n).isNone) = [] := by
    rw [List.filter_eq_nil_iff]; intro x hx; rw [e1 x hx]; simp
  have e3 := filterMap_zip (ps := fd.params.args.map (·.arg)) (vs := vals) [] hl hn fun _ _ => rfl
  rw [List.nil_append] at e3
  exact bind_plain' h1 h2 h3 h4 h5 (decide_eq_false (by rw [hl]; exact Nat.lt_irrefl _)) e2 e3
end Mine
end
section
set_option autoImplicit false
set_option linter.unusedVariables false
set_option tactic.hygienic false
namespace Mine
open PySem PySem.W PyProof.Rows

section
variable {p : Program} {loose : List Str} {mean : ExcName → Option Value} {mg mb : Str → Option Value} {h : Heap} {prog : Program} {w : World} {tab : Tab} {gl : Nat → Option (Str × MV)}

noncomputable abbrev topG (prog : Program) (w : World) (h : Heap) (tab : Tab) (mg : Str → Option Value) : Glo := ⟨prog, w, h, mkFa (fnOf tab) mg, fun _ => none⟩

theorem tab_at (hchk : tabOk (recsOf p) tab gl = true) {f : Nat} {x : Str} {ns : List Str} {d : Fn} (e : tab.lookup f = some (x, ns, d)) : ∃ r ∈ recsOf p, r.name = x ∧ chkRec (fnOf tab) gl ns d r = true := by
  unfold tabOk at hchk
  rw [List.all_eq_true] at hchk
  have := hchk _ (lookup_mem e)
  rw [List.any_eq_true] at this
  obtain ⟨r, hr, h⟩ := this
  simp only [Bool.and_eq_true, beq_iff_eq] at h
  exact ⟨r, hr, h.1, h.2⟩

set_option tactic.hygienic true in
theorem fa_name {f : Nat} {a : Addr} (e : mkFa (fnOf tab) mg f = some a) : ∃ x ns d, tab.lookup f = some (x, ns, d) ∧ mg x = some (.ref a) := by
  unfold mkFa at e
  split at e
  · rename_i x hx
    unfold fnOf at hx
    cases q : tab.lookup f with
    | none => rw [q] at hx; cases hx
    | some t =>
      obtain ⟨y, ns, d⟩ := t
      rw [q] at hx; cases hx
      split at e
      · rename_i b hb; cases e; exact ⟨_, ns, d, rfl, hb⟩
      · cases e
  · cases e

theorem top_g (T : Top p loose mean mg mb h) (hi : importsNone p = true) (hchk : tabOk (recsOf p) tab gl = true) : GOk (topG prog w h tab mg) where
  sys := by
    obtain ⟨mm, ⟨o, es, ep, e, _⟩, _⟩ := (T.seer hi).mods
    show (h.get? sysModules).isSome = true
    rw [e]; rfl
  nolimit := T.nolimit
  fns := fun f a e => by
    obtain ⟨x, ns, d, e1, e2⟩ := fa_name e
    obtain ⟨r, hr, rfl, _⟩ := tab_at hchk e1
    obtain ⟨a', o, pm, code, doc, h1, h2, h3, _⟩ := T.fn r hr
    rw [e2] at h1; cases h1
    exact ⟨o, _, h2, h3⟩

set_option tactic.hygienic true in
theorem top_f (T : Top p loose mean mg mb h) (hchk : tabOk (recsOf p) tab gl = true) (hb : bltOk p loose = true) (hgl : ∀ g x v, gl g = some (x, v) → ∃ u, mg x = some u ∧ ∀ ρ h', h.StaysIn h' → Rep (topG prog w h tab mg) ρ h' v u) :
    FnsOk (topG prog w h tab mg) (fnOf tab) gl (fnP tab) := by
  intro f d a hP e
  obtain ⟨x, ns, d', e1, e2⟩ := fa_name e
  have : d' = d := by unfold fnP at hP; rw [e1] at hP; cases hP; rfl
  subst this
  obtain ⟨r, hr, rfl, hc⟩ := tab_at hchk e1
  obtain ⟨a', o, pm, code, doc, h1, h2, h3, h4⟩ := T.fn r hr
  rw [e2] at h1; cases h1
  simp only [chkRec, Bool.and_eq_true, List.isEmpty_iff, Option.isNone_iff_eq_none, Bool.not_eq_true', beq_iff_eq] at hc
  obtain ⟨⟨⟨⟨⟨⟨⟨⟨⟨c1, c2⟩, c3⟩, c4⟩, c5⟩, c6⟩, c7⟩, c8⟩, c9⟩, c10⟩ := hc
  have hnd : (r.params.args.map (·.arg)).Nodup := by
    have := c9
    simp only [namesOk, Bool.and_eq_true, decide_eq_true_eq] at this
    exact this.1.2.sublist (List.isPrefixOf_iff_prefix.mp this.1.1).sublist
  refine ⟨o, Calls.docDef r.name r.params r.body r.scope pm code doc, r.body, r.params.args.map (fun x : Arg => x.arg), ns, h2, h3, h4, rfl, rfl, c5, c6, c7, fun vals hv => bind_plain c1 c2 c3 c4 rfl hnd hv, c8, c9, c10, ?_⟩
  refine ⟨mg, mb, T.g, T.b, fun f' x' e' => ?_, hgl, fun x' v' hm => ?_⟩
  · unfold fnOf at e'
    cases q : tab.lookup f' with
    | none => rw [q] at e'; cases e'
    | some t =>
      obtain ⟨y, ns', d''⟩ := t
      rw [q] at e'; cases e'
      obtain ⟨r', hr', rfl, _⟩ := tab_at hchk q
      obtain ⟨a'', _, _, _, _, g1, _⟩ := T.fn r' hr'
      refine ⟨a'', ?_, g1⟩
      show mkFa (fnOf tab) mg f' = some a''
      unfold mkFa fnOf
      rw [q]
      simp only [Option.map_some, g1]
  · unfold bltOk at hb
    rw [List.all_eq_true] at hb
    have := hb _ hm
    simp only [Bool.and_eq_true, Bool.not_eq_true', List.contains_eq_mem, decide_eq_false_iff_not, beq_eq_false_iff_ne] at this
    obtain ⟨⟨⟨⟨⟨⟨b1, b2⟩, b3⟩, b4⟩, b5⟩, b6⟩, b7⟩ := this
    refine ⟨T.free x' b1 b2 b3 b4 b5, ?_⟩
    rw [T.builtins x' b6]
    split at b7
    · rename_i q1; simp only [beq_iff_eq] at b7; rw [q1, b7]
    · rename_i q1; simp only [beq_iff_eq] at b7; rw [q1, b7]
    · cases b7

theorem scr_of {P : Params} {a : Addr} {vs : List Value} {is : List Int} {xs : List WData} (W : Well P h (.ref a) (.list xs)) (hl : h.IsList a vs.toArray) (hI : IntsAre vs is) (hz : is.length ≤ line) {ρ : List Addr} {h' : Heap} :
    Rep (topG prog w h tab mg) ρ h' (.scr is) (.ref a) := by
  cases W with
  | @list _ us _ e _ =>
    obtain ⟨o, e', hc, n, hd⟩ := hl
    rw [e] at e'; cases e'
    simp only [Data.seq.injEq] at hd
    have : us = vs := by simpa using hd.1
    subst this
    exact .scr e hI hz

theorem law_call (T : Top p loose mean mg mb h) (hi : importsNone p = true) (hchk : tabOk (recsOf p) tab gl = true) (hb : bltOk p loose = true) (hgl : ∀ g x v, gl g = some (x, v) → ∃ u, mg x = some u ∧ ∀ ρ h', h.StaysIn h' → Rep (topG prog w h tab mg) ρ h' v u)
    {s : Shared} (hs : s.heap = h) (hg : s.gens = #[]) {f : Nat} {x : Str} {d : Fn} (hf : fnOf tab f = some x) (hP : fnP tab f = some d) {fa : Addr} (hmg : mg x = some (.ref fa)) (hd : d.args = 1) {is : List Int} {a : Addr}
    (hr : Rep (topG prog w h tab mg) [] h (.scr is) (.ref a)) (hlaw : ∀ K : KT, Closed (fnP tab) K → wpSs K 600 d.body (fin fun v _ => v = .bool true) (fun _ _ => False) (start d [.scr is] [])) {E : Value → Shared → Prop} {Q : Value → Shared → Prop}
    (hQ : ∀ s', (∀ b o, h.get? b = some o → s'.heap.get? b = some o) → s'.os = s.os → s'.gens = #[] → Q (.bool true) s') : wpAny (model prog w) callerA (call (.ref fa) [.ref a]) Q E s := by
  subst hs
  have G : GOk (topG prog w s.heap tab mg) := top_g T hi hchk
  have H : FnsOk (topG prog w s.heap tab mg) (fnOf tab) gl (fnP tab) := top_f T hchk hb hgl
  have hfa : (topG prog w s.heap tab mg).fa f = some fa := by
    show mkFa (fnOf tab) mg f = some fa
    unfold mkFa
    rw [hf]
    simp only [hmg]
  have hH : Hp (topG prog w s.heap tab mg) [] [] s.heap := ⟨fun b o e => e, rfl, List.nodup_nil, fun _ h => (by cases h), fun i o a e => (by simp at e)⟩
  refine wpAny_mono (call_core (C := topG prog w s.heap tab mg) (X := fun _ _ => False) G H hP (vs := [.scr is]) (by rw [hd]; rfl) (hlaw _ (closed G H)) (A := callerA) rfl hH hg (.cons hr .nil) (by show 1 + 300 + 601 ≤ 999; (first | lia | omega)) (by show 4 ≤ 3 * 301 + 4; (first | lia | omega)) hfa) (fun v s' ⟨ρ', hp', y, st, hH', ry, hq⟩ => ?_) fun _ _ x => x
  subst hq
  cases ry
  exact hQ s' hH'.base st.os (st.gens.trans hg)
theorem post_true (l : OpenLaw) (args ds : List WData) : l.row.toRowW.claim.post args (.bool true) ds = true := by
  show (WShape.has [] (.bool true) .bool && WTm.holds [] (.eq .res (.lit (.bool true))) _) = true
  rw [Bool.and_eq_true]
  have e : same (WData.bool true) (WData.bool true) = true := by decide +kernel
  refine ⟨by decide +kernel, ?_⟩
  unfold WTm.holds
  simp [WTm.value, e]
end
end Mine
end
section
set_option autoImplicit false
set_option linter.unusedVariables false
set_option tactic.hygienic false
namespace Mine
open PySem PySem.W PyProof.Rows
section
variable {p : Program} {loose : List Str} {mean : ExcName → Option Value} {mg mb : Str → Option Value} {h : Heap} {prog : Program} {w w' : World} {tab : Tab}
noncomputable def GlOk (prog : Program) (w : World) (h : Heap) (tab : Tab) (mg : Str → Option Value) (x : Str) (v : MV) : Prop := ∃ u, mg x = some u ∧ ∀ ρ h', h.StaysIn h' → Rep (topG prog w h tab mg) ρ h' v u
noncomputable def isI (o : Option PyData) (i : Int) : Bool := match o with
  | some (.int j) => j == i
  | _ => false
theorem isI_eq {o : Option PyData} {i : Int} (h : isI o i = true) : o = some (.int i) := by
  unfold isI at h
  split at h
  · rw [eq_of_beq h]
  · cases h
noncomputable def isT (o : Option PyData) (s : List Nat) : Bool := match o with
  | some (.str x) => x.cps.toList == s
  | _ => false
set_option tactic.hygienic true in
theorem isT_eq {o : Option PyData} {s : List Nat} (h : isT o s = true) : o = some (.str (str s)) := by
  unfold isT at h
  split at h
  · rename_i x
    rw [← eq_of_beq h]
  · cases h
theorem gl_int (T : Top p loose mean mg mb h) {x : Str} {i : Int} (e : isI (valOf p x) i = true) : GlOk prog w h tab mg x (.int i) := by
  obtain ⟨v, h1, h2⟩ := T.const x _ (isI_eq e)
  refine ⟨v, h1, fun ρ h' _ => ?_⟩
  cases h2 h'
  exact .int _ _
theorem gl_str (T : Top p loose mean mg mb h) {x : Str} {s : List Nat} (e : isT (valOf p x) s = true) (hs : s.length ≤ line) : GlOk prog w h tab mg x (.str s) := by
  obtain ⟨v, h1, h2⟩ := T.const x _ (isT_eq e)
  refine ⟨v, h1, fun ρ h' _ => ?_⟩
  cases h2 h'
  exact .str _ _ hs
theorem gl_tup (B : Tables p w' mg h) {x : Str} {ss : List (List Nat)} (e : tupStrsOf p x = some (ss.map fun s => (str s : Str))) (hs : ∀ s ∈ ss, s.length ≤ line) : GlOk prog w h tab mg x (.gt ss) := by
  obtain ⟨a, vs, h1, ⟨o, h2, h3, n, h4⟩, h5⟩ := B.tupS x _ e
  refine ⟨.ref a, h1, fun ρ h' _ => .gt h2 h3 h4 ?_⟩
  clear e h1 h2 h3 h4
  induction ss generalizing vs with
  | nil => cases h5; exact .nil
  | cons s ss ih =>
    cases h5 with
    | cons _ t r => exact .cons (.str _ _ (hs s (List.mem_cons_self ..))) (ih (fun x hx => hs x (List.mem_cons_of_mem _ hx)) _ r)
end
end Mine
end
section
set_option autoImplicit false
set_option tactic.hygienic false
namespace Mine
open PySem

noncomputable def fn_is_whole : Fn := ⟨2, 2, [.ret (.and [.isi (.var 0) [.int], .not (.isi (.var 0) [.bool]), .cmp2 .le .le (.cst (.int 0)) (.var 0) (.var 1)])]⟩
noncomputable def fn_is_number : Fn := ⟨1, 1, [.ret (.call 22 [.var 0, .bin .sub (.glob 0 (.int 1000000)) (.cst (.int 1))])]⟩
noncomputable def fn_is_name : Fn := ⟨1, 2, [.ite (.or [.not (.isi (.var 0) [.str]), .not (.cmp2 .le .le (.cst (.int 1)) (.blt .len [.var 0]) (.glob 5 (.int 8))), .cmp .inn (.var 0) (.glob 1 (.gt [[115, 101, 116], [116, 101, 108, 108], [115, 107, 105, 112], [105, 102], [101, 108, 115, 101], [119, 104, 105, 108, 101], [101, 110, 100]]))]) [.ret (.cst (.bool false))] [], .ite (.cmp .nin (.idx (.var 0) (.cst (.int 0))) (.glob 3 (.str [97, 98, 99, 100, 101, 102, 103, 104, 105, 106, 107, 108, 109, 110, 111, 112, 113, 114, 115, 116, 117, 118, 119, 120, 121, 122]))) [.ret (.cst (.bool false))] [], .for_ [1] false .val [.var 0] [.ite (.and [.cmp .nin (.var 1) (.glob 3 (.str [97, 98, 99, 100, 101, 102, 103, 104, 105, 106, 107, 108, 109, 110, 111, 112, 113, 114, 115, 116, 117, 118, 119, 120, 121, 122])), .cmp .nin (.var 1) (.glob 4 (.str [48, 49, 50, 51, 52, 53, 54, 55, 56, 57]))]) [.ret (.cst (.bool false))] []], .ret (.cst (.bool true))]⟩
noncomputable def fn_blocks_in : Fn := ⟨1, 1, [.ite (.cmp .eq (.idx (.var 0) (.cst (.int 0))) (.cst (.str [105, 102]))) [.ret (.list [.idx (.var 0) (.cst (.int 2)), .idx (.var 0) (.cst (.int 3))])] [], .ite (.cmp .eq (.idx (.var 0) (.cst (.int 0))) (.cst (.str [119, 104, 105, 108, 101]))) [.ret (.list [.idx (.var 0) (.cst (.int 2))])] [], .ret (.list [])]⟩
noncomputable def fn_formula_of : Fn := ⟨1, 1, [.ite (.cmp .eq (.idx (.var 0) (.cst (.int 0))) (.cst (.str [115, 107, 105, 112]))) [.ret (.cst .none)] [], .ite (.cmp .eq (.idx (.var 0) (.cst (.int 0))) (.cst (.str [115, 101, 116]))) [.ret (.idx (.var 0) (.cst (.int 2)))] [], .ret (.idx (.var 0) (.cst (.int 1)))]⟩
noncomputable def fn_formula_text : Fn := ⟨1, 1, [.ite (.cmp .eq (.blt .len [.var 0]) (.cst (.int 2))) [.ret (.blt .str [.idx (.var 0) (.cst (.int 1))])] [], .ret (.bin .add (.bin .add (.bin .add (.bin .add (.idx (.var 0) (.cst (.int 0))) (.cst (.str [32]))) (.call 27 [.idx (.var 0) (.cst (.int 1))])) (.cst (.str [32]))) (.call 27 [.idx (.var 0) (.cst (.int 2))]))]⟩
noncomputable def fn_row_lines : Fn := ⟨1, 4, [.ite (.cmp .eq (.idx (.var 0) (.cst (.int 0))) (.cst (.str [115, 107, 105, 112]))) [.ret (.list [.cst (.str [115, 107, 105, 112])])] [], .ite (.cmp .eq (.idx (.var 0) (.cst (.int 0))) (.cst (.str [115, 101, 116]))) [.ret (.list [.bin .add (.bin .add (.bin .add (.cst (.str [115, 101, 116, 32])) (.idx (.var 0) (.cst (.int 1)))) (.cst (.str [32]))) (.call 27 [.idx (.var 0) (.cst (.int 2))])])] [], .asg [1] false (.list [.bin .add (.bin .add (.idx (.var 0) (.cst (.int 0))) (.cst (.str [32]))) (.call 27 [.call 26 [.var 0]])]), .asg [2] false (.call 25 [.var 0]), .for_ [3] false .range1 [.blt .len [.var 2]] [.ite (.cmp .gt (.var 3) (.cst (.int 0))) [.expr (.mth .append (.var 1) [.cst (.str [101, 108, 115, 101])])] [], .expr (.mth .extend (.var 1) [.call 29 [.idx (.var 2) (.var 3)]])], .ite (.cmp .ne (.var 2) (.list [])) [.expr (.mth .append (.var 1) [.cst (.str [101, 110, 100])])] [], .ret (.var 1)]⟩
noncomputable def fn_written : Fn := ⟨1, 3, [.asg [1] false (.list []), .for_ [2] false .val [.var 0] [.expr (.mth .extend (.var 1) [.call 28 [.var 2]])], .ret (.var 1)]⟩
noncomputable def fn_leaf_of : Fn := ⟨1, 3, [.ite (.call 24 [.var 0]) [.ret (.tup [.cst (.str [110, 97, 109, 101]), .var 0])] [], .ite (.or [.not (.cmp2 .le .le (.cst (.int 1)) (.blt .len [.var 0]) (.glob 8 (.int 6))), .and [.cmp .eq (.idx (.var 0) (.cst (.int 0))) (.cst (.str [48])), .cmp .ne (.var 0) (.cst (.str [48]))]]) [.raise 7] [], .for_ [1] false .val [.var 0] [.ite (.cmp .nin (.var 1) (.glob 4 (.str [48, 49, 50, 51, 52, 53, 54, 55, 56, 57]))) [.raise 7] []], .asg [2] false (.blt .int [.var 0]), .ite (.not (.call 23 [.var 2])) [.raise 7] [], .ret (.tup [.cst (.str [110, 117, 109, 98, 101, 114]), .var 2])]⟩
noncomputable def fn_formula_from : Fn := ⟨3, 8, [.ite (.or [.cmp .ge (.var 1) (.blt .len [.var 0]), .cmp .gt (.var 2) (.glob 6 (.int 12))]) [.raise 7] [], .asg [3] false (.idx (.var 0) (.var 1)), .ite (.cmp .nin (.var 3) (.glob 2 (.gt [[43], [45], [42], [47], [60], [61]]))) [.ret (.tup [.call 30 [.var 3], .bin .add (.var 1) (.cst (.int 1))])] [], .asg [4, 5] true (.call 31 [.var 0, .bin .add (.var 1) (.cst (.int 1)), .bin .add (.var 2) (.cst (.int 1))]), .asg [6, 7] true (.call 31 [.var 0, .var 5, .bin .add (.var 2) (.cst (.int 1))]), .ret (.tup [.tup [.var 3, .var 4, .var 6], .var 7])]⟩
noncomputable def fn_whole_formula : Fn := ⟨1, 3, [.asg [1, 2] true (.call 31 [.var 0, .cst (.int 0), .cst (.int 1)]), .ite (.cmp .ne (.var 2) (.blt .len [.var 0])) [.raise 7] [], .ret (.var 1)]⟩
noncomputable def fn_need_line : Fn := ⟨3, 3, [.ite (.or [.cmp .ge (.var 1) (.blt .len [.var 0]), .cmp .ne (.idx (.var 0) (.var 1)) (.var 2)]) [.raise 7] []]⟩
noncomputable def fn_row_from : Fn := ⟨3, 10, [.ite (.cmp .gt (.var 2) (.glob 7 (.int 8))) [.raise 7] [], .asg [3] false (.mth .split (.idx (.var 0) (.var 1)) [.cst (.str [32])]), .ite (.cmp .eq (.var 3) (.list [.cst (.str [115, 107, 105, 112])])) [.ret (.tup [.tup [.cst (.str [115, 107, 105, 112])], .bin .add (.var 1) (.cst (.int 1))])] [], .ite (.and [.cmp .eq (.idx (.var 3) (.cst (.int 0))) (.cst (.str [115, 101, 116])), .cmp .gt (.blt .len [.var 3]) (.cst (.int 1)), .call 24 [.idx (.var 3) (.cst (.int 1))]]) [.ret (.tup [.tup [.cst (.str [115, 101, 116]), .idx (.var 3) (.cst (.int 1)), .call 32 [.sl (.var 3) (some (.cst (.int 2))) none]], .bin .add (.var 1) (.cst (.int 1))])] [], .ite (.cmp .eq (.idx (.var 3) (.cst (.int 0))) (.cst (.str [116, 101, 108, 108]))) [.ret (.tup [.tup [.cst (.str [116, 101, 108, 108]), .call 32 [.sl (.var 3) (some (.cst (.int 1))) none]], .bin .add (.var 1) (.cst (.int 1))])] [], .ite (.cmp .eq (.idx (.var 3) (.cst (.int 0))) (.cst (.str [119, 104, 105, 108, 101]))) [.asg [4] false (.call 32 [.sl (.var 3) (some (.cst (.int 1))) none]), .asg [5, 6] true (.call 35 [.var 0, .bin .add (.var 1) (.cst (.int 1)), .bin .add (.var 2) (.cst (.int 1))]), .expr (.call 33 [.var 0, .var 6, .cst (.str [101, 110, 100])]), .ret (.tup [.tup [.cst (.str [119, 104, 105, 108, 101]), .var 4, .var 5], .bin .add (.var 6) (.cst (.int 1))])] [], .ite (.cmp .ne (.idx (.var 3) (.cst (.int 0))) (.cst (.str [105, 102]))) [.raise 7] [], .asg [4] false (.call 32 [.sl (.var 3) (some (.cst (.int 1))) none]), .asg [7, 8] true (.call 35 [.var 0, .bin .add (.var 1) (.cst (.int 1)), .bin .add (.var 2) (.cst (.int 1))]), .expr (.call 33 [.var 0, .var 8, .cst (.str [101, 108, 115, 101])]), .asg [9, 6] true (.call 35 [.var 0, .bin .add (.var 8) (.cst (.int 1)), .bin .add (.var 2) (.cst (.int 1))]), .expr (.call 33 [.var 0, .var 6, .cst (.str [101, 110, 100])]), .ret (.tup [.tup [.cst (.str [105, 102]), .var 4, .var 7, .var 9], .bin .add (.var 6) (.cst (.int 1))])]⟩
noncomputable def fn_block_from : Fn := ⟨3, 5, [.asg [3] false (.list []), .while_ (.and [.cmp .lt (.var 1) (.blt .len [.var 0]), .cmp .ne (.idx (.var 0) (.var 1)) (.cst (.str [101, 108, 115, 101])), .cmp .ne (.idx (.var 0) (.var 1)) (.cst (.str [101, 110, 100]))]) [.asg [4, 1] true (.call 34 [.var 0, .var 1, .var 2]), .expr (.mth .append (.var 3) [.var 4])], .ret (.tup [.blt .tuple [.var 3], .var 1])]⟩
noncomputable def fn_read : Fn := ⟨1, 3, [.asg [1, 2] true (.call 35 [.var 0, .cst (.int 0), .cst (.int 1)]), .ite (.cmp .ne (.var 2) (.blt .len [.var 0])) [.raise 7] [], .ret (.var 1)]⟩
noncomputable def fn_law_cell_at : Fn := ⟨2, 2, [.ite (.cmp .lt (.var 1) (.blt .len [.var 0])) [.ret (.idx (.var 0) (.var 1))] [], .ret (.cst (.int 0))]⟩
noncomputable def fn_law_mixed : Fn := ⟨1, 1, [.ret (.bin .mod (.bin .add (.bin .mul (.var 0) (.cst (.int 48271))) (.cst (.int 7919))) (.cst (.int 2147483647)))]⟩
noncomputable def fn_law_name_by : Fn := ⟨1, 4, [.asg [1] false (.idx (.cst (.str [97, 98, 99, 100, 101, 102, 103, 104, 105, 106, 107, 108, 109, 110, 111, 112, 113, 114, 115, 116, 117, 118, 119, 120, 121, 122])) (.bin .mod (.bin .fdiv (.var 0) (.cst (.int 8))) (.cst (.int 26)))), .asg [2] false (.var 0), .for_ [3] false .range1 [.bin .mod (.var 0) (.cst (.int 8))] [.asg [2] false (.call 6 [.var 2]), .asg [1] false (.bin .add (.var 1) (.idx (.cst (.str [97, 98, 99, 100, 101, 102, 103, 104, 105, 106, 107, 108, 109, 110, 111, 112, 113, 114, 115, 116, 117, 118, 119, 120, 121, 122, 48, 49, 50, 51, 52, 53, 54, 55, 56, 57])) (.bin .mod (.var 2) (.cst (.int 36)))))], .ite (.cmp .inn (.var 1) (.list [.cst (.str [115, 101, 116]), .cst (.str [116, 101, 108, 108]), .cst (.str [115, 107, 105, 112]), .cst (.str [105, 102]), .cst (.str [101, 108, 115, 101]), .cst (.str [119, 104, 105, 108, 101]), .cst (.str [101, 110, 100])])) [.ret (.bin .add (.var 1) (.cst (.str [48])))] [], .ret (.var 1)]⟩
noncomputable def fn_law_twin : Fn := ⟨2, 6, [.asg [2] false (.cst (.str [97, 98, 99, 100, 101, 102, 103, 104, 105, 106, 107, 108, 109, 110, 111, 112, 113, 114, 115, 116, 117, 118, 119, 120, 121, 122])), .asg [3] false (.bin .mod (.var 1) (.blt .len [.var 0])), .ite (.cmp .gt (.var 3) (.cst (.int 0))) [.asg [2] false (.bin .add (.var 2) (.cst (.str [48, 49, 50, 51, 52, 53, 54, 55, 56, 57])))] [], .asg [4] false (.bin .add (.bin .add (.mth .find (.var 2) [.idx (.var 0) (.var 3)]) (.cst (.int 1))) (.bin .mod (.bin .fdiv (.var 1) (.cst (.int 8))) (.bin .sub (.blt .len [.var 2]) (.cst (.int 1))))), .asg [5] false (.bin .add (.bin .add (.sl (.var 0) none (some (.var 3))) (.idx (.var 2) (.bin .mod (.var 4) (.blt .len [.var 2])))) (.sl (.var 0) (some (.bin .add (.var 3) (.cst (.int 1)))) none)), .ite (.cmp .inn (.var 5) (.list [.cst (.str [115, 101, 116]), .cst (.str [116, 101, 108, 108]), .cst (.str [115, 107, 105, 112]), .cst (.str [105, 102]), .cst (.str [101, 108, 115, 101]), .cst (.str [119, 104, 105, 108, 101]), .cst (.str [101, 110, 100])])) [.ret (.bin .add (.var 5) (.cst (.str [48])))] [], .ret (.var 5)]⟩
noncomputable def fn_law_names : Fn := ⟨2, 5, [.asg [2] false (.list []), .for_ [3] false .range1 [.cst (.int 10)] [.asg [0] false (.call 6 [.var 0]), .asg [4] false (.call 7 [.bin .fdiv (.var 0) (.cst (.int 5))]), .ite (.and [.cmp .eq (.bin .mod (.var 3) (.cst (.int 2))) (.cst (.int 1)), .cmp .eq (.bin .mod (.bin .fdiv (.var 1) (.cst (.int 4))) (.cst (.int 2))) (.cst (.int 1))]) [.asg [4] false (.call 8 [.idx (.var 2) (.bin .sub (.var 3) (.cst (.int 1))), .call 6 [.bin .add (.var 1) (.var 3)]])] [], .while_ (.or [.cmp .inn (.var 4) (.var 2), .cmp .inn (.var 4) (.list [.cst (.str [115, 101, 116]), .cst (.str [116, 101, 108, 108]), .cst (.str [115, 107, 105, 112]), .cst (.str [105, 102]), .cst (.str [101, 108, 115, 101]), .cst (.str [119, 104, 105, 108, 101]), .cst (.str [101, 110, 100])])]) [.asg [4] false (.bin .add (.sl (.var 4) none (some (.cst (.int 7)))) (.idx (.cst (.str [97, 98, 99, 100, 101, 102, 103, 104, 105, 106, 107, 108, 109, 110, 111, 112, 113, 114, 115, 116, 117, 118, 119, 120, 121, 122])) (.bin .mod (.bin .add (.bin .add (.var 1) (.blt .len [.var 4])) (.var 3)) (.cst (.int 26))))), .asg [1] false (.bin .add (.var 1) (.cst (.int 5)))], .expr (.mth .append (.var 2) [.var 4])], .ret (.var 2)]⟩
noncomputable def fn_law_end_by : Fn := ⟨2, 2, [.ite (.and [.cmp .ne (.var 1) (.list []), .cmp .gt (.bin .mod (.var 0) (.cst (.int 3))) (.cst (.int 0))]) [.ret (.tup [.cst (.str [110, 97, 109, 101]), .idx (.var 1) (.bin .mod (.bin .fdiv (.var 0) (.cst (.int 3))) (.blt .len [.var 1]))])] [], .ite (.cmp .eq (.bin .mod (.bin .fdiv (.var 0) (.cst (.int 3))) (.cst (.int 4))) (.cst (.int 0))) [.ret (.tup [.cst (.str [110, 117, 109, 98, 101, 114]), .bin .mod (.bin .fdiv (.var 0) (.cst (.int 12))) (.bin .pow (.cst (.int 10)) (.cst (.int 6)))])] [], .ret (.tup [.cst (.str [110, 117, 109, 98, 101, 114]), .bin .mod (.bin .fdiv (.var 0) (.cst (.int 12))) (.cst (.int 5))])]⟩
noncomputable def fn_law_formula_by : Fn := ⟨5, 7, [.asg [0] false (.call 6 [.var 0]), .ite (.or [.cmp .eq (.var 4) (.cst (.int 1)), .cmp .lt (.bin .mod (.var 0) (.cst (.int 8))) (.cst (.int 3))]) [.ret (.call 10 [.bin .fdiv (.var 0) (.cst (.int 8)), .var 1])] [], .asg [5] false (.idx (.list [.cst (.str [43]), .cst (.str [45]), .cst (.str [42]), .cst (.str [60]), .cst (.str [61]), .cst (.str [43]), .cst (.str [45]), .cst (.str [60]), .cst (.str [47]), .cst (.str [47])]) (.bin .mod (.bin .fdiv (.var 0) (.cst (.int 8))) (.idx (.list [.cst (.int 8), .cst (.int 10)]) (.blt .int [.var 3])))), .asg [6] false (.call 11 [.bin .add (.bin .mul (.var 0) (.cst (.int 3))) (.cst (.int 1)), .var 1, .var 2, .var 3, .bin .sub (.var 4) (.cst (.int 1))]), .ite (.and [.cmp .eq (.var 5) (.cst (.str [47])), .cmp .lt (.bin .mod (.bin .fdiv (.var 0) (.cst (.int 80))) (.cst (.int 4))) (.cst (.int 3))]) [.ret (.tup [.var 5, .var 6, .tup [.cst (.str [110, 117, 109, 98, 101, 114]), .bin .add (.cst (.int 1)) (.bin .mod (.bin .fdiv (.var 0) (.cst (.int 320))) (.cst (.int 9)))]])] [], .ite (.cmp .eq (.var 5) (.cst (.str [47]))) [.ret (.tup [.var 5, .var 6, .call 11 [.bin .add (.bin .mul (.var 0) (.cst (.int 5))) (.cst (.int 2)), .var 2, .var 2, .var 3, .bin .sub (.var 4) (.cst (.int 1))]])] [], .ret (.tup [.var 5, .var 6, .call 11 [.bin .add (.bin .mul (.var 0) (.cst (.int 5))) (.cst (.int 2)), .var 1, .var 2, .var 3, .bin .sub (.var 4) (.cst (.int 1))]])]⟩
noncomputable def fn_law_all_names : Fn := ⟨1, 1, [.ite (.cmp .eq (.idx (.var 0) (.cst (.int 0))) (.cst (.str [110, 117, 109, 98, 101, 114]))) [.ret (.list [])] [], .ite (.cmp .eq (.idx (.var 0) (.cst (.int 0))) (.cst (.str [110, 97, 109, 101]))) [.ret (.list [.idx (.var 0) (.cst (.int 1))])] [], .ret (.bin .add (.call 37 [.idx (.var 0) (.cst (.int 1))]) (.call 37 [.idx (.var 0) (.cst (.int 2))]))]⟩
noncomputable def fn_law_row_by : Fn := ⟨4, 8, [.asg [4] false (.sl (.var 0) none (some (.cst (.int 5)))), .asg [5] false (.var 0), .ite (.or [.and [.cmp .eq (.var 3) (.cst (.int 0)), .cmp .eq (.bin .mod (.bin .fdiv (.var 1) (.cst (.int 12))) (.cst (.int 2))) (.cst (.int 0))], .and [.cmp .eq (.var 3) (.cst (.int 2)), .var 2, .cmp .gt (.bin .mod (.bin .fdiv (.var 1) (.cst (.int 12))) (.cst (.int 3))) (.cst (.int 0))]]) [.asg [5] false (.var 4)] [.ite (.cmp .eq (.var 3) (.cst (.int 2))) [.asg [5] false (.sl (.var 0) (some (.cst (.int 5))) none)] []], .ite (.cmp .gt (.var 3) (.cst (.int 0))) [.asg [4] false (.var 5)] [], .asg [6] false (.call 11 [.var 1, .var 5, .var 4, .or [.cmp .gt (.var 3) (.cst (.int 0)), .not (.var 2)], .bin .add (.cst (.int 1)) (.bin .mod (.bin .fdiv (.var 1) (.cst (.int 24))) (.cst (.int 4)))]), .ret (.tup [.var 6, .cmp .ne (.comp (.var 7) [7] false .val [.call 37 [.var 6]] [.cmp .inn (.var 7) (.sl (.var 0) (some (.cst (.int 5))) none)]) (.list [])])]⟩
noncomputable def fn_law_closed : Fn := ⟨1, 2, [.asg [1] false (.mth .pop (.var 0) []), .ite (.cmp .eq (.idx (.var 1) (.cst (.int 0))) (.cst (.str [119, 104, 105, 108, 101]))) [.ite (.and [.cmp .eq (.idx (.idx (.var 1) (.cst (.int 1))) (.cst (.int 0))) (.cst (.str [60])), .cmp .eq (.idx (.idx (.idx (.var 1) (.cst (.int 1))) (.cst (.int 1))) (.cst (.int 0))) (.cst (.str [110, 97, 109, 101]))]) [.expr (.mth .append (.idx (.var 1) (.cst (.int 2))) [.tup [.cst (.str [115, 101, 116]), .idx (.idx (.idx (.var 1) (.cst (.int 1))) (.cst (.int 1))) (.cst (.int 1)), .tup [.cst (.str [43]), .idx (.idx (.var 1) (.cst (.int 1))) (.cst (.int 1)), .tup [.cst (.str [110, 117, 109, 98, 101, 114]), .cst (.int 1)]]]])] [], .expr (.mth .append (.idx (.idx (.var 0) (.neg (.cst (.int 1)))) (.cst (.int 2))) [.tup [.cst (.str [119, 104, 105, 108, 101]), .idx (.var 1) (.cst (.int 1)), .blt .tuple [.idx (.var 1) (.cst (.int 2))]]])] [.ite (.isN true (.idx (.var 1) (.cst (.int 4)))) [.expr (.mth .append (.var 0) [.list [.idx (.var 1) (.cst (.int 0)), .idx (.var 1) (.cst (.int 1)), .list [], .idx (.var 1) (.cst (.int 3)), .blt .tuple [.idx (.var 1) (.cst (.int 2))]]])] [.expr (.mth .append (.idx (.idx (.var 0) (.neg (.cst (.int 1)))) (.cst (.int 2))) [.tup [.cst (.str [105, 102]), .idx (.var 1) (.cst (.int 1)), .idx (.var 1) (.cst (.int 4)), .blt .tuple [.idx (.var 1) (.cst (.int 2))]]])]]]⟩
noncomputable def fn_law_put : Fn := ⟨4, 11, [.asg [4] false (.bin .mod (.var 2) (.cst (.int 12))), .asg [5] false (.cmp .ne (.comp (.var 10) [10] false .val [.var 0] [.idx (.var 10) (.cst (.int 3))]) (.list [])), .asg [6, 7] true (.call 38 [.var 1, .var 2, .var 5, .var 3]), .asg [8] false (.and [.cmp .eq (.var 3) (.cst (.int 0)), .or [.var 5, .var 7]]), .ite (.cmp .eq (.var 3) (.cst (.int 2))) [.asg [4] false (.idx (.list [.cst (.int 0), .cst (.int 4), .cst (.int 8), .cst (.int 0)]) (.bin .mod (.bin .fdiv (.var 2) (.cst (.int 7))) (.cst (.int 4))))] [], .ite (.cmp .lt (.var 4) (.cst (.int 4))) [.asg [9] false (.idx (.list [.var 1, .var 1, .idx (.list [.sl (.var 1) none (some (.cst (.int 5))), .sl (.var 1) (some (.cst (.int 5))) none]) (.blt .int [.cmp .eq (.bin .mod (.bin .fdiv (.var 2) (.cst (.int 7))) (.cst (.int 4))) (.cst (.int 3))])]) (.var 3)), .ite (.var 8) [.asg [9] false (.sl (.var 1) (some (.cst (.int 5))) none)] [], .expr (.mth .append (.idx (.idx (.var 0) (.neg (.cst (.int 1)))) (.cst (.int 2))) [.tup [.cst (.str [115, 101, 116]), .idx (.var 9) (.bin .mod (.bin .fdiv (.var 2) (.cst (.int 96))) (.blt .len [.var 9])), .var 6]])] [.ite (.and [.cmp .eq (.var 4) (.cst (.int 4)), .not (.var 8)]) [.expr (.mth .append (.idx (.idx (.var 0) (.neg (.cst (.int 1)))) (.cst (.int 2))) [.tup [.cst (.str [116, 101, 108, 108]), .var 6]])] [.ite (.cmp .eq (.var 4) (.cst (.int 5))) [.expr (.mth .append (.idx (.idx (.var 0) (.neg (.cst (.int 1)))) (.cst (.int 2))) [.tup [.cst (.str [115, 107, 105, 112])]])] [.ite (.and [.cmp .lt (.var 4) (.cst (.int 8)), .cmp .lt (.blt .len [.var 0]) (.cst (.int 8))]) [.expr (.mth .append (.var 0) [.list [.cst (.str [105, 102]), .var 6, .list [], .var 7, .cst .none]])] [.ite (.and [.cmp .lt (.var 4) (.cst (.int 10)), .cmp .lt (.blt .len [.var 0]) (.cst (.int 8)), .not (.var 8)]) [.ite (.and [.cmp .eq (.var 3) (.cst (.int 0)), .cmp .gt (.bin .mod (.bin .fdiv (.var 2) (.cst (.int 96))) (.cst (.int 4))) (.cst (.int 0))]) [.asg [6] false (.tup [.cst (.str [60]), .tup [.cst (.str [110, 97, 109, 101]), .idx (.var 1) (.bin .mod (.bin .fdiv (.var 2) (.cst (.int 384))) (.cst (.int 5)))], .tup [.cst (.str [110, 117, 109, 98, 101, 114]), .bin .add (.cst (.int 1)) (.bin .mod (.bin .fdiv (.var 2) (.cst (.int 1920))) (.cst (.int 4)))]])] [], .expr (.mth .append (.var 0) [.list [.cst (.str [119, 104, 105, 108, 101]), .var 6, .list [], .var 7, .cst .none]])] [.ite (.cmp .gt (.blt .len [.var 0]) (.cst (.int 1))) [.expr (.call 39 [.var 0])] []]]]]]]⟩
noncomputable def fn_law_block_by : Fn := ⟨3, 8, [.asg [3] false (.list [.list [.cst (.str []), .cst .none, .list [], .cst (.bool false), .cst .none]]), .for_ [4, 5] true .enum [.var 0] [.asg [6] false (.call 6 [.bin .mul (.call 6 [.bin .add (.var 5) (.bin .mul (.cst (.int 131)) (.var 4))]) (.bin .add (.var 4) (.cst (.int 2)))]), .asg [7] false (.cst (.int 0)), .ite (.and [.cmp .eq (.var 2) (.cst (.int 1)), .cmp .eq (.bin .mod (.bin .fdiv (.var 6) (.cst (.int 4096))) (.cst (.int 4))) (.cst (.int 0))]) [.asg [7] false (.cst (.int 1))] [], .ite (.and [.cmp .gt (.var 2) (.cst (.int 1)), .cmp .eq (.var 4) (.bin .mod (.var 2) (.blt .len [.var 0]))]) [.asg [7] false (.cst (.int 2))] [], .expr (.call 40 [.var 3, .var 1, .var 6, .var 7])], .while_ (.cmp .gt (.blt .len [.var 3]) (.cst (.int 1))) [.expr (.call 39 [.var 3])], .ret (.idx (.idx (.var 3) (.cst (.int 0))) (.cst (.int 2)))]⟩
noncomputable def fn_law_text : Fn := ⟨1, 1, [.ite (.cmp .eq (.idx (.var 0) (.cst (.int 0))) (.cst (.str [110, 117, 109, 98, 101, 114]))) [.ret (.blt .str [.idx (.var 0) (.cst (.int 1))])] [], .ite (.cmp .eq (.idx (.var 0) (.cst (.int 0))) (.cst (.str [110, 97, 109, 101]))) [.ret (.idx (.var 0) (.cst (.int 1)))] [], .ret (.bin .add (.bin .add (.bin .add (.bin .add (.idx (.var 0) (.cst (.int 0))) (.cst (.str [32]))) (.call 42 [.idx (.var 0) (.cst (.int 1))])) (.cst (.str [32]))) (.call 42 [.idx (.var 0) (.cst (.int 2))]))]⟩
noncomputable def fn_law_lines : Fn := ⟨1, 3, [.asg [1] false (.list []), .for_ [2] false .val [.var 0] [.ite (.cmp .eq (.idx (.var 2) (.cst (.int 0))) (.cst (.str [115, 101, 116]))) [.expr (.mth .append (.var 1) [.bin .add (.bin .add (.bin .add (.cst (.str [115, 101, 116, 32])) (.idx (.var 2) (.cst (.int 1)))) (.cst (.str [32]))) (.call 42 [.idx (.var 2) (.cst (.int 2))])])] [.ite (.cmp .eq (.idx (.var 2) (.cst (.int 0))) (.cst (.str [115, 107, 105, 112]))) [.expr (.mth .append (.var 1) [.cst (.str [115, 107, 105, 112])])] [.expr (.mth .append (.var 1) [.bin .add (.bin .add (.idx (.var 2) (.cst (.int 0))) (.cst (.str [32]))) (.call 42 [.idx (.var 2) (.cst (.int 1))])])]], .ite (.cmp .eq (.idx (.var 2) (.cst (.int 0))) (.cst (.str [105, 102]))) [.asg [1] false (.bin .add (.bin .add (.bin .add (.bin .add (.var 1) (.call 43 [.idx (.var 2) (.cst (.int 2))])) (.list [.cst (.str [101, 108, 115, 101])])) (.call 43 [.idx (.var 2) (.cst (.int 3))])) (.list [.cst (.str [101, 110, 100])]))] [], .ite (.cmp .eq (.idx (.var 2) (.cst (.int 0))) (.cst (.str [119, 104, 105, 108, 101]))) [.asg [1] false (.bin .add (.bin .add (.var 1) (.call 43 [.idx (.var 2) (.cst (.int 2))])) (.list [.cst (.str [101, 110, 100])]))] []], .ret (.var 1)]⟩
noncomputable def fn_law_alike : Fn := ⟨2, 3, [.ite (.isi (.var 1) [.tuple]) [.ite (.or [.not (.isi (.var 0) [.tuple]), .cmp .ne (.blt .len [.var 0]) (.blt .len [.var 1])]) [.ret (.cst (.bool false))] [], .ret (.cmp .eq (.comp (.var 2) [2] false .range1 [.blt .len [.var 1]] [.not (.call 44 [.idx (.var 0) (.var 2), .idx (.var 1) (.var 2)])]) (.list []))] [], .ite (.isi (.var 1) [.int]) [.ret (.and [.isi (.var 0) [.int], .not (.isi (.var 0) [.bool]), .cmp .eq (.var 0) (.var 1)])] [], .ret (.and [.isi (.var 0) [.str], .cmp .eq (.var 0) (.var 1)])]⟩
noncomputable def fn_law_lists : Fn := ⟨1, 3, [.asg [1] false (.list []), .for_ [2] false .val [.var 0] [.ite (.cmp .eq (.idx (.var 2) (.cst (.int 0))) (.cst (.str [105, 102]))) [.asg [2] false (.tup [.cst (.str [105, 102]), .idx (.var 2) (.cst (.int 1)), .call 45 [.idx (.var 2) (.cst (.int 2))], .call 45 [.idx (.var 2) (.cst (.int 3))]])] [.ite (.cmp .eq (.idx (.var 2) (.cst (.int 0))) (.cst (.str [119, 104, 105, 108, 101]))) [.asg [2] false (.tup [.cst (.str [119, 104, 105, 108, 101]), .idx (.var 2) (.cst (.int 1)), .call 45 [.idx (.var 2) (.cst (.int 2))]])] []], .expr (.mth .append (.var 1) [.var 2])], .ret (.var 1)]⟩
noncomputable def fn_law_3 : Fn := ⟨1, 7, [.asg [1] false (.call 9 [.call 5 [.var 0, .cst (.int 0)], .call 5 [.var 0, .cst (.int 1)]]), .asg [2] false (.blt .tuple [.call 41 [.sl (.var 0) (some (.cst (.int 2))) (some (.cst (.int 42))), .var 1, .cst (.int 1)]]), .asg [3] false (.call 29 [.var 2]), .ite (.or [.not (.isi (.var 3) [.list]), .cmp .ne (.var 3) (.call 43 [.var 2])]) [.ret (.cst (.bool false))] [], .asg [4] false (.blt .list [.var 3]), .ite (.or [.not (.call 44 [.call 36 [.var 4], .var 2]), .cmp .ne (.var 4) (.var 3)]) [.ret (.cst (.bool false))] [], .expr (.mth .append (.var 3) [.cst (.str [122, 122])]), .asg [5] false (.tup [.tup [.cst (.str [115, 107, 105, 112])], .tup [.cst (.str [116, 101, 108, 108]), .tup [.cst (.str [110, 97, 109, 101]), .idx (.var 1) (.cst (.int 0))]]]), .ite (.or [.cmp .ne (.call 29 [.var 5]) (.list [.cst (.str [115, 107, 105, 112]), .bin .add (.cst (.str [116, 101, 108, 108, 32])) (.idx (.var 1) (.cst (.int 0)))]), .not (.call 44 [.call 36 [.list [.cst (.str [115, 107, 105, 112]), .bin .add (.cst (.str [116, 101, 108, 108, 32])) (.idx (.var 1) (.cst (.int 0)))]], .var 5])]) [.ret (.cst (.bool false))] [], .expr (.mth .append (.var 4) [.cst (.str [115, 107, 105, 112])]), .asg [6] false (.call 45 [.var 2]), .ite (.or [.cmp .ne (.call 29 [.var 6]) (.sl (.var 4) none (some (.neg (.cst (.int 1))))), .cmp .ne (.var 6) (.call 45 [.var 2])]) [.ret (.cst (.bool false))] [], .ret (.and [.call 44 [.call 36 [.var 4], .bin .add (.var 2) (.tup [.tup [.cst (.str [115, 107, 105, 112])]])], .cmp .eq (.idx (.var 3) (.neg (.cst (.int 1)))) (.cst (.str [122, 122]))])]⟩

noncomputable def gl : Nat → Option (Str × MV)
  | 0 => some ("MODULUS", (.int 1000000))
  | 1 => some ("WORDS", (.gt [[115, 101, 116], [116, 101, 108, 108], [115, 107, 105, 112], [105, 102], [101, 108, 115, 101], [119, 104, 105, 108, 101], [101, 110, 100]]))
  | 2 => some ("SIGNS", (.gt [[43], [45], [42], [47], [60], [61]]))
  | 3 => some ("LETTERS", (.str [97, 98, 99, 100, 101, 102, 103, 104, 105, 106, 107, 108, 109, 110, 111, 112, 113, 114, 115, 116, 117, 118, 119, 120, 121, 122]))
  | 4 => some ("FIGURES", (.str [48, 49, 50, 51, 52, 53, 54, 55, 56, 57]))
  | 5 => some ("MOST_SIGNS", (.int 8))
  | 6 => some ("DEEPEST", (.int 12))
  | 7 => some ("DEEPEST_ROW", (.int 8))
  | 8 => some ("MOST_FIGURES", (.int 6))
  | _ => none

noncomputable def tab : Tab := [(22, "is_whole", ["thing", "most"], fn_is_whole),
  (23, "is_number", ["thing"], fn_is_number),
  (24, "is_name", ["thing", "sign"], fn_is_name),
  (25, "blocks_in", ["row"], fn_blocks_in),
  (26, "formula_of", ["row"], fn_formula_of),
  (27, "formula_text", ["formula"], fn_formula_text),
  (28, "row_lines", ["row", "found", "blocks", "k"], fn_row_lines),
  (29, "written", ["block", "found", "row"], fn_written),
  (30, "leaf_of", ["word", "sign", "number"], fn_leaf_of),
  (31, "formula_from", ["words", "at", "deep", "word", "one", "behind", "other", "end"], fn_formula_from),
  (32, "whole_formula", ["words", "formula", "end"], fn_whole_formula),
  (33, "need_line", ["lines", "at", "line"], fn_need_line),
  (34, "row_from", ["lines", "at", "deep", "words", "formula", "block", "end", "first", "between", "second"], fn_row_from),
  (35, "block_from", ["lines", "at", "deep", "rows", "row"], fn_block_from),
  (36, "read", ["lines", "block", "end"], fn_read),
  (5, "_law_cell_at", ["_law_script", "_law_k"], fn_law_cell_at),
  (6, "_law_mixed", ["_law_number"], fn_law_mixed),
  (7, "_law_name_by", ["_law_cell", "_law_found", "_law_number", "_law_k"], fn_law_name_by),
  (8, "_law_twin", ["_law_name", "_law_cell", "_law_some", "_law_at", "_law_step", "_law_found"], fn_law_twin),
  (9, "_law_names", ["_law_one", "_law_other", "_law_names_here", "_law_k", "_law_name"], fn_law_names),
  (10, "_law_end_by", ["_law_number", "_law_names_here"], fn_law_end_by),
  (11, "_law_formula_by", ["_law_number", "_law_names_here", "_law_low", "_law_divide", "_law_left", "_law_sign", "_law_one"], fn_law_formula_by),
  (37, "_law_all_names", ["_law_formula"], fn_law_all_names),
  (38, "_law_row_by", ["_law_names_here", "_law_more", "_law_dark", "_law_mode", "_law_low", "_law_some", "_law_formula"], fn_law_row_by),
  (39, "_law_closed", ["_law_stack", "_law_frame"], fn_law_closed),
  (40, "_law_put", ["_law_stack", "_law_names_here", "_law_more", "_law_mode", "_law_way", "_law_dark", "_law_formula", "_law_secret", "_law_shut", "_law_some"], fn_law_put),
  (41, "_law_block_by", ["_law_cells", "_law_names_here", "_law_loose", "_law_stack", "_law_turn", "_law_cell", "_law_more", "_law_mode"], fn_law_block_by),
  (42, "_law_text", ["_law_formula"], fn_law_text),
  (43, "_law_lines", ["_law_block", "_law_lines_here", "_law_row"], fn_law_lines),
  (44, "_law_alike", ["_law_told", "_law_due"], fn_law_alike),
  (45, "_law_lists", ["_law_block", "_law_rows", "_law_row"], fn_law_lists),
  (46, "law", ["_law_script", "_law_names_here", "_law_block", "_law_told", "_law_handed", "_law_other", "_law_inner"], fn_law_3)]
end Mine
end
section
set_option autoImplicit false
set_option tactic.hygienic false
namespace Mine

theorem forL_inv {g : Option (Nat × List MV)} {step : MV → (Fl → MS → Prop) → MS → Prop} {Q : Fl → MS → Prop} (I : Nat → MS → Prop) (Rt : MV → MS → Prop) {items : List MV} {m : MS} (h0 : I 0 m) (hg : ∀ i m, I i m → guardOk g m.heap)
    (hstep : ∀ i x m (P : Fl → MS → Prop), items[i]? = some x → I i m → (∀ m', I (i + 1) m' → P .next m') → (∀ m', I (i + 1) m' → P .cont m') → (∀ r m', Rt r m' → P (.ret r) m') → step x P m)
    (hend : ∀ m, I items.length m → Q .next m) (hret : ∀ r m, Rt r m → Q (.ret r) m) : forL g step Q items m := by
  have key : ∀ (l : List MV) (i : Nat) (m : MS), i + l.length = items.length → items.drop i = l → I i m → forL g step Q l m := by
    intro l
    induction l with
    | nil =>
      intro i m hl e hI
      have hl : i = items.length := hl
      subst hl
      rw [forL_nil]
      exact ⟨hg _ m hI, hend m hI⟩
    | cons x l ih =>
      intro i m hl e hI
      have hlt : i < items.length := by simp only [List.length_cons] at hl; (first | lia | omega)
      have e' := List.drop_eq_getElem_cons hlt
      rw [e] at e'
      simp only [List.cons.injEq] at e'
      rw [forL_cons]
      refine ⟨hg i m hI, hstep i x m _ (by rw [List.getElem?_eq_getElem hlt, e'.1]) hI (fun m' h' => ?_) (fun m' h' => ?_) fun r m' h' => hret r m' h'⟩
      · exact ih (i + 1) m' (by simp only [List.length_cons] at hl; (first | lia | omega)) e'.2.symm h'
      · exact ih (i + 1) m' (by simp only [List.length_cons] at hl; (first | lia | omega)) e'.2.symm h'
  exact key items 0 m (by simp) (by simp) h0

theorem while_inv {c : (Bool → MS → Prop) → MS → Prop} {b : (Fl → MS → Prop) → MS → Prop} {Q : Fl → MS → Prop} (I : Nat → MS → Prop) (hno : ∀ m, ¬ I 0 m)
    (hturn : ∀ k m (W : MS → Prop), I (k + 1) m → (∀ m', I k m' → W m') → c (fun t m => match t with
      | true => b (fun f m => match f with
        | .next => W m
        | .cont => W m
        | .brk => Q .next m
        | .ret r => Q (.ret r) m) m
      | false => Q .next m) m) : ∀ (k : Nat) (m : MS), I k m → whileN c b Q k m
  | 0, m, h => (hno m h).elim
  | k + 1, m, h => by
    rw [whileN_succ]
    exact hturn k m (fun m => whileN c b Q k m) h fun m' h' => while_inv I hno hturn k m' h'

noncomputable abbrev Hpp := List MO
theorem pre_push {h hp : List MO} {o : MO} (x : h <+: hp) : h <+: hp ++ [o] := x.trans (List.prefix_append _ _)
theorem pre_self (h : List MO) : h <+: h := List.prefix_refl _
theorem pre_at {h hp : List MO} (x : h <+: hp) {i : Nat} {o : MO} (e : h[i]? = some o) : hp[i]? = some o := by
  obtain ⟨t, rfl⟩ := x
  rw [List.getElem?_append_left (List.getElem?_eq_some_iff.mp e).1]; exact e
theorem pre_set {h hp : List MO} (x : h <+: hp) {i : Nat} {o : MO} (e : h.length ≤ i) : h <+: hp.set i o := by
  obtain ⟨t, rfl⟩ := x
  rw [List.set_append_right _ _ e]
  exact List.prefix_append _ _
theorem get_last {α : Type} (h : List α) (o : α) : (h ++ [o])[h.length]? = some o := by simp
theorem get_old {α : Type} {h : List α} {o o' : α} {i : Nat} (e : h[i]? = some o) : (h ++ [o'])[i]? = some o := by
  rw [List.getElem?_append_left (List.getElem?_eq_some_iff.mp e).1]; exact e
theorem get_set {α : Type} {h : List α} {o o' : α} {i : Nat} (e : h[i]? = some o) : (h.set i o')[i]? = some o' := by
  have := (List.getElem?_eq_some_iff.mp e).1
  simp [this]

theorem get_push {m : MS} {o : MO} : (m.push o).heap[m.heap.length]? = some o := get_last _ _
theorem get_push_old {m : MS} {o o' : MO} {i : Nat} (e : m.heap[i]? = some o) : (m.push o').heap[i]? = some o := get_old e
theorem get_push2 {m : MS} {o o' : MO} : ((m.push o).push o').heap[m.heap.length]? = some o := get_old (get_last _ _)
theorem get_put {m : MS} {o o' : MO} {i : Nat} (e : m.heap[i]? = some o) : (m.put i o').heap[i]? = some o' := get_set e

theorem iter_range1 {k : Int} {hp : List MO} (h1 : -16777216 ≤ k) (h2 : k ≤ 16777216) : iterOf .range1 [.int k] hp = some ((List.range k.toNat).map (fun (i : Nat) => .int i), none) := by
  simp only [iterOf, itR1, decide_eq_true (And.intro h1 h2)]
theorem iter_list {r : Nat} {xs : List MV} {hp : List MO} (e : hp[r]? = some (.list xs)) : iterOf .val [.ref r] hp = some (xs, some (r, xs)) := by
  simp only [iterOf, itVal, e]
theorem iter_enum {r : Nat} {xs : List MV} {hp : List MO} (e : hp[r]? = some (.list xs)) : iterOf .enum [.ref r] hp = some (xs.zipIdx.map (fun p => .tup [.int p.2, p.1]), some (r, xs)) := by
  simp only [iterOf, itEnum, e]
theorem range_at {k i : Nat} {x : MV} (e : ((List.range k).map (fun (i : Nat) => MV.int i))[i]? = some x) : i < k ∧ x = .int i := by
  simp only [List.getElem?_map, Option.map_eq_some_iff] at e
  obtain ⟨j, h1, h2⟩ := e
  obtain ⟨h3, h4⟩ := List.getElem?_eq_some_iff.mp h1
  simp at h3 h4; subst h4
  exact ⟨h3, h2.symm⟩
theorem range_len (k : Nat) : ((List.range k).map (fun (i : Nat) => MV.int i)).length = k := by simp
theorem enum_at {xs : List MV} {i : Nat} {x : MV} (e : (xs.zipIdx.map (fun p => MV.tup [.int p.2, p.1]))[i]? = some x) : ∃ y, xs[i]? = some y ∧ x = .tup [.int i, y] := by
  simp only [List.getElem?_map, Option.map_eq_some_iff] at e
  obtain ⟨⟨y, j⟩, hj, rfl⟩ := e
  rw [List.getElem?_zipIdx] at hj
  simp only [Option.map_eq_some_iff, Nat.zero_add] at hj
  obtain ⟨y', hy, hj⟩ := hj
  cases hj
  exact ⟨y, hy, rfl⟩
theorem enum_len (xs : List MV) : (xs.zipIdx.map (fun p => MV.tup [.int p.2, p.1])).length = xs.length := by simp

theorem lst_at {hp : List MO} {r : Nat} {xs : List MV} (e : hp[r]? = some (.list xs)) : lst (.ref r) hp = some (r, xs) := by
  simp only [lst, e]
theorem ok_append {hp : List MO} {r : Nat} {xs : List MV} (e : hp[r]? = some (.list xs)) : mthOk .append (.ref r) hp = true := by
  simp only [mthOk, lst, e, Option.isSome_some]

noncomputable def b2n : Bool → Nat
  | true => 1
  | false => 0
noncomputable def sel {α : Type} (d : Bool) (a b : α) : α := match d with
  | true => b
  | false => a
theorem pidx_b2i {α : Type} {a b : α} {d : Bool} : pidx (b2i d) [a, b].length = some (b2n d) := by cases d <;> rfl
theorem get_b2n {α : Type} {a b : α} {d : Bool} : [a, b][b2n d]? = some (sel d a b) := by cases d <;> rfl

noncomputable def okS (s : List Nat) : Prop := ∀ c ∈ s, c < 55296
theorem okS.d {s : List Nat} (h : okS s) : D.ok (.str s) = true := by
  simp only [D.ok, List.all_eq_true, decide_eq_true_eq]; exact h
theorem oks_strs : ∀ {ss : List (List Nat)}, (∀ s ∈ ss, okS s) → D.oks (ss.map .str) = true
  | [], _ => rfl
  | s :: ss, h => by
    simp only [List.map_cons, D.oks, Bool.and_eq_true]
    exact ⟨(h s (List.mem_cons_self ..)).d, oks_strs fun t ht => h t (List.mem_cons_of_mem _ ht)⟩
theorem rds_strs {hp : List MO} : ∀ (ss : List (List Nat)), Rds hp (ss.map .str) (ss.map .str)
  | [] => .nil
  | s :: ss => .cons (.str s) (rds_strs ss)
theorem e_var {K : KT} {n i : Nat} {Q : PQ} {X : XM} {m : MS} {v : MV} (hv : m.get i = some v) (h : Q v m) : wpE K n (.var i) Q X m := by
  show (match m.get i with | some v => Q v m | none => False)
  rw [hv]; exact h
theorem in_strs {hp : List MO} {x : List Nat} {ss : List (List Nat)} {Q : Bool → Prop} (hx : okS x) (hs : ∀ s ∈ ss, okS s) (h : Q (ss.contains x)) : InP hp (.str x) (ss.map .str) Q := by
  refine .mk (.str x) (ss.map .str) (.str x) (rds_strs ss) (Nat.zero_le _) hx.d (oks_strs hs) ?_
  have e : (ss.map D.str).any (fun e => e.deq (.str x)) = ss.contains x := by
    clear h hs
    induction ss with
    | nil => rfl
    | cons s ss ih =>
      show ((s == x) || (ss.map D.str).any (fun e => e.deq (.str x))) = (x == s || ss.contains x)
      rw [ih, BEq.comm]
  rw [e]; exact h

theorem pidx_nat {k : Int} {n : Nat} (h0 : 0 ≤ k) (h1 : k < n) : pidx k n = some k.toNat := by
  unfold pidx
  rw [decide_eq_true h0, decide_eq_true h1]
theorem get_some {α : Type} {xs : List α} {i : Nat} (h : i < xs.length) : xs[i]? = some xs[i] := List.getElem?_eq_getElem h

theorem pend_nat {k : Int} {n : Nat} (h : 0 ≤ k) : pend k n = min k.toNat n := by
  unfold pend; rw [decide_eq_true h]
theorem pslice_to {α : Type} {xs : List α} {k : Int} (h : 0 ≤ k) : pslice xs none (some k) = xs.take k.toNat := by
  unfold pslice
  simp only [pend_nat h, List.drop_zero]
  rw [← List.take_eq_take_min]
theorem pslice_from {α : Type} {xs : List α} {k : Int} (h : 0 ≤ k) : pslice xs (some k) none = xs.drop k.toNat := by
  unfold pslice
  simp only [pend_nat h, List.take_length]
  rcases Nat.le_total k.toNat xs.length with q | q
  · rw [Nat.min_eq_left q]
  · rw [Nat.min_eq_right q, List.drop_length, List.drop_eq_nil_of_le q]

theorem le_line {n : Nat} (h : n ≤ 1000000) : n ≤ line := by unfold line; (first | lia | omega)
theorem pigeon : ∀ (l t : List (List Nat)), l.Nodup → (∀ x ∈ l, x ∈ t) → l.length ≤ t.length
  | [], _, _, _ => Nat.zero_le _
  | a :: l, t, hn, hs => by
    rw [List.nodup_cons] at hn
    have ha : a ∈ t := hs a (List.mem_cons_self ..)
    have := pigeon l (t.erase a) hn.2 fun x hx => by
      have hne : x ≠ a := fun q => hn.1 (q ▸ hx)
      exact (List.mem_erase_of_ne hne).mpr (hs x (List.mem_cons_of_mem _ hx))
    rw [List.length_erase_of_mem ha] at this
    have := List.length_pos_of_mem ha
    simp only [List.length_cons]; (first | lia | omega)
end Mine
end
section
set_option autoImplicit false
set_option tactic.hygienic false
namespace Mine
variable {K : KT} (hK : Closed (fnP tab) K)
noncomputable def mix (x : Int) : Int := (x * 48271 + 7919) % 2147483647
theorem mix_pos (x : Int) : 0 ≤ mix x ∧ mix x < 2147483647 := by unfold mix; (first | lia | omega)
noncomputable def cell (is : List Int) (k : Int) : Int := match is[k.toNat]? with
  | some v => v
  | none => 0
noncomputable abbrev abc : List Nat := [97, 98, 99, 100, 101, 102, 103, 104, 105, 106, 107, 108, 109, 110, 111, 112, 113, 114, 115, 116, 117, 118, 119, 120, 121, 122]
noncomputable abbrev abc36 : List Nat := [97, 98, 99, 100, 101, 102, 103, 104, 105, 106, 107, 108, 109, 110, 111, 112, 113, 114, 115, 116, 117, 118, 119, 120, 121, 122, 48, 49, 50, 51, 52, 53, 54, 55, 56, 57]
theorem abc_lt : ∀ c ∈ abc, c < 128 := by decide
theorem abc_sub : ∀ c ∈ abc, c ∈ abc36 := by decide
theorem abc36_lt : ∀ c ∈ abc36, c < 128 := by decide
noncomputable def Nm (s : List Nat) : Prop := s ≠ [] ∧ s.length ≤ 8 ∧ (∀ c ∈ s, c ∈ abc36) ∧ s.headD 0 ∈ abc
theorem Nm.ok {s : List Nat} (h : Nm s) : okS s := fun c hc => Nat.lt_trans (abc36_lt c (h.2.2.1 c hc)) (by decide)
theorem headD_app {s t : List Nat} (h : s ≠ []) : (s ++ t).headD 0 = s.headD 0 := by
  cases s with
  | nil => exact absurd rfl h
  | cons => rfl
theorem headD_take {s : List Nat} {k : Nat} (h : 0 < k) : (s.take k).headD 0 = s.headD 0 := by
  cases s with
  | nil => rw [List.take_nil]
  | cons => cases k with
    | zero => cases h
    | succ => rfl
noncomputable def kws : List (List Nat) := [[115, 101, 116], [116, 101, 108, 108], [115, 107, 105, 112], [105, 102], [101, 108, 115, 101], [119, 104, 105, 108, 101], [101, 110, 100]]
theorem kws_ok : ∀ s ∈ kws, okS s := by unfold okS kws; decide
theorem kws_len : ∀ s ∈ kws, s.length ≤ 5 := by unfold kws; decide
include hK
theorem k_mixed {n : Nat} {x : Int} {Q : MV → List MO → Prop} {X : XT} {h : List MO} (hq : Q (.int (mix x)) h) : K (n + 1) 6 [.int x] Q X h := by
  refine hK _ _ _ _ _ _ fn_law_mixed rfl rfl ?_
  conv => whnf
  refine ⟨.inr (by unfold small; decide), ?_⟩
  conv => whnf
  exact ⟨by decide, hq⟩
theorem k_cell {n : Nat} {is : List Int} {k : Int} (hk : 0 ≤ k) {Q : MV → List MO → Prop} {X : XT} {h : List MO} (hq : Q (.int (cell is k)) h) : K (n + 1) 5 [.scr is, .int k] Q X h := by
  refine hK _ _ _ _ _ _ fn_law_cell_at rfl rfl ?_
  conv => whnf
  unfold cell at hq
  by_cases hlt : k < is.length
  · rw [decide_eq_true hlt]
    conv => whnf
    rw [pidx_nat hk hlt]
    dsimp only
    rw [get_some (by (first | lia | omega))] at hq ⊢
    exact hq
  · rw [decide_eq_false hlt]
    rw [List.getElem?_eq_none (by (first | lia | omega))] at hq
    exact hq
theorem kw_end {n : Nat} {s : List Nat} {Q : MV → List MO → Prop} {X : XM} {m : MS} (v : Nat) (hv : m.get v = some (.str s)) (hs : Nm s) (hq : ∀ s' h', Nm s' → m.heap <+: h' → Q (.str s') h') :
    wpSs K n [.ite (.cmp .inn (.var v) (.list [.cst (.str [115, 101, 116]), .cst (.str [116, 101, 108, 108]), .cst (.str [115, 107, 105, 112]), .cst (.str [105, 102]), .cst (.str [101, 108, 115, 101]), .cst (.str [119, 104, 105, 108, 101]), .cst (.str [101, 110, 100])])) [.ret (.bin .add (.var v) (.cst (.str [48])))] [], .ret (.var v)] (fin Q) X m := by
  have e : ∀ {Q : PQ} {X : XM} {m' : MS}, m'.vars = m.vars → Q (.str s) m' → wpE K n (.var v) Q X m' := fun {Q X m'} e h => by
    exact e_var (by rw [← hv]; unfold MS.get; rw [e]) h
  show wpE K n (.var v) _ X _
  refine e (X := X) rfl ?_
  conv => whnf
  rw [get_push]
  show InP _ _ (kws.map .str) _
  refine in_strs hs.ok kws_ok ?_
  cases hc : kws.contains s with
  | true =>
    show wpE K n (.var v) _ X _
    refine e (X := X) rfl ?_
    conv => whnf
    have hl := kws_len s (by simpa using hc)
    refine ⟨by show s.length + 1 ≤ 2 ^ 24; (first | lia | omega), hq _ _ ⟨by simp, by simp; (first | lia | omega), ?_, by rw [headD_app hs.1]; exact hs.2.2.2⟩ (pre_push (pre_self _))⟩
    intro c hc
    rcases List.mem_append.mp hc with h | h
    · exact hs.2.2.1 c h
    · rw [List.mem_singleton.mp h]; decide
  | false =>
    show wpE K n (.var v) _ X _
    refine e (X := X) rfl ?_
    exact hq s _ hs (pre_push (pre_self _))
theorem k_name_by {n : Nat} {x : Int} {Q : MV → List MO → Prop} {X : XT} {h : List MO} (hq : ∀ s h', Nm s → h <+: h' → Q (.str s) h') : K (n + 2) 7 [.int x] Q X h := by
  refine hK _ _ _ _ _ _ fn_law_name_by rfl rfl ?_
  conv => whnf
  refine ⟨by decide, ?_⟩
  conv => whnf
  refine ⟨by decide, ?_⟩
  conv => whnf
  rw [pidx_nat (by (first | lia | omega)) (by show (_ : Int) < 26; (first | lia | omega))]
  dsimp only
  rw [get_some (by show _ < 26; (first | lia | omega))]
  conv => whnf
  refine ⟨by decide, ?_⟩
  conv => whnf
  rw [iter_range1 (by (first | lia | omega)) (by (first | lia | omega))]
  dsimp only
  refine forL_inv (fun i m => ∃ s z w, m = ⟨[some (.int x), some (.str s), some (.int z), w], h⟩ ∧ s.length = i + 1 ∧ (∀ c ∈ s, c ∈ abc36) ∧ s.headD 0 ∈ abc) (fun _ _ => False) ⟨_, _, _, rfl, rfl, ?_, List.getElem_mem _⟩ (fun _ _ _ => trivial) (fun i y m P hy hI hn _ _ => ?_) (fun m hI => ?_) (fun _ _ h => h.elim)
  · intro c hc
    simp only [List.mem_singleton] at hc; subst hc; exact abc_sub _ (List.getElem_mem _)
  · obtain ⟨hi, rfl⟩ := range_at hy
    obtain ⟨s, z, w, rfl, hl, hc, hh⟩ := hI
    conv => whnf
    refine k_mixed hK ?_
    conv => whnf
    refine ⟨by decide, ?_⟩
    conv => whnf
    rw [pidx_nat (by (first | lia | omega)) (by show (_ : Int) < 36; (first | lia | omega))]
    dsimp only
    rw [get_some (by show _ < 36; (first | lia | omega))]
    conv => whnf
    refine ⟨by show s.length + 1 ≤ 2 ^ 24; (first | lia | omega), ?_⟩
    refine hn _ ⟨_, _, _, rfl, by simp; (first | lia | omega), ?_, by rw [headD_app (fun q => by rw [q] at hl; simp at hl)]; exact hh⟩
    intro c h
    rcases List.mem_append.mp h with h | h
    · exact hc c h
    · simp only [List.mem_singleton] at h; subst h; exact List.getElem_mem _
  · obtain ⟨s, z, w, rfl, hl, hc, hh⟩ := hI
    rw [range_len] at hl
    exact kw_end hK 1 rfl ⟨fun q => by rw [q] at hl; simp at hl, by (first | lia | omega), hc, hh⟩ hq
end Mine
end
section
set_option autoImplicit false
set_option tactic.hygienic false
namespace Mine
variable {K : KT} (hK : Closed (fnP tab) K)
include hK
theorem twin_rest {n : Nat} {s so : List Nat} {c a : Int} {Q : MV → List MO → Prop} {X : XM} {h : List MO} (hs : Nm s) (ha : 0 ≤ a) (hb : a < s.length) (h1 : 2 ≤ so.length) (h2 : so.length ≤ 36) (h3 : ∀ c ∈ so, c ∈ abc36) (h4 : a = 0 → ∀ c ∈ so, c ∈ abc) (hq : ∀ s' h', Nm s' → h <+: h' → Q (.str s') h') :
    wpSs K n (fn_law_twin.body.drop 3) (fin Q) X ⟨[some (.str s), some (.int c), some (.str so), some (.int a), none, none], h⟩ := by
  conv => whnf
  rw [pidx_nat ha hb]
  dsimp only
  rw [get_some (by (first | lia | omega))]
  conv => whnf
  intro k hk
  conv => whnf
  refine ⟨by decide, ?_⟩
  conv => whnf
  refine ⟨by (first | lia | omega), ?_⟩
  conv => whnf
  refine ⟨by (first | lia | omega), ?_⟩
  conv => whnf
  have hm : ∀ x : Int, 0 ≤ x % so.length ∧ x % so.length < so.length := fun x => ⟨Int.emod_nonneg _ (by (first | lia | omega)), Int.emod_lt_of_pos _ (by (first | lia | omega))⟩
  rw [pidx_nat (hm _).1 (hm _).2]
  dsimp only
  rw [get_some (by have := hm (k + 1 + c / 8 % (so.length - 1)); (first | lia | omega))]
  conv => whnf
  have hlen := hs.2.1
  rw [pslice_to ha]
  refine ⟨le_line (by rw [List.length_take]; show _ + 1 ≤ _; (first | lia | omega)), ?_⟩
  conv => whnf
  rw [pslice_from (by (first | lia | omega))]
  refine ⟨le_line (by rw [List.length_append, List.length_take, List.length_drop]; show _ + 1 + _ ≤ _; (first | lia | omega)), ?_⟩
  refine kw_end hK 5 rfl ⟨by simp, ?_, ?_, ?_⟩ hq
  · rw [List.length_append, List.length_append, List.length_take, List.length_drop]; show _ + 1 + _ ≤ _; (first | lia | omega)
  · intro c hc
    rcases List.mem_append.mp hc with h | h
    · rcases List.mem_append.mp h with h | h
      · exact hs.2.2.1 c (List.mem_of_mem_take h)
      · simp only [List.mem_singleton] at h; subst h; exact h3 _ (List.getElem_mem _)
    · exact hs.2.2.1 c (List.mem_of_mem_drop h)
  · rw [List.append_assoc]
    by_cases q : a = 0
    · subst q; exact h4 rfl _ (List.getElem_mem _)
    · rw [headD_app (fun e => by have := congrArg List.length e; rw [List.length_take, List.length_nil] at this; (first | lia | omega)), headD_take (by (first | lia | omega))]
      exact hs.2.2.2

theorem k_twin {n : Nat} {s : List Nat} {c : Int} {Q : MV → List MO → Prop} {X : XT} {h : List MO} (hs : Nm s) (hq : ∀ s' h', Nm s' → h <+: h' → Q (.str s') h') : K (n + 1) 8 [.str s, .int c] Q X h := by
  refine hK _ _ _ _ _ _ fn_law_twin rfl rfl ?_
  have hp : 0 < s.length := List.length_pos_iff.mpr hs.1
  conv => whnf
  refine ⟨by (first | lia | omega), ?_⟩
  conv => whnf
  have h0 : 0 ≤ c % (s.length : Int) := Int.emod_nonneg _ (by (first | lia | omega))
  have h1 : c % (s.length : Int) < s.length := Int.emod_lt_of_pos _ (by (first | lia | omega))
  by_cases q : 0 < c % (s.length : Int)
  · rw [decide_eq_true q]
    conv => whnf
    refine ⟨le_line (by decide), ?_⟩
    exact twin_rest hK (so := abc36) hs h0 h1 (by decide) (by decide) (fun _ h => h) (fun e => by (first | lia | omega)) hq
  · rw [decide_eq_false q]
    exact twin_rest hK (so := abc) hs h0 h1 (by decide) (by decide) abc_sub (fun _ _ h => h) hq
end Mine
end
section
set_option autoImplicit false
set_option tactic.hygienic false
namespace Mine

noncomputable def lt26 (x : Int) : Nat := 97 + (x % 26).toNat
theorem abc_at (x : Int) : abc[(x % 26).toNat]? = some (lt26 x) := by
  have h : ∀ i, i < 26 → abc[i]? = some (97 + i) := by decide
  exact h _ (by (first | lia | omega))
theorem lt26_in (x : Int) : lt26 x ∈ abc36 := abc_sub _ (List.mem_of_getElem? (abc_at x))
noncomputable def cand (p : List Nat) (o : Int) (j : Nat) : List Nat := p ++ [lt26 (o + 5 * j)]
theorem cand_ne {p : List Nat} {o : Int} {i j : Nat} (h : i < j) (hj : j ≤ 9) : cand p o i ≠ cand p o j := fun e => by
  unfold cand at e
  have := List.append_cancel_left e
  simp only [List.cons.injEq, and_true] at this
  unfold lt26 at this
  (first | lia | omega)
theorem cand_in {p : List Nat} {o : Int} {ss : List (List Nat)} (hl : ss.length ≤ 9) (h : ∀ i, i ≤ 9 → cand p o i ∈ ss) : False := by
  have hn : ((List.range 10).map (cand p o)).Nodup := by
    refine List.pairwise_map.mpr ((List.pairwise_lt_range (n := 10)).imp_of_mem fun {a b} ha hb hlt => cand_ne hlt ?_)
    simp at hb; (first | lia | omega)
  have := pigeon _ ss hn fun x hx => by
    obtain ⟨i, hi, rfl⟩ := List.mem_map.mp hx
    simp at hi
    exact h i (by (first | lia | omega))
  simp at this; (first | lia | omega)

noncomputable def Ph (ss : List (List Nat)) (i : Int) (k : Nat) (s : List Nat) (u : Int) : Prop :=
  21 - s.length ≤ k ∨ ∃ p o j, p.length = 7 ∧ j ≤ 9 ∧ s = cand p o j ∧ (∀ i', i' < j → cand p o i' ∈ ss) ∧ u + 8 + i = o + 5 * ((j : Int) + 1) ∧ 11 - j ≤ k

theorem ph_step {ss : List (List Nat)} {i : Int} {k : Nat} {s : List Nat} {u : Int} (hs : Nm s) (hl : ss.length ≤ 9) (hin : s ∈ ss ∨ s ∈ kws) (h : Ph ss i (k + 1) s u) :
    Nm (s.take 7 ++ [lt26 (u + s.length + i)]) ∧ Ph ss i k (s.take 7 ++ [lt26 (u + s.length + i)]) (u + 5) := by
  have hlen := hs.2.1
  have hne : 0 < s.length := List.length_pos_iff.mpr hs.1
  refine ⟨⟨by simp, by simp; (first | lia | omega), fun c hc => ?_, by rw [headD_app (fun e => by have := congrArg List.length e; rw [List.length_take, List.length_nil] at this; (first | lia | omega)), headD_take (by decide)]; exact hs.2.2.2⟩, ?_⟩
  · rcases List.mem_append.mp hc with h | h
    · exact hs.2.2.1 c (List.mem_of_mem_take h)
    · simp only [List.mem_singleton] at h; subst h; exact lt26_in _
  · rcases h with h | ⟨p, o, j, hp, hj, hc, hv, hu, hk⟩
    · by_cases q : s.length = 8
      · refine .inr ⟨s.take 7, u + s.length + i, 0, by rw [List.length_take]; (first | lia | omega), by (first | lia | omega), ?_, fun i' hi => by (first | lia | omega), by (first | lia | omega), by (first | lia | omega)⟩
        unfold cand; simp
      · refine .inl ?_
        rw [List.length_append, List.length_take]
        show 21 - (min 7 s.length + 1) ≤ k
        (first | lia | omega)
    · have h8 : s.length = 8 := by rw [hc]; unfold cand; rw [List.length_append, hp]; rfl
      have hss : s ∈ ss := hin.elim id fun q => by have := kws_len s q; (first | lia | omega)
      by_cases q : j = 9
      · subst q
        exact (cand_in (p := p) (o := o) hl fun i' hi => by
          by_cases q : i' = 9
          · subst q; rw [← hc]; exact hss
          · exact hv i' (by (first | lia | omega))).elim
      · refine .inr ⟨p, o, j + 1, hp, by (first | lia | omega), ?_, fun i' hi => ?_, by (first | lia | omega), by (first | lia | omega)⟩
        · have : s.take 7 = p := by rw [hc]; unfold cand; rw [← hp]; simp
          rw [this, h8]
          unfold cand
          congr 3
        · by_cases q : i' = j
          · subst q; rw [← hc]; exact hss
          · exact hv i' (by (first | lia | omega))

variable {K : KT} (hK : Closed (fnP tab) K)
include hK

theorem names_while {n : Nat} {s : List Nat} {o u i : Int} {r : Nat} {ss : List (List Nat)} {hp : List MO} {Q : Fl → MS → Prop} {X : XM} (hr : hp[r]? = some (.list (ss.map .str))) (hss : ∀ s ∈ ss, Nm s) (hl : ss.length ≤ 9) (hs : Nm s)
    (hq : ∀ s' u' hp', Nm s' → s' ∉ ss → s' ∉ kws → hp <+: hp' → Q .next ⟨[some (.int o), some (.int u'), some (.ref r), some (.int i), some (.str s')], hp'⟩) :
    wpS K n (.while_ (.or [.cmp .inn (.var 4) (.var 2), .cmp .inn (.var 4) (.list [.cst (.str [115, 101, 116]), .cst (.str [116, 101, 108, 108]), .cst (.str [115, 107, 105, 112]), .cst (.str [105, 102]), .cst (.str [101, 108, 115, 101]), .cst (.str [119, 104, 105, 108, 101]), .cst (.str [101, 110, 100])])])
      [.asg [4] false (.bin .add (.sl (.var 4) none (some (.cst (.int 7)))) (.idx (.cst (.str [97, 98, 99, 100, 101, 102, 103, 104, 105, 106, 107, 108, 109, 110, 111, 112, 113, 114, 115, 116, 117, 118, 119, 120, 121, 122])) (.bin .mod (.bin .add (.bin .add (.var 1) (.blt .len [.var 4])) (.var 3)) (.cst (.int 26))))), .asg [1] false (.bin .add (.var 1) (.cst (.int 5)))])
      Q X ⟨[some (.int o), some (.int u), some (.ref r), some (.int i), some (.str s)], hp⟩ := by
  refine ⟨30, while_inv (fun k m => ∃ s u hp', m = ⟨[some (.int o), some (.int u), some (.ref r), some (.int i), some (.str s)], hp'⟩ ∧ hp <+: hp' ∧ Nm s ∧ Ph ss i k s u) (fun m ⟨s, u, hp', _, _, hs, h⟩ => ?_) (fun k m W hI hW => ?_) 30 _ ⟨s, u, hp, rfl, pre_self _, hs, .inl (by (first | lia | omega))⟩⟩
  · have := hs.2.1
    rcases h with h | ⟨_, _, j, _, hj, _, _, _, h⟩ <;> (first | lia | omega)
  · obtain ⟨s, u, hp', rfl, hpre, hs, hph⟩ := hI
    have body : ∀ hp'', hp <+: hp'' → (s ∈ ss ∨ s ∈ kws) → wpSs K n [.asg [4] false (.bin .add (.sl (.var 4) none (some (.cst (.int 7)))) (.idx (.cst (.str [97, 98, 99, 100, 101, 102, 103, 104, 105, 106, 107, 108, 109, 110, 111, 112, 113, 114, 115, 116, 117, 118, 119, 120, 121, 122])) (.bin .mod (.bin .add (.bin .add (.var 1) (.blt .len [.var 4])) (.var 3)) (.cst (.int 26))))), .asg [1] false (.bin .add (.var 1) (.cst (.int 5)))]
        (fun f m => match f with
        | .next => W m
        | .cont => W m
        | .brk => Q .next m
        | .ret r => Q (.ret r) m) X ⟨[some (.int o), some (.int u), some (.ref r), some (.int i), some (.str s)], hp''⟩ := fun hp'' hpre hin => by
      obtain ⟨g1, g2⟩ := ph_step hs hl hin hph
      conv => whnf
      refine ⟨by decide, ?_⟩
      conv => whnf
      rw [pidx_nat (by (first | lia | omega)) (by show (_ : Int) < 26; (first | lia | omega))]
      dsimp only
      rw [abc_at]
      conv => whnf
      rw [pslice_to (by decide)]
      refine ⟨le_line (by have := hs.2.1; rw [List.length_take]; show _ + 1 ≤ _; (first | lia | omega)), ?_⟩
      exact hW _ ⟨_, _, hp'', rfl, hpre, g1, g2⟩
    conv => whnf
    rw [pre_at hpre hr]
    dsimp only
    refine in_strs hs.ok (fun t ht => (hss t ht).ok) ?_
    cases hc : ss.contains s with
    | true => exact body hp' hpre (.inl (by simpa using hc))
    | false =>
      conv => whnf
      rw [get_push]
      show InP _ _ (kws.map .str) _
      refine in_strs hs.ok kws_ok ?_
      cases hc' : kws.contains s with
      | true => exact body _ (pre_push hpre) (.inr (by simpa using hc'))
      | false => exact hq s u _ hs (by simpa using hc) (by simpa using hc') (pre_push hpre)

noncomputable def inner : List MSt → List MSt
  | .for_ _ _ _ _ b :: _ => b
  | _ => []
theorem k_names {n : Nat} {a b : Int} {Q : MV → List MO → Prop} {X : XT} {h : List MO} (hq : ∀ (h' : List MO) (r : Nat) (ss : List (List Nat)), h <+: h' → h.length ≤ r → h'[r]? = some (.list (ss.map .str)) → ss.length = 10 → (∀ s ∈ ss, Nm s) → ss.Nodup → (∀ s ∈ ss, s ∉ kws) → Q (.ref r) h') :
    K (n + 3) 9 [.int a, .int b] Q X h := by
  refine hK _ _ _ _ _ _ fn_law_names rfl rfl ?_
  conv => whnf
  refine forL_inv (fun i m => ∃ (o u : Int) (ss : List (List Nat)) (w3 w4 : Option MV) (hp : List MO), m = ⟨[some (.int o), some (.int u), some (.ref h.length), w3, w4], hp⟩ ∧ h <+: hp ∧ hp[h.length]? = some (.list (ss.map .str)) ∧ ss.length = i ∧ (∀ s ∈ ss, Nm s) ∧ ss.Nodup ∧ (∀ s ∈ ss, s ∉ kws)) (fun _ _ => False)
    ⟨a, b, [], none, none, _, rfl, pre_push (pre_self _), get_last _ _, rfl, by simp, List.nodup_nil, by simp⟩ (fun _ _ _ => trivial) (fun i y m P hy hI hn _ _ => ?_) (fun m hI => ?_) (fun _ _ h => h.elim)
  · obtain ⟨hi, rfl⟩ := range_at hy
    obtain ⟨o, u, ss, w3, w4, hp, rfl, hpre, hr, hl, hss, hnd, hkw⟩ := hI
    have hi : i < 10 := hi
    have rest : ∀ s hp', Nm s → hp <+: hp' → wpSs K (n + 2) ((inner (fn_law_names.body.drop 1)).drop 3) P (fun c m => X c m.heap) ⟨[some (.int (mix o)), some (.int u), some (.ref h.length), some (.int i), some (.str s)], hp'⟩ := fun s hp' hs hpre' => by
      show wpS K (n + 2) _ _ _ _
      refine names_while hK (pre_at hpre' hr) hss (by (first | lia | omega)) hs fun s' u' hp'' hs' h1 h2 hpre'' => ?_
      have hr' := pre_at (hpre'.trans hpre'') hr
      conv => whnf
      rw [ok_append hr']
      conv => whnf
      rw [lst_at hr']
      conv => whnf
      refine ⟨by simp only [List.length_map]; unfold line; (first | lia | omega), ?_⟩
      refine hn _ ⟨_, _, ss ++ [s'], _, _, _, rfl, pre_set ((hpre.trans hpre').trans hpre'') (Nat.le_refl _), ?_, by simp [hl], ?_, ?_, ?_⟩
      · rw [get_set hr']; simp
      · intro t ht
        rcases List.mem_append.mp ht with ht | ht
        · exact hss t ht
        · simp at ht; subst ht; exact hs'
      · rw [List.nodup_append]
        exact ⟨hnd, by simp, fun t ht t' ht' => by simp at ht'; subst ht'; exact fun q => h1 (q ▸ ht)⟩
      · intro t ht
        rcases List.mem_append.mp ht with ht | ht
        · exact hkw t ht
        · simp at ht; subst ht; exact h2
    conv => whnf
    refine k_mixed hK ?_
    conv => whnf
    refine ⟨by decide, ?_⟩
    conv => whnf
    refine k_name_by hK fun s h' hs hpre' => ?_
    conv => whnf
    refine ⟨by decide, ?_⟩
    conv => whnf
    have hpre' : hp <+: h' := hpre'
    cases hodd : ((i : Int) % 2 == 1) with
    | false => exact rest s h' hs hpre'
    | true =>
      have hodd : (i : Int) % 2 = 1 := by simpa using hodd
      conv => whnf
      refine ⟨by decide, ?_⟩
      conv => whnf
      refine ⟨by decide, ?_⟩
      conv => whnf
      cases hu : (u / 4 % 2 == 1) with
      | false => exact rest s h' hs hpre'
      | true =>
        conv => whnf
        dsimp only [MS.set, List.set]
        rw [pre_at hpre' hr]
        dsimp only
        have hlt : i - 1 < ss.length := by (first | lia | omega)
        rw [pidx_nat (by (first | lia | omega)) (by rw [List.length_map]; (first | lia | omega))]
        dsimp only
        have e1 : ((i : Int) - 1).toNat = i - 1 := by (first | lia | omega)
        rw [e1, List.getElem?_map, get_some hlt]
        conv => whnf
        refine k_mixed hK ?_
        conv => whnf
        refine k_twin hK (hss _ (List.getElem_mem _)) fun s' h'' hs' hpre'' => ?_
        exact rest s' h'' hs' (hpre'.trans hpre'')
  · obtain ⟨o, u, ss, w3, w4, hp, rfl, hpre, hr, hl, hss, hnd, hkw⟩ := hI
    exact hq hp h.length ss hpre (Nat.le_refl _) hr hl hss hnd hkw
end Mine
end
section
set_option autoImplicit false
set_option tactic.hygienic false
namespace Mine

inductive Tm where
  | num (k : Int) | nm (s : List Nat) | op (c : Nat) (a b : Tm)
noncomputable abbrev sNum : List Nat := [110, 117, 109, 98, 101, 114]
noncomputable abbrev sName : List Nat := [110, 97, 109, 101]
noncomputable def Tm.mv : Tm → MV
  | .num k => .tup [.str sNum, .int k]
  | .nm s => .tup [.str sName, .str s]
  | .op c a b => .tup [.str [c], a.mv, b.mv]
noncomputable def Tm.deep : Tm → Nat
  | .op _ a b => max a.deep b.deep + 1
  | _ => 0
noncomputable def Tm.lv : Tm → Nat
  | .num _ | .nm _ => 1
  | .op _ a b => a.lv + b.lv
theorem Tm.lv_le : ∀ t : Tm, t.lv ≤ 2 ^ t.deep
  | .num _ => Nat.le_refl _
  | .nm _ => Nat.le_refl _
  | .op _ a b => by
    have ha := Tm.lv_le a
    have hb := Tm.lv_le b
    have h1 : 2 ^ a.deep ≤ 2 ^ max a.deep b.deep := Nat.pow_le_pow_right (by decide) (Nat.le_max_left ..)
    have h2 : 2 ^ b.deep ≤ 2 ^ max a.deep b.deep := Nat.pow_le_pow_right (by decide) (Nat.le_max_right ..)
    show a.lv + b.lv ≤ 2 ^ (max a.deep b.deep + 1)
    rw [Nat.pow_succ]; (first | lia | omega)
noncomputable def isSign (c : Nat) : Prop := c = 43 ∨ c = 45 ∨ c = 42 ∨ c = 60 ∨ c = 61 ∨ c = 47
noncomputable def Tm.ok (p : List Nat → Prop) : Tm → Prop
  | .num k => 0 ≤ k ∧ k < 1000000
  | .nm s => p s
  | .op c a b => isSign c ∧ a.ok p ∧ b.ok p
theorem Tm.ok.mono {p q : List Nat → Prop} (h : ∀ s, p s → q s) : ∀ {t : Tm}, t.ok p → t.ok q
  | .num _, x => x
  | .nm s, x => h s x
  | .op _ _ _, ⟨x, y, z⟩ => ⟨x, y.mono h, z.mono h⟩

theorem deeps_strs : ∀ (ss : List (List Nat)), D.deeps (ss.map .str) = 0
  | [] => rfl
  | s :: ss => by simp only [List.map_cons, D.deeps, D.deep, deeps_strs ss]; rfl
theorem ne_nil {hp : List MO} {r r' : Nat} {ss : List (List Nat)} {Q : Bool → Prop} (h1 : hp[r]? = some (.list (ss.map .str))) (h2 : hp[r']? = some (.list [])) (hs : ∀ s ∈ ss, okS s) (hq : Q (decide (ss = []))) : EqP hp (.ref r) (.ref r') Q := by
  refine .mk (.list (ss.map .str)) (.list []) (.list h1 (rds_strs ss)) (.list h2 .nil) ?_ (oks_strs hs) rfl ?_
  · show D.deeps _ + 1 ≤ 1000
    rw [deeps_strs]; decide
  · cases ss <;> exact hq

variable {K : KT} (hK : Closed (fnP tab) K)
include hK

theorem k_end_by {n : Nat} {x : Int} {r : Nat} {ss : List (List Nat)} {Q : MV → List MO → Prop} {X : XT} {h : List MO} (hr : h[r]? = some (.list (ss.map .str))) (hs : ∀ s ∈ ss, okS s) (hq : ∀ t h', Tm.ok (· ∈ ss) t → t.deep = 0 → h <+: h' → Q t.mv h') :
    K (n + 1) 10 [.int x, .ref r] Q X h := by
  refine hK _ _ _ _ _ _ fn_law_end_by rfl rfl ?_
  have rest : ∀ h', h <+: h' → wpSs K n (fn_law_end_by.body.drop 1) (fin Q) (fun c m => X c m.heap) ⟨[some (.int x), some (.ref r)], h'⟩ := fun h' hpre => by
    conv => whnf
    refine ⟨by decide, ?_⟩
    conv => whnf
    refine ⟨by decide, ?_⟩
    conv => whnf
    cases hc : (x / 3 % 4 == 0) with
    | true =>
      conv => whnf
      refine ⟨by decide, ?_⟩
      conv => whnf
      refine ⟨by decide, ?_⟩
      conv => whnf
      refine ⟨by decide, ?_⟩
      exact hq (.num (x / 12 % 10 ^ (6 : Int).toNat)) h' (by show _ ∧ _; have : (10 : Int) ^ (6 : Int).toNat = 1000000 := by decide
                                                             rw [this]; (first | lia | omega)) rfl hpre
    | false =>
      conv => whnf
      refine ⟨by decide, ?_⟩
      conv => whnf
      refine ⟨by decide, ?_⟩
      exact hq (.num (x / 12 % 5)) h' (by show _ ∧ _; (first | lia | omega)) rfl hpre
  conv => whnf
  refine ne_nil (ss := ss) (get_push_old hr) get_push hs ?_
  by_cases hn : ss = []
  · rw [decide_eq_true hn]
    exact rest _ (pre_push (pre_self _))
  · rw [decide_eq_false hn]
    conv => whnf
    refine ⟨by decide, ?_⟩
    conv => whnf
    have hpos : 0 < ss.length := List.length_pos_iff.mpr hn
    by_cases hc : 0 < x % 3
    · rw [decide_eq_true hc]
      conv => whnf
      refine ⟨by decide, ?_⟩
      conv => whnf
      rw [get_push_old hr]
      conv => whnf
      rw [List.length_map]
      refine ⟨by (first | lia | omega), ?_⟩
      conv => whnf
      rw [get_push_old hr]
      dsimp only
      have h1 : 0 ≤ x / 3 % (ss.length : Int) := Int.emod_nonneg _ (by (first | lia | omega))
      have h2 : x / 3 % (ss.length : Int) < ss.length := Int.emod_lt_of_pos _ (by (first | lia | omega))
      rw [pidx_nat h1 (by rw [List.length_map]; exact h2)]
      dsimp only
      rw [List.getElem?_map, get_some (by (first | lia | omega))]
      exact hq (.nm _) _ (List.getElem_mem _) rfl (pre_push (pre_self _))
    · rw [decide_eq_false hc]
      exact rest _ (pre_push (pre_self _))
end Mine
end
section
set_option autoImplicit false
set_option tactic.hygienic false
namespace Mine

theorem signs10_at : ∀ j, j < 10 → ∃ c, isSign c ∧ [MV.str [43], MV.str [45], MV.str [42], MV.str [60], MV.str [61], MV.str [43], MV.str [45], MV.str [60], MV.str [47], MV.str [47]][j]? = some (.str [c])
  | 0, _ => ⟨43, by unfold isSign; (first | lia | omega), rfl⟩
  | 1, _ => ⟨45, by unfold isSign; (first | lia | omega), rfl⟩
  | 2, _ => ⟨42, by unfold isSign; (first | lia | omega), rfl⟩
  | 3, _ => ⟨60, by unfold isSign; (first | lia | omega), rfl⟩
  | 4, _ => ⟨61, by unfold isSign; (first | lia | omega), rfl⟩
  | 5, _ => ⟨43, by unfold isSign; (first | lia | omega), rfl⟩
  | 6, _ => ⟨45, by unfold isSign; (first | lia | omega), rfl⟩
  | 7, _ => ⟨60, by unfold isSign; (first | lia | omega), rfl⟩
  | 8, _ => ⟨47, by unfold isSign; (first | lia | omega), rfl⟩
  | 9, _ => ⟨47, by unfold isSign; (first | lia | omega), rfl⟩
  | _ + 10, h => by (first | lia | omega)
theorem signs6_at : ∀ j, j < 6 → ∃ c, isSign c ∧ [MV.str [43], MV.str [45], MV.str [42], MV.str [47], MV.str [60], MV.str [61]][j]? = some (.str [c])
  | 0, _ => ⟨43, by unfold isSign; (first | lia | omega), rfl⟩
  | 1, _ => ⟨45, by unfold isSign; (first | lia | omega), rfl⟩
  | 2, _ => ⟨42, by unfold isSign; (first | lia | omega), rfl⟩
  | 3, _ => ⟨47, by unfold isSign; (first | lia | omega), rfl⟩
  | 4, _ => ⟨60, by unfold isSign; (first | lia | omega), rfl⟩
  | 5, _ => ⟨61, by unfold isSign; (first | lia | omega), rfl⟩
  | _ + 6, h => by (first | lia | omega)

variable {K : KT} (hK : Closed (fnP tab) K)
include hK

theorem k_formula : ∀ (L : Nat) {n : Nat} {x l : Int} {r rl : Nat} {d : Bool} {ss sl : List (List Nat)} {Q : MV → List MO → Prop} {X : XT} {h : List MO}, l = (L : Int) + 1 → h[r]? = some (.list (ss.map .str)) → h[rl]? = some (.list (sl.map .str)) → (∀ s ∈ ss, okS s) → (∀ s ∈ sl, okS s) →
    (∀ t h', Tm.ok (fun s => s ∈ ss ∨ s ∈ sl) t → t.deep ≤ L → h <+: h' → Q t.mv h') → K (n + L + 2) 11 [.int x, .ref r, .ref rl, .bool d, .int l] Q X h := by
  intro L
  induction L with
  | zero =>
    intro n x l r rl d ss sl Q X h hl hr hrl hs hsl hq
    refine hK _ _ _ _ _ _ fn_law_formula_by rfl rfl ?_
    conv => whnf
    refine k_mixed hK ?_
    conv => whnf
    have e : (l == 1) = true := by simp [hl]
    rw [e]
    conv => whnf
    refine ⟨by decide, ?_⟩
    conv => whnf
    refine k_end_by hK hr hs fun t h' ht hd hpre => ?_
    exact hq t h' (ht.mono fun s => .inl) (by (first | lia | omega)) hpre
  | succ L ih =>
    intro n x l r rl d ss sl Q X h hl hr hrl hs hsl hq
    refine hK _ _ _ _ _ _ fn_law_formula_by rfl rfl ?_
    conv => whnf
    refine k_mixed hK ?_
    conv => whnf
    have e : (l == 1) = false := by simp [hl]; (first | lia | omega)
    rw [e]
    conv => whnf
    refine ⟨by decide, ?_⟩
    conv => whnf
    by_cases hc : mix x % 8 < 3
    · rw [decide_eq_true hc]
      conv => whnf
      refine ⟨by decide, ?_⟩
      conv => whnf
      refine k_end_by hK hr hs fun t h' ht hd hpre => ?_
      exact hq t h' (ht.mono fun s => .inl) (by (first | lia | omega)) hpre
    · rw [decide_eq_false hc]
      conv => whnf
      refine ⟨by decide, ?_⟩
      conv => whnf
      rw [get_push]
      dsimp only
      rw [pidx_b2i]
      dsimp only
      rw [get_b2n]
      have hj : ∃ j : Int, (j = 8 ∨ j = 10) ∧ sel d (MV.int 8) (.int 10) = .int j := by
        cases d
        · exact ⟨8, .inl rfl, rfl⟩
        · exact ⟨10, .inr rfl, rfl⟩
      obtain ⟨j, hj, e1⟩ := hj
      rw [e1]
      conv => whnf
      refine ⟨by (first | lia | omega), ?_⟩
      conv => whnf
      rw [get_push2]
      dsimp only
      have h1 : 0 ≤ mix x / 8 % j := Int.emod_nonneg _ (by (first | lia | omega))
      have h2 : mix x / 8 % j < j := Int.emod_lt_of_pos _ (by (first | lia | omega))
      rw [pidx_nat h1 (by show _ < (10 : Int); (first | lia | omega))]
      dsimp only
      obtain ⟨c, hcs, e3⟩ := signs10_at (mix x / 8 % j).toNat (by (first | lia | omega))
      rw [e3]
      conv => whnf
      refine ⟨.inr (by unfold small; decide), ?_⟩
      conv => whnf
      have er : n + (L + 1) + 1 = n + L + 2 := by (first | lia | omega)
      rw [er]
      have hp0 : ∀ o o', h <+: (h ++ [o]) ++ [o'] := fun o o' => pre_push (pre_push (pre_self _))
      refine ih (by (first | lia | omega)) (pre_at (hp0 _ _) hr) (pre_at (hp0 _ _) hrl) hs hsl fun t h₁ ht hd hpre0 => ?_
      have hpre : h <+: h₁ := (hp0 _ _).trans hpre0
      clear hpre0
      have last : ∀ {h₂ : List MO} {rr : Nat} {sr : List (List Nat)} {V : List MO → List (Option MV)}, h₂[rr]? = some (.list (sr.map .str)) → h₂[rl]? = some (.list (sl.map .str)) → h <+: h₂ → (∀ s ∈ sr, okS s) → (∀ s, s ∈ sr ∨ s ∈ sl → s ∈ ss ∨ s ∈ sl) →
          K (n + L + 2) 11 [.int (mix x * 5 + 2), .ref rr, .ref rl, .bool d, .int (l - 1)] (fun v h' => Q (.tup [.str [c], t.mv, v]) h') (fun c h' => X c h') h₂ := fun {h₂ rr sr V} g1 g2 hp2 g3 g4 => by
        refine ih (by (first | lia | omega)) g1 g2 g3 hsl fun t' h' ht' hd' hpre' => ?_
        refine hq (.op c t t') h' ⟨hcs, ht, ht'.mono g4⟩ ?_ (hp2.trans hpre')
        show max t.deep t'.deep + 1 ≤ _
        (first | lia | omega)
      conv => whnf
      by_cases h47 : c = 47
      · subst h47
        conv => whnf
        refine ⟨by decide, ?_⟩
        conv => whnf
        refine ⟨by decide, ?_⟩
        conv => whnf
        by_cases h3 : mix x / 80 % 4 < 3
        · rw [decide_eq_true h3]
          conv => whnf
          refine ⟨by decide, ?_⟩
          conv => whnf
          refine ⟨by decide, ?_⟩
          refine hq (.op 47 t (.num (1 + mix x / 320 % 9))) h₁ ⟨hcs, ht, by show _ ∧ _; (first | lia | omega)⟩ ?_ hpre
          show max t.deep 0 + 1 ≤ _
          (first | lia | omega)
        · rw [decide_eq_false h3]
          conv => whnf
          refine ⟨.inr (by unfold small; decide), ?_⟩
          conv => whnf
          exact last (V := fun _ => []) (pre_at hpre hrl) (pre_at hpre hrl) hpre hsl fun s hs => hs.elim .inr .inr
      · have e47 : ([c] == [47]) = false := by simpa using h47
        rw [e47]
        conv => whnf
        rw [e47]
        conv => whnf
        refine ⟨.inr (by unfold small; decide), ?_⟩
        conv => whnf
        exact last (V := fun _ => []) (pre_at hpre hr) (pre_at hpre hrl) hpre hs fun s hs => hs
end Mine
end
section
set_option autoImplicit false
set_option linter.unusedVariables false
set_option tactic.hygienic false
namespace Mine

noncomputable abbrev wSet : List Nat := [115, 101, 116]
noncomputable abbrev wTell : List Nat := [116, 101, 108, 108]
noncomputable abbrev wSkip : List Nat := [115, 107, 105, 112]
noncomputable abbrev wIf : List Nat := [105, 102]
noncomputable abbrev wElse : List Nat := [101, 108, 115, 101]
noncomputable abbrev wWhile : List Nat := [119, 104, 105, 108, 101]
noncomputable abbrev wEnd : List Nat := [101, 110, 100]

inductive Rw where
  | set (s : List Nat) (t : Tm) | tell (t : Tm) | skip | ite (t : Tm) (a b : List Rw) | wh (t : Tm) (a : List Rw)

noncomputable def Gn (s : List Nat) : Prop := Nm s ∧ s ∉ kws
noncomputable def Tm.good (t : Tm) : Prop := t.ok Gn ∧ t.deep ≤ 3

noncomputable def Tm.ws : Tm → List (List Nat)
  | .num k => [dec k]
  | .nm s => [s]
  | .op c a b => [c] :: (a.ws ++ b.ws)
noncomputable def Tm.txt : Tm → List Nat
  | .num k => dec k
  | .nm s => s
  | .op c a b => [c] ++ [32] ++ a.txt ++ [32] ++ b.txt
theorem glue_app (c : Nat) : ∀ {x y : List (List Nat)}, x ≠ [] → y ≠ [] → glue c (x ++ y) = glue c x ++ c :: glue c y
  | [], _, h, _ => absurd rfl h
  | [a], y, _, h => by
    cases y with
    | nil => exact absurd rfl h
    | cons b r => rfl
  | a :: b :: r, y, _, h => by
    have e := glue_app c (x := b :: r) (y := y) (List.cons_ne_nil _ _) h
    show a ++ c :: glue c (b :: r ++ y) = (a ++ c :: glue c (b :: r)) ++ c :: glue c y
    rw [e, List.append_assoc]; rfl
theorem Tm.ws_ne (t : Tm) : t.ws ≠ [] := by
  cases t <;> exact List.cons_ne_nil _ _
theorem Tm.txt_ws : ∀ t : Tm, t.txt = glue 32 t.ws
  | .num _ => rfl
  | .nm _ => rfl
  | .op c a b => by
    show [c] ++ [32] ++ a.txt ++ [32] ++ b.txt = glue 32 ([[c]] ++ (a.ws ++ b.ws))
    rw [glue_app 32 (List.cons_ne_nil _ _) (fun e => a.ws_ne (List.append_eq_nil_iff.mp e).1), glue_app 32 a.ws_ne b.ws_ne, a.txt_ws, b.txt_ws]
    simp [glue]
theorem Nm.no32 {s : List Nat} (h : Nm s) : 32 ∉ s := fun q => absurd (h.2.2.1 32 q) (by decide)
theorem dec_no32 {k : Int} (h : 0 ≤ k) : 32 ∉ dec k := fun q => by
  obtain ⟨n, rfl⟩ := Int.eq_ofNat_of_zero_le h
  exact absurd (dec_digits n 32 q).1 (by decide)
theorem Tm.ws_free : ∀ {t : Tm}, t.ok Gn → ∀ w ∈ t.ws, 32 ∉ w
  | .num k, h, w, hw => by rw [List.mem_singleton.mp hw]; exact dec_no32 h.1
  | .nm s, h, w, hw => by rw [List.mem_singleton.mp hw]; exact h.1.no32
  | .op c a b, h, w, hw => by
    rcases List.mem_cons.mp hw with rfl | hw
    · have := h.1
      unfold isSign at this
      intro q
      have := List.mem_singleton.mp q
      (first | lia | omega)
    · rcases List.mem_append.mp hw with hw | hw
      · exact a.ws_free h.2.1 w hw
      · exact b.ws_free h.2.2 w hw
theorem Tm.txt_len : ∀ {t : Tm}, t.ok Gn → t.txt.length + 4 ≤ 12 * t.lv
  | .num k, h => by have := (dec_len h).2; show (dec k).length + 4 ≤ 12; (first | lia | omega)
  | .nm s, h => by have := h.1.2.1; show s.length + 4 ≤ 12; (first | lia | omega)
  | .op c a b, h => by
    have h1 := a.txt_len h.2.1
    have h2 := b.txt_len h.2.2
    show ([c] ++ [32] ++ a.txt ++ [32] ++ b.txt).length + 4 ≤ 12 * (a.lv + b.lv)
    simp only [List.length_append, List.length_singleton]; (first | lia | omega)
theorem Tm.good.len {t : Tm} (h : t.good) : t.txt.length ≤ 92 := by
  have h1 := t.txt_len h.1
  have h2 := t.lv_le
  have h3 : 2 ^ t.deep ≤ 2 ^ 3 := Nat.pow_le_pow_right (by decide) h.2
  (first | lia | omega)

theorem glue_inj (c : Nat) : ∀ {x y : List (List Nat)}, x ≠ [] → y ≠ [] → (∀ w ∈ x, c ∉ w) → (∀ w ∈ y, c ∉ w) → glue c x = glue c y → x = y := by
  have head : ∀ {a b : List Nat} {r r' : List Nat}, c ∉ a → c ∉ b → a ++ c :: r = b ++ c :: r' → a = b ∧ r = r' := by
    intro a
    induction a with
    | nil =>
      intro b r r' _ hb e
      cases b with
      | nil => exact ⟨rfl, (List.cons.inj e).2⟩
      | cons z b => exact absurd (List.cons.inj e).1 fun q => hb (q ▸ List.mem_cons_self ..)
    | cons z a ih =>
      intro b r r' ha hb e
      cases b with
      | nil => exact absurd (List.cons.inj e).1 fun q => ha (q ▸ List.mem_cons_self ..)
      | cons z' b =>
        obtain ⟨h1, h2⟩ := List.cons.inj e
        obtain ⟨h3, h4⟩ := ih (fun q => ha (List.mem_cons_of_mem _ q)) (fun q => hb (List.mem_cons_of_mem _ q)) h2
        exact ⟨by rw [h1, h3], h4⟩
  intro x
  induction x with
  | nil => intro y h; exact absurd rfl h
  | cons a x ih =>
    intro y _ hy hx hy' e
    cases y with
    | nil => exact absurd rfl hy
    | cons b y =>
      have ha := hx a (List.mem_cons_self ..)
      have hb := hy' b (List.mem_cons_self ..)
      cases x with
      | nil =>
        cases y with
        | nil => rw [show a = b from e]
        | cons b' y =>
          have e : a = b ++ c :: glue c (b' :: y) := e
          exact absurd (by rw [e]; simp) ha
      | cons a' x =>
        cases y with
        | nil =>
          have e : a ++ c :: glue c (a' :: x) = b := e
          exact absurd (by rw [← e]; simp) hb
        | cons b' y =>
          obtain ⟨h1, h2⟩ := head ha hb e
          rw [h1, ih (List.cons_ne_nil _ _) (List.cons_ne_nil _ _) (fun w hw => hx w (List.mem_cons_of_mem _ hw)) (fun w hw => hy' w (List.mem_cons_of_mem _ hw)) h2]

mutual
noncomputable def Rw.mv : Rw → MV
  | .set s t => .tup [.str wSet, .str s, t.mv]
  | .tell t => .tup [.str wTell, t.mv]
  | .skip => .tup [.str wSkip]
  | .ite t a b => .tup [.str wIf, t.mv, .tup (mvs a), .tup (mvs b)]
  | .wh t a => .tup [.str wWhile, t.mv, .tup (mvs a)]
noncomputable def mvs : List Rw → List MV
  | [] => []
  | r :: rs => r.mv :: mvs rs
end
mutual
noncomputable def Rw.good : Rw → Prop
  | .set s t => Gn s ∧ t.good
  | .tell t => t.good
  | .skip => True
  | .ite t a b => t.good ∧ goods a ∧ goods b
  | .wh t a => t.good ∧ goods a
noncomputable def goods : List Rw → Prop
  | [] => True
  | r :: rs => r.good ∧ goods rs
end
mutual
noncomputable def Rw.nest : Rw → Nat
  | .ite _ a b => max (nests a) (nests b) + 1
  | .wh _ a => nests a + 1
  | _ => 0
noncomputable def nests : List Rw → Nat
  | [] => 0
  | r :: rs => max r.nest (nests rs)
end
mutual
noncomputable def Rw.lines : Rw → List (List Nat)
  | .set s t => [wSet ++ [32] ++ s ++ [32] ++ t.txt]
  | .tell t => [wTell ++ [32] ++ t.txt]
  | .skip => [wSkip]
  | .ite t a b => (wIf ++ [32] ++ t.txt) :: (lns a ++ wElse :: (lns b ++ [wEnd]))
  | .wh t a => (wWhile ++ [32] ++ t.txt) :: (lns a ++ [wEnd])
noncomputable def lns : List Rw → List (List Nat)
  | [] => []
  | r :: rs => r.lines ++ lns rs
end
theorem mvs_app : ∀ (a b : List Rw), mvs (a ++ b) = mvs a ++ mvs b
  | [], b => rfl
  | r :: a, b => by show r.mv :: mvs (a ++ b) = r.mv :: (mvs a ++ mvs b); rw [mvs_app a b]
theorem lns_app : ∀ (a b : List Rw), lns (a ++ b) = lns a ++ lns b
  | [], b => rfl
  | r :: a, b => by show r.lines ++ lns (a ++ b) = r.lines ++ lns a ++ lns b; rw [lns_app a b, List.append_assoc]
theorem goods_app : ∀ {a b : List Rw}, goods a → goods b → goods (a ++ b)
  | [], _, _, h => h
  | _ :: _, _, h, h' => ⟨h.1, goods_app h.2 h'⟩
theorem nests_app : ∀ {a b : List Rw} {k : Nat}, nests a ≤ k → nests b ≤ k → nests (a ++ b) ≤ k
  | [], _, _, _, h => h
  | r :: a, b, k, h, h' => by
    have h : max r.nest (nests a) ≤ k := h
    exact Nat.max_le.mpr ⟨(Nat.max_le.mp h).1, nests_app (Nat.max_le.mp h).2 h'⟩
theorem goods_mem : ∀ {rs : List Rw}, goods rs → ∀ r ∈ rs, r.good
  | _ :: _, h, r, hr => by
    rcases List.mem_cons.mp hr with rfl | hr
    · exact h.1
    · exact goods_mem h.2 r hr
theorem nests_mem : ∀ {rs : List Rw} {k : Nat}, nests rs ≤ k → ∀ r ∈ rs, r.nest ≤ k
  | q :: rs, k, h, r, hr => by
    have h : max q.nest (nests rs) ≤ k := h
    rcases List.mem_cons.mp hr with rfl | hr
    · exact (Nat.max_le.mp h).1
    · exact nests_mem (Nat.max_le.mp h).2 r hr
theorem mvs_len : ∀ (rs : List Rw), (mvs rs).length = rs.length
  | [] => rfl
  | r :: rs => congrArg (· + 1) (mvs_len rs)
theorem lines_pos (r : Rw) : 1 ≤ r.lines.length := by
  cases r <;> exact Nat.le_add_left 1 _
theorem rows_le : ∀ (rs : List Rw), rs.length ≤ (lns rs).length
  | [] => Nat.le_refl _
  | r :: rs => by
    have h1 := lines_pos r
    have h2 := rows_le rs
    show rs.length + 1 ≤ (r.lines ++ lns rs).length
    rw [List.length_append]; (first | lia | omega)
theorem mvs_get {rs : List Rw} {j : Nat} {x : MV} : (mvs rs)[j]? = some x → ∃ r, rs[j]? = some r ∧ x = r.mv := by
  induction rs generalizing j with
  | nil => intro h; cases h
  | cons r rs ih =>
    intro h
    cases j with
    | zero => exact ⟨r, rfl, (Option.some.inj h).symm⟩
    | succ j => exact ih h
end Mine
end
section
set_option autoImplicit false
set_option linter.unusedVariables false
set_option tactic.hygienic false
namespace Mine
variable {K : KT} (hK : Closed (fnP tab) K)
include hK

theorem k_whole {n : Nat} {k b : Int} {Q : MV → List MO → Prop} {X : XT} {h : List MO} (h0 : 0 ≤ k) (h1 : k ≤ b) (hq : Q (.bool true) h) : K (n + 1) 22 [.int k, .int b] Q X h := by
  refine hK _ _ _ _ _ _ fn_is_whole rfl rfl ?_
  conv => whnf
  rw [decide_eq_true h0]
  conv => whnf
  rw [decide_eq_true h1]
  exact hq
theorem k_number {n : Nat} {k : Int} {Q : MV → List MO → Prop} {X : XT} {h : List MO} (h0 : 0 ≤ k ∧ k < 1000000) (hq : Q (.bool true) h) : K (n + 2) 23 [.int k] Q X h := by
  refine hK _ _ _ _ _ _ fn_is_number rfl rfl ?_
  conv => whnf
  exact k_whole hK h0.1 (by (first | lia | omega)) hq
omit hK in
theorem all128 {s : List Nat} (h : ∀ c ∈ s, c < 128) : s.all (fun c => decide (c < 128)) = true := List.all_eq_true.mpr fun c hc => decide_eq_true (h c hc)
omit hK in
theorem iter_str {s : List Nat} {hp : List MO} (h : ∀ c ∈ s, c < 128) : iterOf .val [.str s] hp = some (s.map (fun c => .str [c]), none) := by
  simp only [iterOf, itVal, all128 h]
omit hK in
theorem signs_at {s : List Nat} {i : Nat} {x : MV} (e : (s.map (fun c => MV.str [c]))[i]? = some x) : ∃ c ∈ s, x = .str [c] := by
  obtain ⟨c, h1, h2⟩ := List.getElem?_map .. ▸ e |> Option.map_eq_some_iff.mp
  exact ⟨c, List.mem_of_getElem? h1, h2.symm⟩
omit hK in
theorem get_head {s : List Nat} (h : s ≠ []) : s[0]? = some (s.headD 0) := by
  cases s with
  | nil => exact absurd rfl h
  | cons => rfl
noncomputable abbrev figs10 : List Nat := [48, 49, 50, 51, 52, 53, 54, 55, 56, 57]
omit hK in
theorem abc36_two : ∀ c ∈ abc36, abc.contains c = true ∨ figs10.contains c = true := by decide
theorem k_isname {n : Nat} {s : List Nat} {Q : MV → List MO → Prop} {X : XT} {h : List MO} (hs : Gn s) (hq : Q (.bool true) h) : K (n + 1) 24 [.str s] Q X h := by
  have hp : 0 < s.length := List.length_pos_iff.mpr hs.1.1
  have h8 := hs.1.2.1
  refine hK _ _ _ _ _ _ fn_is_name rfl rfl ?_
  conv => whnf
  rw [decide_eq_true (show (1 : Int) ≤ s.length by (first | lia | omega))]
  conv => whnf
  rw [decide_eq_true (show (s.length : Int) ≤ 8 by (first | lia | omega))]
  conv => whnf
  show InP _ _ (kws.map .str) _
  refine in_strs hs.1.ok kws_ok ?_
  rw [show kws.contains s = false by simpa using hs.2]
  conv => whnf
  rw [pidx_nat (by decide) (by (first | lia | omega))]
  dsimp only
  rw [show s[(0 : Int).toNat]? = some (s.headD 0) from get_head hs.1.1]
  conv => whnf
  rw [show abc.contains (s.headD 0) = true by simpa using hs.1.2.2.2]
  conv => whnf
  rw [iter_str fun c hc => abc36_lt c (hs.1.2.2.1 c hc)]
  dsimp only
  refine forL_inv (fun i m => m.heap = h ∧ ∃ w, m.vars = [some (.str s), w]) (fun _ _ => False) ⟨rfl, _, rfl⟩ (fun _ _ _ => trivial) (fun i y m P hy hI hn _ _ => ?_) (fun m hI => ?_) (fun _ _ h => h.elim)
  · obtain ⟨c, hc, rfl⟩ := signs_at hy
    obtain ⟨vars, hp⟩ := m
    obtain ⟨rfl, w, rfl⟩ := hI
    conv => whnf
    have h2 := abc36_two c (hs.1.2.2.1 c hc)
    cases h3 : abc.contains c with
    | true => exact hn _ ⟨rfl, _, rfl⟩
    | false =>
      conv => whnf
      rw [h2.resolve_left (by rw [h3]; decide)]
      exact hn _ ⟨rfl, _, rfl⟩
  · obtain ⟨vars, hp⟩ := m
    obtain ⟨rfl, w, rfl⟩ := hI
    exact hq
omit hK in
theorem dec_head {k : Int} (h : 0 ≤ k) : abc.contains ((dec k).headD 0) = false := by
  obtain ⟨n, rfl⟩ := Int.eq_ofNat_of_zero_le h
  have h0 := dec_pos n
  have := dec_digits n ((dec n).headD 0) (by cases q : dec (n : Int) with | nil => exact absurd q h0 | cons a r => exact List.mem_cons_self ..)
  generalize (dec (n : Int)).headD 0 = c at this
  have : ∀ c, 48 ≤ c → c ≤ 57 → abc.contains c = false := fun c h1 h2 => by
    have : c = 48 ∨ c = 49 ∨ c = 50 ∨ c = 51 ∨ c = 52 ∨ c = 53 ∨ c = 54 ∨ c = 55 ∨ c = 56 ∨ c = 57 := by (first | lia | omega)
    rcases this with rfl | rfl | rfl | rfl | rfl | rfl | rfl | rfl | rfl | rfl <;> rfl
  exact this c (by (first | lia | omega)) (by (first | lia | omega))
omit hK in
theorem dec_okS {k : Int} (h : 0 ≤ k) : ∀ c ∈ dec k, c < 128 := by
  obtain ⟨n, rfl⟩ := Int.eq_ofNat_of_zero_le h
  exact fun c hc => by have := dec_digits n c hc; (first | lia | omega)
omit hK in
theorem dec_ne {k : Int} (h : 0 ≤ k ∧ k < 1000000) : dec k ≠ [] := fun e => by have := (dec_len h).1; rw [e] at this; exact absurd this (by decide)
theorem k_noname {n : Nat} {k : Int} {Q : MV → List MO → Prop} {X : XT} {h : List MO} (h0 : 0 ≤ k ∧ k < 1000000) (hq : Q (.bool false) h) : K (n + 1) 24 [.str (dec k)] Q X h := by
  obtain ⟨h1, h2⟩ := dec_len h0
  have hd := dec_head h0.1
  have hne := dec_ne h0
  have h128 := dec_okS h0.1
  generalize dec k = s at *
  refine hK _ _ _ _ _ _ fn_is_name rfl rfl ?_
  conv => whnf
  rw [decide_eq_true (show (1 : Int) ≤ s.length by (first | lia | omega))]
  conv => whnf
  rw [decide_eq_true (show (s.length : Int) ≤ 8 by (first | lia | omega))]
  conv => whnf
  show InP _ _ (kws.map .str) _
  refine in_strs (fun c hc => Nat.lt_trans (h128 c hc) (by decide)) kws_ok ?_
  cases kws.contains s with
  | true => exact hq
  | false =>
    conv => whnf
    rw [pidx_nat (by decide) (by (first | lia | omega))]
    dsimp only
    rw [show s[(0 : Int).toNat]? = some (s.headD 0) from get_head hne]
    conv => whnf
    rw [hd]
    exact hq
omit hK in
theorem dec_zero {k : Int} (h : 0 ≤ k) (e : (dec k).headD 0 = 48) : dec k = [48] := by
  obtain ⟨n, rfl⟩ := Int.eq_ofNat_of_zero_le h
  have key : ∀ n : Nat, 0 < n → (dec n).headD 0 ≠ 48 := fun n => by
    induction n using Nat.strongRecOn with
    | _ n ih =>
      intro hp
      rcases Nat.lt_or_ge n 10 with h | h
      · rw [dec_one h]; show 48 + n ≠ 48; (first | lia | omega)
      · have hn : (dec ((n / 10 : Nat) : Int)).headD 0 ≠ 48 := ih (n / 10) (by (first | lia | omega)) (by (first | lia | omega))
        rw [dec_step h]
        cases q : dec ((n / 10 : Nat) : Int) with
        | nil => exact absurd q (dec_pos _)
        | cons a r => rw [q] at hn; exact hn
  rcases Nat.eq_zero_or_pos n with rfl | hp
  · rfl
  · exact absurd e (key n hp)
theorem k_leaf {n : Nat} {t : Tm} {Q : MV → List MO → Prop} {X : XT} {h : List MO} (ht : t.ok Gn) (hd : t.deep = 0) (hq : Q t.mv h) : K (n + 3) 30 [.str t.txt] Q X h := by
  refine hK _ _ _ _ _ _ fn_leaf_of rfl rfl ?_
  cases t with
  | op => exact absurd hd (Nat.succ_ne_zero _)
  | nm s =>
    conv => whnf
    exact k_isname hK ht hq
  | num k =>
    change wpSs K (n + 2) _ _ _ (start fn_leaf_of [.str (dec k)] h)
    conv => whnf
    refine k_noname hK ht ?_
    obtain ⟨h1, h2⟩ := dec_len ht
    have hz := dec_zero ht.1
    have hne := dec_ne ht
    have h128 := dec_okS ht.1
    have hdig : ∀ c ∈ dec k, figs10.contains c = true := fun c hc => by
      obtain ⟨j, rfl⟩ := Int.eq_ofNat_of_zero_le ht.1
      have := dec_digits j c hc
      have : c = 48 ∨ c = 49 ∨ c = 50 ∨ c = 51 ∨ c = 52 ∨ c = 53 ∨ c = 54 ∨ c = 55 ∨ c = 56 ∨ c = 57 := by (first | lia | omega)
      rcases this with rfl | rfl | rfl | rfl | rfl | rfl | rfl | rfl | rfl | rfl <;> rfl
    have rest : wpSs K (n + 2) (fn_leaf_of.body.drop 2) (fin Q) (fun c m => X c m.heap) ⟨[some (.str (dec k)), none, none], h⟩ := by
      conv => whnf
      rw [iter_str h128]
      dsimp only
      refine forL_inv (fun i m => m.heap = h ∧ ∃ w, m.vars = [some (.str (dec k)), w, none]) (fun _ _ => False) ⟨rfl, _, rfl⟩ (fun _ _ _ => trivial) (fun i y m P hy hI hn _ _ => ?_) (fun m hI => ?_) (fun _ _ h => h.elim)
      · obtain ⟨c, hc, rfl⟩ := signs_at hy
        obtain ⟨vars, hp⟩ := m
        obtain ⟨rfl, w, rfl⟩ := hI
        conv => whnf
        rw [hdig c hc]
        exact hn _ ⟨rfl, _, rfl⟩
      · obtain ⟨vars, hp⟩ := m
        obtain ⟨rfl, w, rfl⟩ := hI
        conv => whnf
        refine ⟨k, rfl, ht, ?_⟩
        conv => whnf
        exact k_number hK ht hq
    conv => whnf
    rw [decide_eq_true (show (1 : Int) ≤ (dec k).length by (first | lia | omega))]
    conv => whnf
    rw [decide_eq_true (show ((dec k).length : Int) ≤ 6 by (first | lia | omega))]
    conv => whnf
    rw [pidx_nat (by decide) (by (first | lia | omega))]
    dsimp only
    rw [show (dec k)[(0 : Int).toNat]? = some ((dec k).headD 0) from get_head hne]
    conv => whnf
    cases q : ([(dec k).headD 0] == [48]) with
    | false => exact rest
    | true =>
      conv => whnf
      rw [hz (by simpa using q)]
      rw [hz (by simpa using q)] at rest
      exact rest
end Mine
end
section
set_option autoImplicit false
set_option linter.unusedVariables false
set_option tactic.hygienic false
namespace Mine
variable {K : KT} (hK : Closed (fnP tab) K)

theorem Tm.good.sub {c : Nat} {a b : Tm} (h : (Tm.op c a b).good) : a.good ∧ b.good := by
  obtain ⟨⟨_, h1, h2⟩, h3⟩ := h
  have h3 : max a.deep b.deep + 1 ≤ 3 := h3
  exact ⟨⟨h1, by (first | lia | omega)⟩, h2, by (first | lia | omega)⟩
theorem room {N k : Nat} (h : k < N) : ∃ M, N = M + 1 ∧ k ≤ M := ⟨N - 1, by (first | lia | omega), by (first | lia | omega)⟩
include hK
theorem k_text : ∀ (t : Tm) {N : Nat} {Q : MV → List MO → Prop} {X : XT} {h : List MO}, t.good → t.deep < N → Q (.str t.txt) h → K N 27 [t.mv] Q X h
  | .num k, N, Q, X, h, ht, hN, hq => by
    obtain ⟨M, rfl, hM⟩ := room hN
    refine hK _ _ _ _ _ _ fn_formula_text rfl rfl ?_
    conv => whnf
    exact ⟨ht.1, hq⟩
  | .nm s, N, Q, X, h, ht, hN, hq => by
    obtain ⟨M, rfl, hM⟩ := room hN
    refine hK _ _ _ _ _ _ fn_formula_text rfl rfl ?_
    conv => whnf
    exact hq
  | .op c a b, N, Q, X, h, ht, hN, hq => by
    obtain ⟨ga, gb⟩ := ht.sub
    have la := ga.len
    have lb := gb.len
    have hN : max a.deep b.deep + 1 < N := hN
    obtain ⟨M, rfl, hM⟩ := room hN
    refine hK _ _ _ _ _ _ fn_formula_text rfl rfl ?_
    conv => whnf
    refine ⟨le_line (by simp only [List.length_cons, List.length_nil]; (first | lia | omega)), ?_⟩
    conv => whnf
    refine k_text a ga (by (first | lia | omega)) ?_
    conv => whnf
    refine ⟨le_line (by simp only [List.length_append, List.length_cons, List.length_nil]; (first | lia | omega)), ?_⟩
    conv => whnf
    refine ⟨le_line (by simp only [List.length_append, List.length_cons, List.length_nil]; (first | lia | omega)), ?_⟩
    conv => whnf
    refine k_text b gb (by (first | lia | omega)) ?_
    conv => whnf
    exact ⟨le_line (by simp only [List.length_append, List.length_cons, List.length_nil]; (first | lia | omega)), hq⟩
theorem k_ltext : ∀ (t : Tm) {N : Nat} {Q : MV → List MO → Prop} {X : XT} {h : List MO}, t.good → t.deep < N → Q (.str t.txt) h → K N 42 [t.mv] Q X h
  | .num k, N, Q, X, h, ht, hN, hq => by
    obtain ⟨M, rfl, hM⟩ := room hN
    refine hK _ _ _ _ _ _ fn_law_text rfl rfl ?_
    conv => whnf
    exact ⟨ht.1, hq⟩
  | .nm s, N, Q, X, h, ht, hN, hq => by
    obtain ⟨M, rfl, hM⟩ := room hN
    refine hK _ _ _ _ _ _ fn_law_text rfl rfl ?_
    conv => whnf
    exact hq
  | .op c a b, N, Q, X, h, ht, hN, hq => by
    obtain ⟨ga, gb⟩ := ht.sub
    have la := ga.len
    have lb := gb.len
    have hN : max a.deep b.deep + 1 < N := hN
    obtain ⟨M, rfl, hM⟩ := room hN
    refine hK _ _ _ _ _ _ fn_law_text rfl rfl ?_
    conv => whnf
    rw [show ([c] == sNum) = false by simp]
    conv => whnf
    rw [show ([c] == sName) = false by simp]
    conv => whnf
    refine ⟨le_line (by simp only [List.length_cons, List.length_nil]; (first | lia | omega)), ?_⟩
    conv => whnf
    refine k_ltext a ga (by (first | lia | omega)) ?_
    conv => whnf
    refine ⟨le_line (by simp only [List.length_append, List.length_cons, List.length_nil]; (first | lia | omega)), ?_⟩
    conv => whnf
    refine ⟨le_line (by simp only [List.length_append, List.length_cons, List.length_nil]; (first | lia | omega)), ?_⟩
    conv => whnf
    refine k_ltext b gb (by (first | lia | omega)) ?_
    conv => whnf
    exact ⟨le_line (by simp only [List.length_append, List.length_cons, List.length_nil]; (first | lia | omega)), hq⟩

noncomputable abbrev sgs : List (List Nat) := [[43], [45], [42], [47], [60], [61]]
omit hK in
theorem sgs_ok : ∀ s ∈ sgs, okS s := by unfold okS; decide
omit hK in
theorem sgs_head : ∀ s ∈ sgs, s.headD 0 ∈ [43, 45, 42, 47, 60, 61] := by decide
omit hK in
theorem leaf_no {t : Tm} (ht : t.ok Gn) (hd : t.deep = 0) : sgs.contains t.txt = false ∧ okS t.txt := by
  have key : ∀ s : List Nat, s.headD 0 ∉ [43, 45, 42, 47, 60, 61] → sgs.contains s = false := fun s h => by
    cases q : sgs.contains s with
    | false => rfl
    | true => exact absurd (sgs_head s (by simpa using q)) h
  cases t with
  | op => exact absurd hd (Nat.succ_ne_zero _)
  | nm s => exact ⟨key s fun q => absurd ht.1.2.2.2 (by revert q; generalize s.headD 0 = c; revert c; decide), ht.1.ok⟩
  | num k =>
    obtain ⟨j, rfl⟩ := Int.eq_ofNat_of_zero_le ht.1
    have h0 := dec_pos j
    have hd := dec_digits j
    refine ⟨key _ ?_, fun c hc => Nat.lt_trans (dec_okS ht.1 c hc) (by decide)⟩
    show (dec (j : Int)).headD 0 ∉ _
    generalize dec (j : Int) = s at *
    cases s with
    | nil => exact absurd rfl h0
    | cons a r =>
      have := hd a (List.mem_cons_self ..)
      show a ∉ _
      intro q
      simp only [List.mem_cons, List.not_mem_nil, or_false] at q
      (first | lia | omega)
omit hK in
theorem sign_in {c : Nat} (h : isSign c) : sgs.contains [c] = true ∧ okS [c] := by
  rcases h with rfl | rfl | rfl | rfl | rfl | rfl <;> exact ⟨rfl, by unfold okS; decide⟩
omit hK in
theorem at_of {ws : List (List Nat)} {at_ : Nat} {w : List Nat} {r : List (List Nat)} (h : ws.drop at_ = w :: r) : at_ < ws.length ∧ (ws.map MV.str)[at_]? = some (.str w) ∧ ws.drop (at_ + 1) = r := by
  have hlt : at_ < ws.length := by
    rcases Nat.lt_or_ge at_ ws.length with q | q
    · exact q
    · rw [List.drop_eq_nil_of_le q] at h; cases h
  have e := List.drop_eq_getElem_cons hlt
  rw [h] at e
  obtain ⟨e1, e2⟩ := List.cons.inj e
  exact ⟨hlt, by rw [List.getElem?_map, List.getElem?_eq_getElem hlt, ← e1]; rfl, e2.symm⟩
theorem k_from {r : Nat} {ws : List (List Nat)} {h : List MO} (hr : h[r]? = some (.list (ws.map .str))) : ∀ (t : Tm) {N at_ : Nat} {deep : Int} {rest : List (List Nat)} {Q : MV → List MO → Prop} {X : XT}, t.ok Gn → t.deep + 3 < N → deep + t.deep ≤ 12 → ws.drop at_ = t.ws ++ rest →
    Q (.tup [t.mv, .int (at_ + t.ws.length : Nat)]) h → K N 31 [.ref r, .int at_, .int deep] Q X h := by
  have start : ∀ (w : List Nat) {M at_ : Nat} {deep : Int} {rest : List (List Nat)} {Q : MV → List MO → Prop} {X : XT}, deep ≤ 12 → ws.drop at_ = w :: rest → okS w → (match sgs.contains w with
      | true => wpSs K M (fn_formula_from.body.drop 3) (fin Q) (fun c m => X c m.heap) ⟨[some (.ref r), some (.int at_), some (.int deep), some (.str w), none, none, none, none], h⟩
      | false => K M 30 [.str w] (fun v h => Q (.tup [v, .int (at_ + 1)]) h) X h) → K (M + 1) 31 [.ref r, .int at_, .int deep] Q X h := by
    intro w M at_ deep rest Q X hd he hw hq
    obtain ⟨hlt, e1, _⟩ := at_of he
    refine hK _ _ _ _ _ _ fn_formula_from rfl rfl ?_
    conv => whnf
    dsimp only [start]
    rw [hr]
    conv => whnf
    rw [decide_eq_false (show ¬ ((ws.map MV.str).length : Int) ≤ at_ by rw [List.length_map]; (first | lia | omega))]
    conv => whnf
    rw [decide_eq_false (show ¬ (12 : Int) < deep by (first | lia | omega))]
    conv => whnf
    dsimp only [start]
    rw [hr]
    conv => whnf
    rw [pidx_nat (by (first | lia | omega)) (by rw [List.length_map]; (first | lia | omega))]
    dsimp only
    rw [show (at_ : Int).toNat = at_ from rfl, e1]
    conv => whnf
    refine in_strs hw sgs_ok ?_
    cases q : sgs.contains w with
    | true => rw [q] at hq; exact hq
    | false => rw [q] at hq; exact hq
  intro t
  induction t with
  | num k =>
    intro N at_ deep rest Q X ht hN hd he hq
    obtain ⟨M, rfl, hM⟩ := room hN
    have hl := leaf_no (t := .num k) ht rfl
    refine start (dec k) (by (first | lia | omega)) he hl.2 ?_
    rw [show sgs.contains (dec k) = false from hl.1]
    obtain ⟨M, rfl⟩ : ∃ M', M = M' + 3 := ⟨M - 3, by (first | lia | omega)⟩
    exact k_leaf hK (t := .num k) ht rfl hq
  | nm s =>
    intro N at_ deep rest Q X ht hN hd he hq
    obtain ⟨M, rfl, hM⟩ := room hN
    have hl := leaf_no (t := .nm s) ht rfl
    refine start s (by (first | lia | omega)) he hl.2 ?_
    rw [show sgs.contains s = false from hl.1]
    obtain ⟨M, rfl⟩ : ∃ M', M = M' + 3 := ⟨M - 3, by (first | lia | omega)⟩
    exact k_leaf hK (t := .nm s) ht rfl hq
  | op c a b iha ihb =>
    intro N at_ deep rest Q X ht hN hd he hq
    obtain ⟨M, rfl, hM⟩ := room hN
    have hM : max a.deep b.deep + 1 + 3 ≤ M := hM
    have hd : deep + ((max a.deep b.deep + 1 : Nat) : Int) ≤ 12 := hd
    have hs := sign_in ht.1
    obtain ⟨_, _, e2⟩ := at_of he
    have e2 : ws.drop (at_ + 1) = a.ws ++ (b.ws ++ rest) := e2.trans (List.append_assoc ..)
    have e3 : ws.drop (at_ + 1 + a.ws.length) = b.ws ++ rest := by rw [← List.drop_drop, e2, List.drop_left]
    refine start [c] (by (first | lia | omega)) he hs.2 ?_
    rw [hs.1]
    conv => whnf
    refine iha (at_ := at_ + 1) ht.2.1 (by (first | lia | omega)) (by (first | lia | omega)) e2 ?_
    conv => whnf
    refine ⟨rfl, ?_⟩
    conv => whnf
    refine ihb (at_ := at_ + 1 + a.ws.length) ht.2.2 (by (first | lia | omega)) (by (first | lia | omega)) e3 ?_
    conv => whnf
    refine ⟨rfl, ?_⟩
    have e4 : at_ + 1 + a.ws.length + b.ws.length = at_ + (Tm.op c a b).ws.length := by
      show _ = at_ + ((a.ws ++ b.ws).length + 1)
      rw [List.length_append]; (first | lia | omega)
    rw [← e4] at hq
    exact hq
theorem k_wholef {N : Nat} {r : Nat} {t : Tm} {h : List MO} (hr : h[r]? = some (.list (t.ws.map .str))) (ht : t.good) (hN : 8 ≤ N) {Q : MV → List MO → Prop} {X : XT} (hq : Q t.mv h) : K N 32 [.ref r] Q X h := by
  obtain ⟨M, rfl, hM⟩ := room (k := 7) hN
  have hd := ht.2
  refine hK _ _ _ _ _ _ fn_whole_formula rfl rfl ?_
  conv => whnf
  refine k_from hK (at_ := 0) (rest := []) hr t ht.1 (by (first | lia | omega)) (by (first | lia | omega)) (by rw [List.append_nil]; rfl) ?_
  conv => whnf
  refine ⟨rfl, ?_⟩
  conv => whnf
  dsimp only [start, MS.set, setAll]
  rw [hr]
  conv => whnf
  rw [show (((0 + t.ws.length : Nat) : Int) == ((t.ws.map MV.str).length : Nat)) = true by simp]
  exact hq
theorem k_need {N : Nat} {r at_ : Nat} {ls : List (List Nat)} {l : List Nat} {rest : List (List Nat)} {h : List MO} (hr : h[r]? = some (.list (ls.map .str))) (he : ls.drop at_ = l :: rest) {Q : MV → List MO → Prop} {X : XT} (hq : Q .none h) : K (N + 1) 33 [.ref r, .int at_, .str l] Q X h := by
  obtain ⟨hlt, e1, _⟩ := at_of he
  refine hK _ _ _ _ _ _ fn_need_line rfl rfl ?_
  conv => whnf
  dsimp only [start]
  rw [hr]
  conv => whnf
  rw [decide_eq_false (show ¬ ((ls.map MV.str).length : Int) ≤ at_ by rw [List.length_map]; (first | lia | omega))]
  conv => whnf
  dsimp only [start]
  rw [hr]
  conv => whnf
  rw [pidx_nat (by (first | lia | omega)) (by rw [List.length_map]; (first | lia | omega))]
  dsimp only
  rw [show (at_ : Int).toNat = at_ from rfl, e1]
  conv => whnf
  rw [show (l == l) = true by simp]
  exact hq
end Mine
end
section
set_option autoImplicit false
set_option linter.unusedVariables false
set_option tactic.hygienic false
namespace Mine

noncomputable def holds (l : Bool) (n : Nat) (hp : List MO) (u : MV) (xs : List MV) : Prop := match l with
  | false => u = .tup xs
  | true => ∃ i, n ≤ i ∧ u = .ref i ∧ hp[i]? = some (.list xs)
mutual
noncomputable def Rw.is (l : Bool) (n : Nat) (hp : List MO) : Rw → MV → Prop
  | .set s t, x => x = .tup [.str wSet, .str s, t.mv]
  | .tell t, x => x = .tup [.str wTell, t.mv]
  | .skip, x => x = .tup [.str wSkip]
  | .ite t a b, x => ∃ u v, x = .tup [.str wIf, t.mv, u, v] ∧ (∃ xs, holds l n hp u xs ∧ rowsAre l n hp a xs) ∧ ∃ xs, holds l n hp v xs ∧ rowsAre l n hp b xs
  | .wh t a, x => ∃ u, x = .tup [.str wWhile, t.mv, u] ∧ ∃ xs, holds l n hp u xs ∧ rowsAre l n hp a xs
noncomputable def rowsAre (l : Bool) (n : Nat) (hp : List MO) : List Rw → List MV → Prop
  | [], xs => xs = []
  | r :: rs, xs => ∃ y ys, xs = y :: ys ∧ r.is l n hp y ∧ rowsAre l n hp rs ys
end
noncomputable def blkIs (l : Bool) (n : Nat) (hp : List MO) (rs : List Rw) (u : MV) : Prop := ∃ xs, holds l n hp u xs ∧ rowsAre l n hp rs xs
noncomputable def Stay (n n' : Nat) (hp hp' : List MO) : Prop := n' ≤ n ∧ ∀ i o, n ≤ i → hp[i]? = some o → hp'[i]? = some o
theorem Stay.pre {n : Nat} {hp hp' : List MO} (e : hp <+: hp') : Stay n n hp hp' := ⟨Nat.le_refl _, fun _ _ _ h => pre_at e h⟩

section
variable {l : Bool} {n n' : Nat} {hp hp' : List MO}
theorem holds.up {u : MV} {xs : List MV} (h : holds l n hp u xs) (e : Stay n n' hp hp') : holds l n' hp' u xs := by
  cases l with
  | false => exact h
  | true => obtain ⟨i, h0, h1, h2⟩ := h; exact ⟨i, Nat.le_trans e.1 h0, h1, e.2 i _ h0 h2⟩
mutual
theorem Rw.is_up (e : Stay n n' hp hp') : ∀ (r : Rw) (x : MV), r.is l n hp x → r.is l n' hp' x
  | .set s t, x, h => h
  | .tell t, x, h => h
  | .skip, x, h => h
  | .ite t a b, x, h => by
    obtain ⟨u, v, h1, ⟨xs, h2, h3⟩, ys, h4, h5⟩ := h
    exact ⟨u, v, h1, ⟨xs, h2.up e, rowsAre_up e a xs h3⟩, ys, h4.up e, rowsAre_up e b ys h5⟩
  | .wh t a, x, h => by
    obtain ⟨u, h1, xs, h2, h3⟩ := h
    exact ⟨u, h1, xs, h2.up e, rowsAre_up e a xs h3⟩
theorem rowsAre_up (e : Stay n n' hp hp') : ∀ (rs : List Rw) (xs : List MV), rowsAre l n hp rs xs → rowsAre l n' hp' rs xs
  | [], xs, h => h
  | r :: rs, xs, h => by
    obtain ⟨y, ys, h1, h2, h3⟩ := h
    exact ⟨y, ys, h1, r.is_up e y h2, rowsAre_up e rs ys h3⟩
end
theorem blkIs.stay {rs : List Rw} {u : MV} (h : blkIs l n hp rs u) (e : Stay n n' hp hp') : blkIs l n' hp' rs u := let ⟨xs, h1, h2⟩ := h; ⟨xs, h1.up e, rowsAre_up e rs xs h2⟩
theorem blkIs.up {rs : List Rw} {u : MV} (h : blkIs l n hp rs u) (e : hp <+: hp') : blkIs l n hp' rs u := h.stay (.pre e)
theorem are_len : ∀ {rs : List Rw} {xs : List MV}, rowsAre l n hp rs xs → xs.length = rs.length
  | [], xs, h => by have h : xs = [] := h; rw [h]; rfl
  | r :: rs, xs, h => by
    obtain ⟨y, ys, h1, _, h3⟩ := h
    rw [h1]; exact congrArg (· + 1) (are_len h3)
theorem are_get : ∀ {rs : List Rw} {xs : List MV}, rowsAre l n hp rs xs → ∀ {j : Nat} {x : MV}, xs[j]? = some x → ∃ r, rs[j]? = some r ∧ r.is l n hp x
  | [], xs, h, j, x, e => by have h : xs = [] := h; rw [h] at e; cases e
  | r :: rs, xs, h, j, x, e => by
    obtain ⟨y, ys, rfl, h2, h3⟩ := h
    cases j with
    | zero => cases e; exact ⟨r, rfl, h2⟩
    | succ j => exact are_get h3 e
theorem are_snoc : ∀ {rs : List Rw} {xs : List MV}, rowsAre l n hp rs xs → ∀ {r : Rw} {x : MV}, r.is l n hp x → rowsAre l n hp (rs ++ [r]) (xs ++ [x])
  | [], xs, h, r, x, e => by have h : xs = [] := h; rw [h]; exact ⟨x, [], rfl, e, rfl⟩
  | q :: rs, xs, h, r, x, e => by
    obtain ⟨y, ys, rfl, h2, h3⟩ := h
    exact ⟨y, _, rfl, h2, are_snoc h3 e⟩
mutual
theorem mv_is : ∀ (r : Rw), r.is false n hp r.mv
  | .set s t => rfl
  | .tell t => rfl
  | .skip => rfl
  | .ite t a b => ⟨_, _, rfl, ⟨_, rfl, mvs_are a⟩, _, rfl, mvs_are b⟩
  | .wh t a => ⟨_, rfl, _, rfl, mvs_are a⟩
theorem mvs_are : ∀ (rs : List Rw), rowsAre false n hp rs (mvs rs)
  | [] => rfl
  | r :: rs => ⟨_, _, rfl, mv_is r, mvs_are rs⟩
end
theorem blk_tup (rs : List Rw) : blkIs false n hp rs (.tup (mvs rs)) := ⟨_, rfl, mvs_are rs⟩
theorem iter_blk {u : MV} {xs : List MV} (h : holds l n hp u xs) : ∃ g, ∀ hp', hp <+: hp' → iterOf .val [u] hp' = some (xs, g) ∧ guardOk g hp' := by
  cases l with
  | false => have h : u = .tup xs := h; subst h; exact ⟨none, fun _ _ => ⟨rfl, trivial⟩⟩
  | true => obtain ⟨i, _, rfl, h2⟩ := h; exact ⟨_, fun hp' e => ⟨iter_list (pre_at e h2), pre_at e h2⟩⟩
end

variable {K : KT}
noncomputable def RL (K : KT) (r : Rw) : Prop := ∀ {l : Bool} {x : MV} {N : Nat} {Q : MV → List MO → Prop} {X : XT} {h : List MO}, r.good → r.is l 0 h x → r.lines.length ≤ 100000 → 2 * r.nest + 6 < N →
  (∀ h', h <+: h' → h'[h.length]? = some (.list (r.lines.map .str)) → Q (.ref h.length) h') → K N 28 [x] Q X h

variable (hK : Closed (fnP tab) K)
include hK
omit hK in
theorem ok_extend {hp : List MO} {r : Nat} {xs : List MV} (e : hp[r]? = some (.list xs)) : mthOk .extend (.ref r) hp = true := by
  simp only [mthOk, lst, e, Option.isSome_some]
omit hK in
theorem take_next {α : Type} {rs : List α} {j : Nat} {r : α} (e : rs[j]? = some r) : rs.take (j + 1) = rs.take j ++ [r] := by
  rw [List.take_add_one, e]; rfl
omit hK in
theorem lns_take_le (rs : List Rw) (j : Nat) : (lns (rs.take j)).length ≤ (lns rs).length := by
  have e := lns_app (rs.take j) (rs.drop j)
  rw [List.take_append_drop] at e
  rw [e, List.length_append]; exact Nat.le_add_right ..
omit hK in
theorem lns_one (r : Rw) : lns [r] = r.lines := List.append_nil _
theorem k_written {rs : List Rw} (ih : ∀ r ∈ rs, RL K r) {l : Bool} {u : MV} {N : Nat} {Q : MV → List MO → Prop} {X : XT} {h : List MO} (hg : goods rs) (hu : blkIs l 0 h rs u) (hz : (lns rs).length ≤ 100000) (hN : 2 * nests rs + 7 < N)
    (hq : ∀ h', h <+: h' → h'[h.length]? = some (.list ((lns rs).map .str)) → Q (.ref h.length) h') : K N 29 [u] Q X h := by
  obtain ⟨xs, h1, h2⟩ := hu
  obtain ⟨M, rfl, hM⟩ := room hN
  refine hK _ _ _ _ _ _ fn_written rfl rfl ?_
  conv => whnf
  dsimp only [start, MS.push, MS.set]
  have hpre : h <+: h ++ [.list []] := pre_push (pre_self _)
  obtain ⟨g, e1⟩ := iter_blk h1
  rw [(e1 _ hpre).1]
  dsimp only
  refine forL_inv (fun j m => ∃ w hp, m = ⟨[some u, some (.ref h.length), w], hp⟩ ∧ h <+: hp ∧ hp[h.length]? = some (.list ((lns (rs.take j)).map .str))) (fun _ _ => False) ⟨_, _, rfl, hpre, get_last _ _⟩ (fun _ m hI => by obtain ⟨_, _, rfl, h, _⟩ := hI; exact (e1 _ h).2) (fun j x m P hx hI hn _ _ => ?_) (fun m hI => ?_) (fun _ _ h => h.elim)
  · obtain ⟨w, hp, rfl, hp1, hp2⟩ := hI
    obtain ⟨r, hr, hr2⟩ := are_get h2 hx
    have hmem := List.mem_of_getElem? hr
    have hle : (lns (rs.take (j + 1))).length ≤ 100000 := Nat.le_trans (lns_take_le rs _) hz
    rw [take_next hr, lns_app, lns_one, List.length_append] at hle
    conv => whnf
    dsimp only [MS.set]
    rw [ok_extend hp2]
    conv => whnf
    refine ih r hmem (goods_mem hg r hmem) (r.is_up (.pre hp1) x hr2) (by (first | lia | omega)) (by have := nests_mem (Nat.le_refl (nests rs)) r hmem; (first | lia | omega)) fun h' hpre' hat => ?_
    conv => whnf
    have hi' := pre_at hpre' hp2
    rw [lst_at hi']
    conv => whnf
    dsimp only
    rw [lst_at hat]
    conv => whnf
    refine ⟨le_line (by rw [List.length_map, List.length_map]; (first | lia | omega)), ?_⟩
    refine hn _ ⟨_, _, rfl, pre_set (hp1.trans hpre') (Nat.le_refl _), ?_⟩
    rw [take_next hr, lns_app, lns_one, List.map_append]; exact get_set hi'
  · obtain ⟨w, hp, rfl, hp1, hp2⟩ := hI
    rw [are_len h2, List.take_length] at hp2
    exact hq hp hp1 hp2
end Mine
end
section
set_option autoImplicit false
set_option linter.unusedVariables false
set_option tactic.hygienic false
namespace Mine
variable {K : KT} (hK : Closed (fnP tab) K)
include hK
theorem rl_skip : RL K .skip := by
  intro l x N Q X h _ hx _ hN hq
  obtain rfl : x = .tup [.str wSkip] := hx
  obtain ⟨M, rfl, hM⟩ := room hN
  refine hK _ _ _ _ _ _ fn_row_lines rfl rfl ?_
  conv => whnf
  exact hq _ (pre_push (pre_self _)) (get_last _ _)
theorem rl_set {s : List Nat} {t : Tm} : RL K (.set s t) := by
  intro l x N Q X h hg hx _ hN hq
  obtain rfl : x = .tup [.str wSet, .str s, t.mv] := hx
  obtain ⟨M, rfl, hM⟩ := room hN
  have h8 := hg.1.1.2.1
  have hl := hg.2.len
  have hd := hg.2.2
  refine hK _ _ _ _ _ _ fn_row_lines rfl rfl ?_
  conv => whnf
  refine ⟨le_line (by simp only [List.length_cons, List.length_nil]; (first | lia | omega)), ?_⟩
  conv => whnf
  refine ⟨le_line (by simp only [List.length_append, List.length_cons, List.length_nil]; (first | lia | omega)), ?_⟩
  conv => whnf
  refine k_text hK t hg.2 (by (first | lia | omega)) ?_
  conv => whnf
  refine ⟨le_line (by simp only [List.length_append, List.length_cons, List.length_nil]; (first | lia | omega)), ?_⟩
  exact hq _ (pre_push (pre_self _)) (get_last _ _)
noncomputable def seg (k : Nat) (b : List Rw) : List (List Nat) := match k with
  | 0 => lns b
  | _ => wElse :: lns b
noncomputable abbrev rlLoop : List MSt := [.ite (.cmp .gt (.var 3) (.cst (.int 0))) [.expr (.mth .append (.var 1) [.cst (.str wElse)])] [], .expr (.mth .extend (.var 1) [.call 29 [.idx (.var 2) (.var 3)]])]
omit hK in
theorem set_other {h : List MO} {i j : Nat} {o o' : MO} (hne : i ≠ j) (e : h[j]? = some o) : (h.set i o')[j]? = some o := by
  rw [List.getElem?_set_ne hne]; exact e
theorem rl_turn {b : List Rw} (ih : ∀ r ∈ b, RL K r) {l : Bool} {u x : MV} {us : List MV} {L : List (List Nat)} {M k i j : Nat} {P : Fl → MS → Prop} {X : XM} {h hp : List MO} (hg : goods b) (hpre : h <+: hp) (hu : blkIs l 0 h b u) (hz : (L ++ seg k b).length ≤ 100000) (hM : 2 * nests b + 7 < M)
    (hi : hp[i]? = some (.list (L.map .str))) (hj : hp[j]? = some (.list us)) (hk : us[k]? = some u) (h1 : h.length ≤ i) (hij : i ≠ j) {w : Option MV}
    (hq : ∀ hp', h <+: hp' → hp'[i]? = some (.list ((L ++ seg k b).map .str)) → hp'[j]? = some (.list us) → P .next ⟨[some x, some (.ref i), some (.ref j), some (.int k)], hp'⟩) :
    asg [3] false (.int k) (fun m => wpSs K M rlLoop P X m) ⟨[some x, some (.ref i), some (.ref j), w], hp⟩ := by
  have hlt : k < us.length := (List.getElem?_eq_some_iff.mp hk).1
  have go : ∀ hp (L' : List (List Nat)), h <+: hp → hp[i]? = some (.list (L'.map .str)) → hp[j]? = some (.list us) → L' ++ lns b = L ++ seg k b → wpSs K M (rlLoop.drop 1) P X ⟨[some x, some (.ref i), some (.ref j), some (.int k)], hp⟩ := fun hp L' hpre hi hj e => by
    rw [← e, List.length_append] at hz
    conv => whnf
    rw [ok_extend hi]
    conv => whnf
    dsimp only
    rw [hj]
    conv => whnf
    rw [pidx_nat (by (first | lia | omega)) (by (first | lia | omega))]
    dsimp only
    rw [show (k : Int).toNat = k from rfl, hk]
    conv => whnf
    refine k_written hK ih hg (hu.up hpre) (by (first | lia | omega)) hM fun h' hpre' hat => ?_
    conv => whnf
    have hi' := pre_at hpre' hi
    rw [lst_at hi']
    conv => whnf
    dsimp only
    rw [lst_at hat]
    conv => whnf
    refine ⟨le_line (by rw [List.length_map, List.length_map]; (first | lia | omega)), ?_⟩
    refine hq _ (pre_set (hpre.trans hpre') h1) ?_ (set_other hij (pre_at hpre' hj))
    rw [← e, List.map_append]; exact get_set hi'
  conv => whnf
  cases k with
  | zero => exact go hp L hpre hi hj rfl
  | succ k =>
    rw [decide_eq_true (show (0 : Int) < (k + 1 : Nat) by (first | lia | omega))]
    conv => whnf
    dsimp only [MS.set]
    rw [ok_append hi]
    conv => whnf
    dsimp only [MS.set]
    rw [lst_at hi]
    conv => whnf
    have hz' : L.length + 1 ≤ 100000 := by rw [List.length_append] at hz; show L.length + 1 ≤ _; have : (seg (k + 1) b).length = (lns b).length + 1 := rfl; (first | lia | omega)
    refine ⟨Nat.lt_of_lt_of_le (by rw [List.length_map]; exact Nat.lt_succ_self _) (le_line (Nat.le_trans hz' (by decide))), ?_⟩
    refine go _ (L ++ [wElse]) (pre_set hpre h1) ?_ (set_other hij hj) ?_
    · rw [List.map_append]; exact get_set hi
    · show L ++ [wElse] ++ lns b = L ++ wElse :: lns b
      rw [List.append_assoc]; rfl
noncomputable abbrev rlEnd : List MSt := [.ite (.cmp .ne (.var 2) (.list [])) [.expr (.mth .append (.var 1) [.cst (.str wEnd)])] [], .ret (.var 1)]
omit hK in
theorem rl_end {x : MV} {us : List MV} {L : List (List Nat)} {M i j : Nat} {Q : MV → List MO → Prop} {X : XM} {h hp : List MO} (hpre : h <+: hp) (hz : L.length + 1 ≤ 100000) (hi : hp[i]? = some (.list (L.map .str))) (hj : hp[j]? = some (.list us)) (h1 : h.length ≤ i) {w : Option MV}
    (hq : ∀ hp', h <+: hp' → hp'[i]? = some (.list ((L ++ (if us.isEmpty then [] else [wEnd])).map .str)) → Q (.ref i) hp') :
    wpSs K M rlEnd (fin Q) X ⟨[some x, some (.ref i), some (.ref j), w], hp⟩ := by
  conv => whnf
  refine .nil _ _ us rfl rfl (get_old hj) (get_last _ _) ?_
  cases us with
  | nil => exact hq _ (pre_push hpre) (by rw [List.isEmpty_nil, if_pos rfl, List.append_nil]; exact get_old hi)
  | cons u us =>
    conv => whnf
    dsimp only [MS.push]
    have hi' : (hp ++ [MO.list []])[i]? = some (.list (L.map .str)) := get_old hi
    rw [ok_append hi']
    conv => whnf
    dsimp only [MS.push]
    rw [lst_at hi']
    conv => whnf
    refine ⟨Nat.lt_of_lt_of_le (by rw [List.length_map]; exact Nat.lt_succ_self _) (le_line (Nat.le_trans hz (by decide))), ?_⟩
    refine hq _ (pre_set (pre_push hpre) h1) ?_
    rw [List.map_append]; exact get_set hi'
theorem rl_head {wd : List Nat} {t : Tm} {more : List MV} {us : List MV} {M : Nat} {Q : MV → List MO → Prop} {X : XT} {h : List MO} (hwd : wd = wTell ∨ wd = wIf ∨ wd = wWhile) (ht : t.good) (hM : 5 ≤ M)
    (hus : ∀ {N : Nat} {Q : MV → List MO → Prop} {X : XT} {h : List MO}, Q (.ref h.length) (h ++ [.list us]) → K (N + 1) 25 [.tup (.str wd :: t.mv :: more)] Q X h)
    (hq : ∀ hp, h <+: hp → hp[h.length]? = some (.list ([wd ++ [32] ++ t.txt].map .str)) → hp[h.length + 1]? = some (.list us) → forL none (fun v P m => asg [3] false v (fun m => wpSs K M rlLoop P (fun c m => X c m.heap) m) m) (fun f m => match f with
        | .next => wpSs K M rlEnd (fin Q) (fun c m => X c m.heap) m
        | f => fin Q f m) ((List.range us.length).map (fun (i : Nat) => .int i)) ⟨[some (.tup (.str wd :: t.mv :: more)), some (.ref h.length), some (.ref (h.length + 1)), none], hp⟩) (hz : us.length ≤ 2) :
    K (M + 1) 28 [.tup (.str wd :: t.mv :: more)] Q X h := by
  have hl := ht.len
  have hd := ht.2
  have hw : wd.length ≤ 5 := by rcases hwd with rfl | rfl | rfl <;> decide
  obtain ⟨M, rfl⟩ : ∃ M', M = M' + 1 := ⟨M - 1, by (first | lia | omega)⟩
  have h1 : (wd == wSkip) = false := by rcases hwd with rfl | rfl | rfl <;> rfl
  have h2 : (wd == wSet) = false := by rcases hwd with rfl | rfl | rfl <;> rfl
  have p0 : pidx 0 (MV.str wd :: t.mv :: more).length = some 0 := pidx_nat (by decide) (by rw [List.length_cons]; (first | lia | omega))
  have p1 : pidx 1 (MV.str wd :: t.mv :: more).length = some 1 := pidx_nat (by decide) (by rw [List.length_cons, List.length_cons]; (first | lia | omega))
  refine hK _ _ _ _ _ _ fn_row_lines rfl rfl ?_
  conv => whnf
  rw [p0]
  conv => whnf
  rw [h1]
  conv => whnf
  rw [p0]
  conv => whnf
  rw [h2]
  conv => whnf
  rw [p0]
  conv => whnf
  refine ⟨le_line (by simp only [List.length_cons, List.length_nil]; (first | lia | omega)), ?_⟩
  conv => whnf
  refine hK _ _ _ _ _ _ fn_formula_of rfl rfl ?_
  conv => whnf
  rw [p0]
  conv => whnf
  rw [h1]
  conv => whnf
  rw [p0]
  conv => whnf
  rw [h2]
  conv => whnf
  rw [p1]
  conv => whnf
  refine k_text hK t ht (by (first | lia | omega)) ?_
  conv => whnf
  refine ⟨le_line (by simp only [List.length_append, List.length_cons, List.length_nil]; (first | lia | omega)), ?_⟩
  conv => whnf
  refine hus ?_
  have e : (h ++ [MO.list [MV.str (wd ++ [32] ++ t.txt)]]).length = h.length + 1 := by simp
  have hj : (h ++ [MO.list [MV.str (wd ++ [32] ++ t.txt)]] ++ [MO.list us])[h.length + 1]? = some (.list us) := by rw [← e]; exact get_last _ _
  change wpSs K (M + 1) (fn_row_lines.body.drop 4) (fin Q) _ ⟨[some (.tup (.str wd :: t.mv :: more)), some (.ref h.length), some (.ref (h ++ [MO.list [MV.str (wd ++ [32] ++ t.txt)]]).length), none], h ++ [.list [.str (wd ++ [32] ++ t.txt)]] ++ [.list us]⟩
  rw [e]
  conv => whnf
  dsimp only
  rw [hj]
  conv => whnf
  rw [iter_range1 (by (first | lia | omega)) (by (first | lia | omega))]
  exact hq _ (pre_push (pre_push (pre_self _))) (get_old (get_last _ _)) hj
theorem rl_tell {t : Tm} : RL K (.tell t) := by
  intro l x N Q X h hg hx _ hN hq
  obtain rfl : x = .tup [.str wTell, t.mv] := hx
  obtain ⟨M, rfl, hM⟩ := room hN
  refine rl_head hK (.inl rfl) hg (by (first | lia | omega)) (us := []) (fun {N Q X h} hq => ?_) (fun hp hpre hi hj => ?_) (by decide)
  · refine hK _ _ _ _ _ _ fn_blocks_in rfl rfl ?_
    exact hq
  · show forL _ _ _ [] _
    rw [forL_nil]
    exact ⟨trivial, rl_end hpre (by show 1 + 1 ≤ 100000; decide) hi hj (Nat.le_refl _) hq⟩
theorem rl_wh {t : Tm} {a : List Rw} (ia : ∀ r ∈ a, RL K r) : RL K (.wh t a) := by
  intro l x N Q X h hg hx hz hN hq
  obtain ⟨u, rfl, hu⟩ := hx
  obtain ⟨M, rfl, hM⟩ := room hN
  have hz : ((wWhile ++ [32] ++ t.txt) :: (lns a ++ [wEnd])).length ≤ 100000 := hz
  rw [List.length_cons, List.length_append, List.length_singleton] at hz
  have hM : 2 * (nests a + 1) + 6 ≤ M := hM
  refine rl_head hK (.inr (.inr rfl)) hg.1 (by (first | lia | omega)) (us := [u]) (fun {N Q X h} hq => ?_) (fun hp hpre hi hj => ?_) (Nat.le_succ 1)
  · refine hK _ _ _ _ _ _ fn_blocks_in rfl rfl ?_
    exact hq
  · show forL _ _ _ [.int (0 : Nat)] _
    rw [forL_cons]
    refine ⟨trivial, ?_⟩
    refine rl_turn hK ia hg.2 hpre hu (by show (_ :: lns a).length ≤ _; rw [List.length_cons]; (first | lia | omega)) (by (first | lia | omega)) hi hj rfl (Nat.le_refl _) (by (first | lia | omega)) fun hp' hpre' hi' hj' => ?_
    rw [forL_nil]
    exact ⟨trivial, rl_end hpre' (by show (_ :: lns a).length + 1 ≤ _; rw [List.length_cons]; (first | lia | omega)) hi' hj' (Nat.le_refl _) fun hp'' hpre'' e => hq _ hpre'' e⟩
theorem rl_ite {t : Tm} {a b : List Rw} (ia : ∀ r ∈ a, RL K r) (ib : ∀ r ∈ b, RL K r) : RL K (.ite t a b) := by
  intro l x N Q X h hg hx hz hN hq
  obtain ⟨u, v, rfl, hu, hv⟩ := hx
  obtain ⟨M, rfl, hM⟩ := room hN
  have hz : ((wIf ++ [32] ++ t.txt) :: (lns a ++ wElse :: (lns b ++ [wEnd]))).length ≤ 100000 := hz
  rw [List.length_cons, List.length_append, List.length_cons, List.length_append, List.length_singleton] at hz
  have hM : 2 * (max (nests a) (nests b) + 1) + 6 ≤ M := hM
  refine rl_head hK (.inr (.inl rfl)) hg.1 (by (first | lia | omega)) (us := [u, v]) (fun {N Q X h} hq => ?_) (fun hp hpre hi hj => ?_) (Nat.le_refl 2)
  · refine hK _ _ _ _ _ _ fn_blocks_in rfl rfl ?_
    exact hq
  · show forL _ _ _ [.int (0 : Nat), .int (1 : Nat)] _
    rw [forL_cons]
    refine ⟨trivial, ?_⟩
    refine rl_turn hK ia hg.2.1 hpre hu (by show (_ :: lns a).length ≤ _; rw [List.length_cons]; (first | lia | omega)) (by (first | lia | omega)) hi hj rfl (Nat.le_refl _) (by (first | lia | omega)) fun hp' hpre' hi' hj' => ?_
    rw [forL_cons]
    refine ⟨trivial, ?_⟩
    refine rl_turn hK ib hg.2.2 hpre' hv (by show (_ :: lns a ++ wElse :: lns b).length ≤ _; rw [List.length_append, List.length_cons, List.length_cons]; (first | lia | omega)) (by (first | lia | omega)) hi' hj' rfl (Nat.le_refl _) (by (first | lia | omega)) fun hp' hpre' hi' hj' => ?_
    rw [forL_nil]
    refine ⟨trivial, rl_end hpre' (by show (_ :: lns a ++ wElse :: lns b).length + 1 ≤ _; rw [List.length_append, List.length_cons, List.length_cons]; (first | lia | omega)) hi' hj' (Nat.le_refl _) fun hp'' hpre'' e => hq _ hpre'' ?_⟩
    rw [e]
    congr 3
    show (_ :: lns a) ++ (wElse :: lns b) ++ [wEnd] = _ :: (lns a ++ wElse :: (lns b ++ [wEnd]))
    simp
mutual
theorem rl_all : ∀ r : Rw, RL K r
  | .set s t => rl_set hK
  | .tell t => rl_tell hK
  | .skip => rl_skip hK
  | .ite t a b => rl_ite hK (rls_all a) (rls_all b)
  | .wh t a => rl_wh hK (rls_all a)
theorem rls_all : ∀ rs : List Rw, ∀ r ∈ rs, RL K r
  | [], r, h => by cases h
  | q :: rs, r, h => (List.mem_cons.mp h).elim (fun e => e ▸ rl_all q) fun h => rls_all rs r h
end
end Mine
end
section
set_option autoImplicit false
set_option linter.unusedVariables false
set_option tactic.hygienic false
namespace Mine

theorem deqs_strs' : ∀ (x y : List (List Nat)), D.deqs (x.map .str) (y.map .str) = (x == y)
  | [], [] => rfl
  | [], _ :: _ => rfl
  | _ :: _, [] => rfl
  | a :: x, b :: y => by
    show ((a == b) && D.deqs (x.map .str) (y.map .str)) = (a == b && x == y)
    rw [deqs_strs' x y]
theorem eq_strs {hp : List MO} {i j : Nat} {x y : List (List Nat)} {Q : Bool → Prop} (hi : hp[i]? = some (.list (x.map .str))) (hj : hp[j]? = some (.list (y.map .str))) (hx : ∀ s ∈ x, okS s) (hy : ∀ s ∈ y, okS s) (hq : Q (x == y)) : EqP hp (.ref i) (.ref j) Q := by
  refine .mk (.list (x.map .str)) (.list (y.map .str)) (.list hi (rds_strs x)) (.list hj (rds_strs y)) ?_ (oks_strs hx) (oks_strs hy) ?_
  · show D.deeps _ + 1 ≤ 1000
    rw [deeps_strs]; decide
  · show Q (D.deqs _ _)
    rw [deqs_strs']; exact hq
theorem Tm.ws_ok : ∀ {t : Tm}, t.ok Gn → ∀ w ∈ t.ws, okS w
  | .num k, h, w, hw => by rw [List.mem_singleton.mp hw]; exact (leaf_no (t := .num k) h rfl).2
  | .nm s, h, w, hw => by rw [List.mem_singleton.mp hw]; exact h.1.ok
  | .op c a b, h, w, hw => by
    rcases List.mem_cons.mp hw with rfl | hw
    · exact (sign_in h.1).2
    · rcases List.mem_append.mp hw with hw | hw
      · exact a.ws_ok h.2.1 w hw
      · exact b.ws_ok h.2.2 w hw
theorem kws_free : ∀ w ∈ kws, 32 ∉ w := by unfold kws; decide
structure Wds (W : List (List Nat)) : Prop where
  ne : W ≠ []
  free : ∀ w ∈ W, 32 ∉ w
  ok : ∀ w ∈ W, okS w
theorem Wds.kw {wd : List Nat} {t : Tm} (h : wd ∈ kws) (ht : t.ok Gn) : Wds (wd :: t.ws) where
  ne := List.cons_ne_nil _ _
  free := fun w hw => by
    rcases List.mem_cons.mp hw with rfl | hw
    · exact kws_free w h
    · exact t.ws_free ht w hw
  ok := fun w hw => by
    rcases List.mem_cons.mp hw with rfl | hw
    · exact kws_ok w h
    · exact t.ws_ok ht w hw
theorem line_words (wd : List Nat) (t : Tm) : wd ++ [32] ++ t.txt = glue 32 (wd :: t.ws) := by
  rw [show wd :: t.ws = [wd] ++ t.ws from rfl, glue_app 32 (List.cons_ne_nil _ _) t.ws_ne, t.txt_ws, List.append_assoc]; rfl

variable {K : KT} (hK : Closed (fnP tab) K)
include hK
theorem rf_head {rr at_ M : Nat} {deep : Int} {ls rest : List (List Nat)} {l0 : List Nat} {W : List (List Nat)} {Q : MV → List MO → Prop} {X : XT} {h : List MO} (hr : h[rr]? = some (.list (ls.map .str))) (he : ls.drop at_ = l0 :: rest) (hd : deep ≤ 8) (hW : Wds W) (hl : l0 = glue 32 W) (hz : l0.length < 1000)
    (hq : ∀ hp wr, h <+: hp → hp[wr]? = some (.list (W.map .str)) → match W == [wSkip] with
      | true => Q (.tup [.tup [.str wSkip], .int (at_ + 1)]) hp
      | false => wpSs K M (fn_row_from.body.drop 3) (fin Q) (fun c m => X c m.heap) ⟨[some (.ref rr), some (.int at_), some (.int deep), some (.ref wr), none, none, none, none, none, none], hp⟩) :
    K (M + 1) 34 [.ref rr, .int at_, .int deep] Q X h := by
  obtain ⟨hlt, e1, _⟩ := at_of he
  refine hK _ _ _ _ _ _ fn_row_from rfl rfl ?_
  conv => whnf
  rw [decide_eq_false (show ¬ (8 : Int) < deep by (first | lia | omega))]
  conv => whnf
  dsimp only [start]
  rw [hr]
  conv => whnf
  rw [pidx_nat (by (first | lia | omega)) (by rw [List.length_map]; (first | lia | omega))]
  dsimp only
  rw [show (at_ : Int).toNat = at_ from rfl, e1]
  conv => whnf
  refine ⟨32, rfl, by (first | lia | omega), fun ws h1 h2 h3 => ?_⟩
  obtain rfl : ws = W := glue_inj 32 h1 hW.ne h2 hW.free (h3.trans hl)
  conv => whnf
  have hat : (h ++ [MO.list (ws.map .str)])[h.length]? = some (.list (ws.map .str)) := get_last _ _
  refine eq_strs (y := [wSkip]) (get_old hat) (get_last _ _) hW.ok (fun s hs => kws_ok s (by rw [List.mem_singleton.mp hs]; decide)) ?_
  have hq := hq _ h.length (pre_push (pre_push (pre_self h))) (get_old (o' := .list ([wSkip].map .str)) hat)
  cases q : (ws == [wSkip]) with
  | true => rw [q] at hq; exact hq
  | false => rw [q] at hq; exact hq
omit hK in
theorem slice_at {pre : List (List Nat)} {t : Tm} {hp : List MO} : (hp ++ [MO.list (pslice ((pre ++ t.ws).map MV.str) (some (pre.length : Int)) none)])[hp.length]? = some (.list (t.ws.map .str)) := by
  rw [pslice_from (by (first | lia | omega)), get_last, show ((pre.length : Nat) : Int).toNat = (pre.map MV.str).length by rw [List.length_map]; rfl, List.map_append, List.drop_left]
noncomputable def RF (K : KT) (r : Rw) : Prop := ∀ {rr at_ N : Nat} {deep : Int} {ls rest : List (List Nat)} {Q : MV → List MO → Prop} {X : XT} {h : List MO}, r.good → h[rr]? = some (.list (ls.map .str)) → ls.drop at_ = r.lines ++ rest → deep + r.nest ≤ 8 → 2 * r.nest + 11 ≤ N → ls.length ≤ 100000 →
  (∀ h', h <+: h' → Q (.tup [r.mv, .int (at_ + r.lines.length : Nat)]) h') → K N 34 [.ref rr, .int at_, .int deep] Q X h
omit hK in
theorem rf_word {wd : List Nat} {T : List (List Nat)} {w : List Nat} {a b : List MSt} {M wr : Nat} {hp : List MO} (hw : hp[wr]? = some (.list ((wd :: T).map .str))) {v0 v1 v2 : Option MV} {r : List (Option MV)} {Q : Fl → MS → Prop} {X : XM} (neg : Cmp) (hneg : neg = .eq ∨ neg = .ne)
    (hq : (match (match neg with | .ne => !(wd == w) | _ => (wd == w)) with
      | true => wpSs K M a Q X ⟨v0 :: v1 :: v2 :: some (.ref wr) :: r, hp⟩
      | false => wpSs K M b Q X ⟨v0 :: v1 :: v2 :: some (.ref wr) :: r, hp⟩)) : wpS K M (.ite (.cmp neg (.idx (.var 3) (.cst (.int 0))) (.cst (.str w))) a b) Q X ⟨v0 :: v1 :: v2 :: some (.ref wr) :: r, hp⟩ := by
  conv => whnf
  dsimp only
  rw [hw]
  conv => whnf
  rw [show pidx 0 ((wd :: T).map MV.str).length = some 0 from pidx_nat (by decide) (by rw [List.map_cons, List.length_cons]; (first | lia | omega))]
  conv => whnf
  rcases hneg with rfl | rfl
  · exact hq
  · exact hq
omit hK in
theorem rf_notset {wd : List Nat} {T : List (List Nat)} {M wr : Nat} {hp : List MO} (hw : hp[wr]? = some (.list ((wd :: T).map .str))) {v0 v1 v2 : Option MV} {r : List (Option MV)} {Q : Fl → MS → Prop} {X : XM} (hwd : (wd == wSet) = false)
    (hq : wpSs K M (fn_row_from.body.drop 4) Q X ⟨v0 :: v1 :: v2 :: some (.ref wr) :: r, hp⟩) : wpSs K M (fn_row_from.body.drop 3) Q X ⟨v0 :: v1 :: v2 :: some (.ref wr) :: r, hp⟩ := by
  conv => whnf
  dsimp only
  rw [hw]
  conv => whnf
  rw [show pidx 0 ((wd :: T).map MV.str).length = some 0 from pidx_nat (by decide) (by rw [List.map_cons, List.length_cons]; (first | lia | omega))]
  conv => whnf
  rw [hwd]
  exact hq
theorem rf_skip : RF K .skip := by
  intro rr at_ N deep ls rest Q X h _ hr he hd hN hz hq
  obtain ⟨M, rfl, hM⟩ := room (k := 10) (show 10 < N by (first | lia | omega))
  have hd : deep + (0 : Nat) ≤ 8 := hd
  refine rf_head hK (W := [wSkip]) hr he (by (first | lia | omega)) ⟨List.cons_ne_nil _ _, fun w hw => kws_free w (by rw [List.mem_singleton.mp hw]; decide), fun w hw => kws_ok w (by rw [List.mem_singleton.mp hw]; decide)⟩ rfl (by decide) fun hp wr hpre hw => ?_
  exact hq hp hpre
theorem rf_set {s : List Nat} {t : Tm} : RF K (.set s t) := by
  intro rr at_ N deep ls rest Q X h hg hr he hd hN hz hq
  obtain ⟨M, rfl, hM⟩ := room (k := 10) (show 10 < N by (first | lia | omega))
  have hd : deep + (0 : Nat) ≤ 8 := hd
  have h8 := hg.1.1.2.1
  have hl := hg.2.len
  have hW : Wds (wSet :: s :: t.ws) := ⟨List.cons_ne_nil _ _, fun w hw => by
      rcases List.mem_cons.mp hw with rfl | hw
      · exact kws_free _ (by decide)
      · rcases List.mem_cons.mp hw with rfl | hw
        · exact hg.1.1.no32
        · exact t.ws_free hg.2.1 w hw, fun w hw => by
      rcases List.mem_cons.mp hw with rfl | hw
      · exact kws_ok _ (by decide)
      · rcases List.mem_cons.mp hw with rfl | hw
        · exact hg.1.1.ok
        · exact t.ws_ok hg.2.1 w hw⟩
  have hline : wSet ++ [32] ++ s ++ [32] ++ t.txt = glue 32 (wSet :: s :: t.ws) := by
    show _ = wSet ++ 32 :: glue 32 (s :: t.ws)
    rw [← line_words]
    simp
  refine rf_head hK hr he (by (first | lia | omega)) hW hline (by simp only [List.length_append, List.length_cons, List.length_nil]; (first | lia | omega)) fun hp wr hpre hw => ?_
  rw [show ((wSet :: s :: t.ws) == [wSkip]) = false from rfl]
  conv => whnf
  dsimp only
  rw [hw]
  conv => whnf
  rw [show pidx 0 ((wSet :: s :: t.ws).map MV.str).length = some 0 from pidx_nat (by decide) (by rw [List.map_cons, List.length_cons]; (first | lia | omega))]
  conv => whnf
  dsimp only
  rw [hw]
  conv => whnf
  rw [decide_eq_true (show (1 : Int) < ((wSet :: s :: t.ws).map MV.str).length by rw [List.map_cons, List.map_cons, List.length_cons, List.length_cons]; (first | lia | omega))]
  conv => whnf
  dsimp only
  rw [hw]
  conv => whnf
  have p1 : pidx 1 ((wSet :: s :: t.ws).map MV.str).length = some 1 := pidx_nat (by decide) (by rw [List.map_cons, List.map_cons, List.length_cons, List.length_cons]; (first | lia | omega))
  rw [p1]
  conv => whnf
  obtain ⟨M, rfl⟩ : ∃ M', M = M' + 1 := ⟨M - 1, by (first | lia | omega)⟩
  refine k_isname hK hg.1 ?_
  conv => whnf
  dsimp only
  rw [hw]
  conv => whnf
  rw [p1]
  conv => whnf
  dsimp only
  rw [hw]
  conv => whnf
  refine k_wholef hK (slice_at (pre := [wSet, s])) hg.2 (by (first | lia | omega)) ?_
  exact hq _ (pre_push hpre)
theorem rf_tell {t : Tm} : RF K (.tell t) := by
  intro rr at_ N deep ls rest Q X h hg hr he hd hN hz hq
  obtain ⟨M, rfl, hM⟩ := room (k := 10) (show 10 < N by (first | lia | omega))
  have hd : deep + (0 : Nat) ≤ 8 := hd
  have hg : t.good := hg
  have hl := hg.len
  refine rf_head hK hr he (by (first | lia | omega)) (Wds.kw (by decide) hg.1) (line_words wTell t) (by simp only [List.length_append, List.length_cons, List.length_nil]; (first | lia | omega)) fun hp wr hpre hw => ?_
  rw [show ((wTell :: t.ws) == [wSkip]) = false from rfl]
  refine rf_notset hw rfl ?_
  show wpS K M _ _ _ _
  refine rf_word hw .eq (.inl rfl) ?_
  conv => whnf
  dsimp only
  rw [hw]
  conv => whnf
  refine k_wholef hK (slice_at (pre := [wTell])) hg (by (first | lia | omega)) ?_
  exact hq _ (pre_push hpre)
noncomputable def BF (K : KT) (rs : List Rw) : Prop := ∀ {rr at_ N : Nat} {deep : Int} {ls rest : List (List Nat)} {Q : MV → List MO → Prop} {X : XT} {h : List MO}, goods rs → h[rr]? = some (.list (ls.map .str)) → ls.drop at_ = lns rs ++ rest → (rest = [] ∨ ∃ l tl, rest = l :: tl ∧ (l = wElse ∨ l = wEnd)) →
  deep + nests rs ≤ 8 → 2 * nests rs + 12 ≤ N → ls.length ≤ 100000 → (∀ h', h <+: h' → Q (.tup [.tup (mvs rs), .int (at_ + (lns rs).length : Nat)]) h') → K N 35 [.ref rr, .int at_, .int deep] Q X h
theorem rf_wh {t : Tm} {a : List Rw} (ia : BF K a) : RF K (.wh t a) := by
  intro rr at_ N deep ls rest Q X h hg hr he hd hN hz hq
  have hd : deep + ((nests a + 1 : Nat) : Int) ≤ 8 := hd
  have hN : 2 * (nests a + 1) + 11 ≤ N := hN
  obtain ⟨M, rfl, hM⟩ := room (k := 2 * (nests a + 1) + 10) (show _ < N by (first | lia | omega))
  have ht := hg.1
  have hl := ht.len
  have he : ls.drop at_ = (wWhile ++ [32] ++ t.txt) :: (lns a ++ (wEnd :: rest)) := he.trans (congrArg (List.cons _) (List.append_assoc ..))
  obtain ⟨_, _, e2⟩ := at_of he
  have e3 : ls.drop (at_ + 1 + (lns a).length) = wEnd :: rest := by rw [← List.drop_drop, e2, List.drop_left]
  refine rf_head hK hr he (by (first | lia | omega)) (Wds.kw (by decide) ht.1) (line_words wWhile t) (by simp only [List.length_append, List.length_cons, List.length_nil]; (first | lia | omega)) fun hp wr hpre hw => ?_
  rw [show ((wWhile :: t.ws) == [wSkip]) = false from rfl]
  refine rf_notset hw rfl ?_
  show wpS K M _ _ _ _
  refine rf_word hw .eq (.inl rfl) ?_
  show wpS K M _ _ _ _
  refine rf_word hw .eq (.inl rfl) ?_
  conv => whnf
  dsimp only
  rw [hw]
  conv => whnf
  have hpre1 := pre_push (o := .list (pslice ((wWhile :: t.ws).map MV.str) (some 1) none)) (pre_self hp)
  refine k_wholef hK (slice_at (pre := [wWhile])) ht (by (first | lia | omega)) ?_
  conv => whnf
  refine ia (at_ := at_ + 1) hg.2 (pre_at (hpre.trans hpre1) hr) e2 (.inr ⟨_, _, rfl, .inr rfl⟩) (by (first | lia | omega)) (by (first | lia | omega)) hz fun hp2 hpre2 => ?_
  conv => whnf
  refine ⟨rfl, ?_⟩
  conv => whnf
  obtain ⟨M, rfl⟩ : ∃ M', M = M' + 1 := ⟨M - 1, by (first | lia | omega)⟩
  refine k_need hK (pre_at ((hpre.trans hpre1).trans hpre2) hr) e3 ?_
  conv => whnf
  have e4 : at_ + (Rw.wh t a).lines.length = at_ + 1 + (lns a).length + 1 := by
    show at_ + ((lns a ++ [wEnd]).length + 1) = _
    rw [List.length_append, List.length_singleton]; (first | lia | omega)
  rw [e4] at hq
  exact hq hp2 ((hpre.trans hpre1).trans hpre2)
theorem rf_ite {t : Tm} {a b : List Rw} (ia : BF K a) (ib : BF K b) : RF K (.ite t a b) := by
  intro rr at_ N deep ls rest Q X h hg hr he hd hN hz hq
  have hd : deep + ((max (nests a) (nests b) + 1 : Nat) : Int) ≤ 8 := hd
  have hN : 2 * (max (nests a) (nests b) + 1) + 11 ≤ N := hN
  obtain ⟨M, rfl, hM⟩ := room (k := 2 * (max (nests a) (nests b) + 1) + 10) (show _ < N by (first | lia | omega))
  have ht := hg.1
  have hl := ht.len
  have he : ls.drop at_ = (wIf ++ [32] ++ t.txt) :: (lns a ++ (wElse :: (lns b ++ wEnd :: rest))) := by
    rw [he]
    show _ :: ((lns a ++ wElse :: (lns b ++ [wEnd])) ++ rest) = _
    simp
  obtain ⟨_, _, e2⟩ := at_of he
  have e3 : ls.drop (at_ + 1 + (lns a).length) = wElse :: (lns b ++ wEnd :: rest) := by rw [← List.drop_drop, e2, List.drop_left]
  obtain ⟨_, _, e5⟩ := at_of e3
  have e6 : ls.drop (at_ + 1 + (lns a).length + 1 + (lns b).length) = wEnd :: rest := by rw [← List.drop_drop, e5, List.drop_left]
  refine rf_head hK hr he (by (first | lia | omega)) (Wds.kw (by decide) ht.1) (line_words wIf t) (by simp only [List.length_append, List.length_cons, List.length_nil]; (first | lia | omega)) fun hp wr hpre hw => ?_
  rw [show ((wIf :: t.ws) == [wSkip]) = false from rfl]
  refine rf_notset hw rfl ?_
  show wpS K M _ _ _ _
  refine rf_word hw .eq (.inl rfl) ?_
  show wpS K M _ _ _ _
  refine rf_word hw .eq (.inl rfl) ?_
  show wpS K M _ _ _ _
  refine rf_word hw .ne (.inr rfl) ?_
  conv => whnf
  dsimp only
  rw [hw]
  conv => whnf
  have hpre1 := pre_push (o := .list (pslice ((wIf :: t.ws).map MV.str) (some 1) none)) (pre_self hp)
  refine k_wholef hK (slice_at (pre := [wIf])) ht (by (first | lia | omega)) ?_
  conv => whnf
  refine ia (at_ := at_ + 1) hg.2.1 (pre_at (hpre.trans hpre1) hr) e2 (.inr ⟨_, _, rfl, .inl rfl⟩) (by (first | lia | omega)) (by (first | lia | omega)) hz fun hp2 hpre2 => ?_
  have hpre2 : h <+: hp2 := (hpre.trans hpre1).trans hpre2
  conv => whnf
  refine ⟨rfl, ?_⟩
  conv => whnf
  obtain ⟨M, rfl⟩ : ∃ M', M = M' + 1 := ⟨M - 1, by (first | lia | omega)⟩
  refine k_need hK (pre_at hpre2 hr) e3 ?_
  conv => whnf
  refine ib (at_ := at_ + 1 + (lns a).length + 1) hg.2.2 (pre_at hpre2 hr) e5 (.inr ⟨_, _, rfl, .inr rfl⟩) (by (first | lia | omega)) (by (first | lia | omega)) hz fun hp3 hpre3 => ?_
  conv => whnf
  refine ⟨rfl, ?_⟩
  conv => whnf
  refine k_need hK (pre_at (hpre2.trans hpre3) hr) e6 ?_
  conv => whnf
  have e4 : at_ + (Rw.ite t a b).lines.length = at_ + 1 + (lns a).length + 1 + (lns b).length + 1 := by
    show at_ + ((lns a ++ wElse :: (lns b ++ [wEnd])).length + 1) = _
    rw [List.length_append, List.length_cons, List.length_append, List.length_singleton]; (first | lia | omega)
  rw [e4] at hq
  exact hq hp3 (hpre2.trans hpre3)
omit hK in
theorem first_line (r : Rw) (hg : r.good) : ∃ l tl, r.lines = l :: tl ∧ (l == wElse) = false ∧ (l == wEnd) = false := by
  have key : ∀ {wd : List Nat} {x : List Nat}, (wd ++ [32] ++ x == wElse) = false ∧ (wd ++ [32] ++ x == wEnd) = false := fun {wd x} => by
    have h32 : ∀ w, 32 ∉ w → (wd ++ [32] ++ x == w) = false := fun w hw => by
      rw [beq_eq_false_iff_ne]
      intro e
      exact hw (e ▸ List.mem_append_left _ (List.mem_append_right _ (List.mem_singleton.mpr rfl)))
    exact ⟨h32 _ (by decide), h32 _ (by decide)⟩
  cases r with
  | set s t => exact ⟨_, _, rfl, key⟩
  | tell t => exact ⟨_, _, rfl, key⟩
  | skip => exact ⟨_, _, rfl, rfl, rfl⟩
  | ite t a b => exact ⟨_, _, rfl, key⟩
  | wh t a => exact ⟨_, _, rfl, key⟩
theorem bf_of {rs : List Rw} (ih : ∀ r ∈ rs, RF K r) : BF K rs := by
  intro rr at_ N deep ls rest Q X h hg hr he hrest hd hN hz hq
  obtain ⟨M, rfl, hM⟩ := room (k := 2 * nests rs + 11) (show _ < N by (first | lia | omega))
  refine hK _ _ _ _ _ _ fn_block_from rfl rfl ?_
  conv => whnf
  refine ⟨rs.length + 1, while_inv (fun k m => ∃ dn lf w hp, rs = dn ++ lf ∧ k = lf.length + 1 ∧ m = ⟨[some (.ref rr), some (.int (at_ + (lns dn).length : Nat)), some (.int deep), some (.ref h.length), w], hp⟩ ∧ h <+: hp ∧ hp[h.length]? = some (.list (mvs dn)))
    (fun m hI => by obtain ⟨_, lf, _, _, _, hk, _⟩ := hI; (first | lia | omega)) (fun k m W hI hW => ?_) _ _ ⟨[], rs, none, _, rfl, rfl, rfl, pre_push (pre_self _), get_last _ _⟩⟩
  obtain ⟨dn, lf, w, hp, hrs, hk, rfl, hpre, hat⟩ := hI
  have hr' := pre_at hpre hr
  have he' : ls.drop (at_ + (lns dn).length) = lns lf ++ rest := by
    rw [← List.drop_drop, he, hrs, lns_app, List.append_assoc, List.drop_left]
  cases lf with
  | nil =>
    have hfin : wpSs K M [.ret (.tup [.blt .tuple [.var 3], .var 1])] (fin Q) (fun c m => X c m.heap) ⟨[some (.ref rr), some (.int (at_ + (lns dn).length : Nat)), some (.int deep), some (.ref h.length), w], hp⟩ := by
      conv => whnf
      dsimp only
      rw [hat]
      conv => whnf
      rw [List.append_nil] at hrs
      subst hrs
      exact hq hp hpre
    conv => whnf
    dsimp only
    rw [hr']
    conv => whnf
    rcases hrest with rfl | ⟨l, tl, rfl, hl⟩
    · have : ls.length ≤ at_ + (lns dn).length := List.drop_eq_nil_iff.mp he'
      rw [decide_eq_false (show ¬ (((at_ + (lns dn).length : Nat) : Int) < ((ls.map MV.str).length : Nat)) by rw [List.length_map]; (first | lia | omega))]
      exact hfin
    · obtain ⟨hlt, e1, _⟩ := at_of (show ls.drop (at_ + (lns dn).length) = l :: tl from he')
      have p : pidx ((at_ + (lns dn).length : Nat) : Int) (ls.map MV.str).length = some (at_ + (lns dn).length) := pidx_nat (by (first | lia | omega)) (by rw [List.length_map]; (first | lia | omega))
      rw [decide_eq_true (show (((at_ + (lns dn).length : Nat) : Int) < ((ls.map MV.str).length : Nat)) by rw [List.length_map]; (first | lia | omega))]
      conv => whnf
      dsimp only
      rw [hr']
      conv => whnf
      rw [p]
      dsimp only
      rw [e1]
      conv => whnf
      rcases hl with rfl | rfl
      · exact hfin
      · conv => whnf
        dsimp only
        rw [hr']
        conv => whnf
        rw [p]
        dsimp only
        rw [e1]
        exact hfin
  | cons r lf =>
    have hmem : r ∈ rs := hrs ▸ List.mem_append_right _ (List.mem_cons_self ..)
    have hgr := goods_mem hg r hmem
    have hnr := nests_mem (Nat.le_refl (nests rs)) r hmem
    have he2 : ls.drop (at_ + (lns dn).length) = r.lines ++ (lns lf ++ rest) := he'.trans (List.append_assoc ..)
    obtain ⟨l, tl, hl, l1, l2⟩ := first_line r hgr
    obtain ⟨hlt, e1, _⟩ := at_of (show ls.drop (at_ + (lns dn).length) = l :: (tl ++ (lns lf ++ rest)) by rw [he2, hl]; rfl)
    have p : pidx ((at_ + (lns dn).length : Nat) : Int) (ls.map MV.str).length = some (at_ + (lns dn).length) := pidx_nat (by (first | lia | omega)) (by rw [List.length_map]; (first | lia | omega))
    conv => whnf
    dsimp only
    rw [hr']
    conv => whnf
    rw [decide_eq_true (show (((at_ + (lns dn).length : Nat) : Int) < ((ls.map MV.str).length : Nat)) by rw [List.length_map]; (first | lia | omega))]
    conv => whnf
    dsimp only
    rw [hr']
    conv => whnf
    rw [p]
    dsimp only
    rw [e1]
    conv => whnf
    rw [l1]
    conv => whnf
    dsimp only
    rw [hr']
    conv => whnf
    rw [p]
    dsimp only
    rw [e1]
    conv => whnf
    rw [l2]
    conv => whnf
    refine ih r hmem hgr hr' he2 (by (first | lia | omega)) (by (first | lia | omega)) hz fun hp' hpre' => ?_
    conv => whnf
    refine ⟨rfl, ?_⟩
    have hat' := pre_at hpre' hat
    conv => whnf
    dsimp only [MS.set, setAll]
    rw [ok_append hat']
    conv => whnf
    dsimp only [MS.set, setAll]
    rw [lst_at hat']
    conv => whnf
    have hcount : dn.length < 100000 := by
      have h1 := rows_le rs
      have h2 : (lns rs ++ rest).length ≤ ls.length := by rw [← he, List.length_drop]; (first | lia | omega)
      rw [List.length_append] at h2
      have h3 : rs.length = dn.length + (lf.length + 1) := by rw [hrs, List.length_append, List.length_cons]
      (first | lia | omega)
    refine ⟨Nat.lt_of_lt_of_le (by rw [mvs_len]; exact hcount) (le_line (by decide)), ?_⟩
    refine hW _ ⟨dn ++ [r], lf, some r.mv, hp'.set h.length (.list (mvs dn ++ [r.mv])), by rw [hrs, List.append_assoc]; rfl, by rw [List.length_cons] at hk; (first | lia | omega), ?_, pre_set (hpre.trans hpre') (Nat.le_refl _), ?_⟩
    · rw [show at_ + (lns (dn ++ [r])).length = at_ + (lns dn).length + r.lines.length by rw [lns_app, lns_one, List.length_append]; (first | lia | omega)]
      rfl
    · rw [mvs_app]; exact get_set hat'
mutual
theorem rf_all : ∀ r : Rw, RF K r
  | .set s t => rf_set hK
  | .tell t => rf_tell hK
  | .skip => rf_skip hK
  | .ite t a b => rf_ite hK (bf_of hK (rfs_all a)) (bf_of hK (rfs_all b))
  | .wh t a => rf_wh hK (bf_of hK (rfs_all a))
theorem rfs_all : ∀ rs : List Rw, ∀ r ∈ rs, RF K r
  | [], r, h => by cases h
  | q :: rs, r, h => (List.mem_cons.mp h).elim (fun e => e ▸ rf_all q) fun h => rfs_all rs r h
end
theorem k_read {rs : List Rw} {rr N : Nat} {Q : MV → List MO → Prop} {X : XT} {h : List MO} (hg : goods rs) (hr : h[rr]? = some (.list ((lns rs).map .str))) (hd : nests rs ≤ 7) (hN : 40 ≤ N) (hz : (lns rs).length ≤ 100000) (hq : ∀ h', h <+: h' → Q (.tup (mvs rs)) h') : K N 36 [.ref rr] Q X h := by
  obtain ⟨M, rfl, hM⟩ := room (k := 39) (show 39 < N by (first | lia | omega))
  refine hK _ _ _ _ _ _ fn_read rfl rfl ?_
  conv => whnf
  refine bf_of hK (rfs_all hK rs) (at_ := 0) (rest := []) hg hr (by rw [List.append_nil]; rfl) (.inl rfl) (by (first | lia | omega)) (by (first | lia | omega)) hz fun h' hpre => ?_
  conv => whnf
  refine ⟨rfl, ?_⟩
  conv => whnf
  dsimp only [start, MS.set, setAll]
  rw [pre_at hpre hr]
  conv => whnf
  rw [show (((0 + (lns rs).length : Nat) : Int) == (((lns rs).map MV.str).length : Nat)) = true by simp]
  exact hq h' hpre
end Mine
end
section
set_option autoImplicit false
set_option linter.unusedVariables false
set_option tactic.hygienic false
namespace Mine
variable {K : KT}
noncomputable def LL (K : KT) (rs : List Rw) : Prop := ∀ {N : Nat} {Q : MV → List MO → Prop} {X : XT} {h : List MO}, goods rs → (lns rs).length ≤ 100000 → nests rs + 6 ≤ N →
  (∀ h' i, h <+: h' → h.length ≤ i → h'[i]? = some (.list ((lns rs).map .str)) → Q (.ref i) h') → K N 43 [.tup (mvs rs)] Q X h
noncomputable abbrev llBody : List MSt := inner (fn_law_lines.body.drop 1)
variable (hK : Closed (fnP tab) K)
include hK
omit hK in
theorem app_line {L : List (List Nat)} {l : List Nat} {hp h : List MO} {i : Nat} (hi : hp[i]? = some (.list (L.map .str))) : (hp.set i (.list (L.map .str ++ [.str l])))[i]? = some (.list ((L ++ [l]).map .str)) := by
  rw [List.map_append]; exact get_set hi
theorem ll_first {r : Rw} {M i : Nat} {b : MV} {L : List (List Nat)} {P : Fl → MS → Prop} {X : XM} {h hp : List MO} (hg : r.good) (hM : 5 ≤ M) (hpre : h <+: hp) (h1 : h.length ≤ i) (hi : hp[i]? = some (.list (L.map .str))) (hz : L.length + 1 ≤ 100000)
    (hq : ∀ hp' l, h <+: hp' → (∃ tl, r.lines = l :: tl) → hp'[i]? = some (.list ((L ++ [l]).map .str)) → wpSs K M (llBody.drop 1) P X ⟨[some b, some (.ref i), some r.mv], hp'⟩) : wpSs K M llBody P X ⟨[some b, some (.ref i), some r.mv], hp⟩ := by
  have hlt : (L.map MV.str).length < line := Nat.lt_of_lt_of_le (by rw [List.length_map]; exact Nat.lt_of_lt_of_le (Nat.lt_succ_self _) hz) (le_line (by decide))
  have fin : ∀ (l : List Nat), (∃ tl, r.lines = l :: tl) → wpSs K M (llBody.drop 1) P X ⟨[some b, some (.ref i), some r.mv], hp.set i (.list (L.map .str ++ [.str l]))⟩ := fun l hl => hq _ l (pre_set hpre h1) hl (app_line (h := h) hi)
  have other : ∀ {wd : List Nat} {t : Tm} {more : List MV}, wd.length ≤ 5 → t.good → (wd == wSet) = false → (wd == wSkip) = false → r.mv = .tup (.str wd :: t.mv :: more) → (∃ tl, r.lines = (wd ++ [32] ++ t.txt) :: tl) → wpSs K M llBody P X ⟨[some b, some (.ref i), some (.tup (.str wd :: t.mv :: more))], hp⟩ := by
    intro wd t more hw ht h2 h3 e hl
    have hl' := ht.len
    have hd := ht.2
    have p0 : pidx 0 (MV.str wd :: t.mv :: more).length = some 0 := pidx_nat (by decide) (by rw [List.length_cons]; (first | lia | omega))
    have p1 : pidx 1 (MV.str wd :: t.mv :: more).length = some 1 := pidx_nat (by decide) (by rw [List.length_cons, List.length_cons]; (first | lia | omega))
    conv => whnf
    rw [p0]
    conv => whnf
    rw [h2]
    conv => whnf
    rw [p0]
    conv => whnf
    rw [h3]
    conv => whnf
    rw [ok_append hi]
    conv => whnf
    rw [p0]
    conv => whnf
    refine ⟨le_line (by simp only [List.length_cons, List.length_nil]; (first | lia | omega)), ?_⟩
    conv => whnf
    rw [p1]
    conv => whnf
    refine k_ltext hK t ht (by (first | lia | omega)) ?_
    conv => whnf
    refine ⟨le_line (by simp only [List.length_append, List.length_cons, List.length_nil]; (first | lia | omega)), ?_⟩
    conv => whnf
    dsimp only
    rw [lst_at hi]
    conv => whnf
    refine ⟨hlt, ?_⟩
    have := fin _ hl
    rw [e] at this
    exact this
  cases r with
  | skip =>
    conv => whnf
    rw [ok_append hi]
    conv => whnf
    dsimp only
    rw [lst_at hi]
    conv => whnf
    exact ⟨hlt, fin _ ⟨_, rfl⟩⟩
  | set s t =>
    have h8 := hg.1.1.2.1
    have hl' := hg.2.len
    have hd := hg.2.2
    conv => whnf
    rw [ok_append hi]
    conv => whnf
    refine ⟨le_line (by simp only [List.length_cons, List.length_nil]; (first | lia | omega)), ?_⟩
    conv => whnf
    refine ⟨le_line (by simp only [List.length_append, List.length_cons, List.length_nil]; (first | lia | omega)), ?_⟩
    conv => whnf
    refine k_ltext hK t hg.2 (by (first | lia | omega)) ?_
    conv => whnf
    refine ⟨le_line (by simp only [List.length_append, List.length_cons, List.length_nil]; (first | lia | omega)), ?_⟩
    conv => whnf
    dsimp only
    rw [lst_at hi]
    conv => whnf
    exact ⟨hlt, fin _ ⟨_, rfl⟩⟩
  | tell t => exact other (more := []) (by decide) hg rfl rfl rfl ⟨_, rfl⟩
  | ite t x y => exact other (more := [.tup (mvs x), .tup (mvs y)]) (by decide) hg.1 rfl rfl rfl ⟨_, rfl⟩
  | wh t x => exact other (more := [.tup (mvs x)]) (by decide) hg.1 rfl rfl rfl ⟨_, rfl⟩
omit hK in
theorem get_add (hp : List MO) (x y : List (List Nat)) : (hp ++ [MO.list (x.map .str ++ y.map .str)])[hp.length]? = some (.list ((x ++ y).map .str)) := by
  rw [get_last, List.map_append]
omit hK in
theorem len_add {x y : List (List Nat)} (h : x.length + y.length ≤ 100000) : (x.map MV.str).length + (y.map MV.str).length ≤ line := le_line (by rw [List.length_map, List.length_map]; (first | lia | omega))
theorem ll_row {r : Rw} (ih : match r with | .ite _ a b => LL K a ∧ LL K b | .wh _ a => LL K a | _ => True) {M i : Nat} {b : MV} {L : List (List Nat)} {P : Fl → MS → Prop} {X : XT} {h hp : List MO} (hg : r.good) (hM : r.nest + 5 ≤ M) (hpre : h <+: hp) (h1 : h.length ≤ i) (hi : hp[i]? = some (.list (L.map .str))) (hz : L.length + r.lines.length ≤ 100000)
    (hq : ∀ hp' i', h <+: hp' → h.length ≤ i' → hp'[i']? = some (.list ((L ++ r.lines).map .str)) → P .next ⟨[some b, some (.ref i'), some r.mv], hp'⟩) : wpSs K M llBody P (fun c m => X c m.heap) ⟨[some b, some (.ref i), some r.mv], hp⟩ := by
  have hpos := lines_pos r
  refine ll_first hK hg (by (first | lia | omega)) hpre h1 hi (by (first | lia | omega)) fun hp1 l hpre1 hl hi1 => ?_
  obtain ⟨tl, hl⟩ := hl
  cases r with
  | skip => cases hl; exact hq hp1 i hpre1 h1 hi1
  | set s t => cases hl; exact hq hp1 i hpre1 h1 hi1
  | tell t => cases hl; exact hq hp1 i hpre1 h1 hi1
  | wh t a =>
    have hl : (wWhile ++ [32] ++ t.txt) :: (lns a ++ [wEnd]) = l :: tl := hl
    cases hl
    have hz : L.length + ((lns a ++ [wEnd]).length + 1) ≤ 100000 := hz
    rw [List.length_append, List.length_singleton] at hz
    have hM : nests a + 1 + 5 ≤ M := hM
    conv => whnf
    refine ih hg.2 (by (first | lia | omega)) (by (first | lia | omega)) fun hp2 j hpre2 _ hj => ?_
    conv => whnf
    have hpre2 : hp1 <+: hp2 := hpre2
    dsimp only
    rw [pre_at hpre2 hi1, hj]
    refine ⟨len_add (by rw [List.length_append, List.length_singleton]; (first | lia | omega)), ?_⟩
    conv => whnf
    dsimp only [MS.push]
    rw [get_old (get_add _ _ _), get_last]
    refine ⟨len_add (y := [wEnd]) (by rw [List.length_append, List.length_append, List.length_singleton, List.length_singleton]; (first | lia | omega)), ?_⟩
    refine hq _ _ (pre_push (pre_push (pre_push (hpre1.trans hpre2)))) ?_ ?_
    · have := (hpre1.trans hpre2).length_le
      simp only [List.length_append, List.length_singleton]; (first | lia | omega)
    · have e : L ++ (Rw.wh t a).lines = L ++ [wWhile ++ [32] ++ t.txt] ++ lns a ++ [wEnd] := by
        show L ++ (wWhile ++ [32] ++ t.txt) :: (lns a ++ [wEnd]) = _
        simp
      rw [e]; exact get_add _ _ [wEnd]
  | ite t a c =>
    have hl : (wIf ++ [32] ++ t.txt) :: (lns a ++ wElse :: (lns c ++ [wEnd])) = l :: tl := hl
    cases hl
    have hz : L.length + ((lns a ++ wElse :: (lns c ++ [wEnd])).length + 1) ≤ 100000 := hz
    rw [List.length_append, List.length_cons, List.length_append, List.length_singleton] at hz
    have hM : max (nests a) (nests c) + 1 + 5 ≤ M := hM
    conv => whnf
    refine ih.1 hg.2.1 (by (first | lia | omega)) (by (first | lia | omega)) fun hp2 j hpre2 _ hj => ?_
    conv => whnf
    have hpre2 : hp1 <+: hp2 := hpre2
    dsimp only
    rw [pre_at hpre2 hi1, hj]
    refine ⟨len_add (by rw [List.length_append, List.length_singleton]; (first | lia | omega)), ?_⟩
    conv => whnf
    dsimp only [MS.push]
    rw [get_old (get_add _ _ _), get_last]
    refine ⟨len_add (y := [wElse]) (by rw [List.length_append, List.length_append, List.length_singleton, List.length_singleton]; (first | lia | omega)), ?_⟩
    conv => whnf
    refine ih.2 hg.2.2 (by (first | lia | omega)) (by (first | lia | omega)) fun hp3 j3 hpre3 _ hj3 => ?_
    conv => whnf
    dsimp only [MS.push]
    rw [pre_at hpre3 (get_add _ _ [wElse]), hj3]
    refine ⟨len_add (by rw [List.length_append, List.length_append, List.length_append, List.length_singleton, List.length_singleton]; (first | lia | omega)), ?_⟩
    conv => whnf
    dsimp only [MS.push]
    rw [get_old (get_add _ _ _), get_last]
    refine ⟨len_add (y := [wEnd]) (by rw [List.length_append, List.length_append, List.length_append, List.length_append, List.length_singleton, List.length_singleton, List.length_singleton]; (first | lia | omega)), ?_⟩
    have hpre4 := (pre_push (pre_push (pre_push (hpre1.trans hpre2)))).trans hpre3
    refine hq _ _ (pre_push (pre_push (pre_push hpre4))) ?_ ?_
    · have := hpre4.length_le
      simp only [List.length_append, List.length_singleton]; (first | lia | omega)
    · have e : L ++ (Rw.ite t a c).lines = L ++ [wIf ++ [32] ++ t.txt] ++ lns a ++ [wElse] ++ lns c ++ [wEnd] := by
        show L ++ (wIf ++ [32] ++ t.txt) :: (lns a ++ wElse :: (lns c ++ [wEnd])) = _
        simp
      rw [e]; exact get_add _ _ [wEnd]
noncomputable def LLr (K : KT) (r : Rw) : Prop := match r with
  | .ite _ a b => LL K a ∧ LL K b
  | .wh _ a => LL K a
  | _ => True
theorem ll_of {rs : List Rw} (ih : ∀ r ∈ rs, LLr K r) : LL K rs := by
  intro N Q X h hg hz hN hq
  obtain ⟨M, rfl, hM⟩ := room (k := nests rs + 5) (show _ < N by (first | lia | omega))
  refine hK _ _ _ _ _ _ fn_law_lines rfl rfl ?_
  conv => whnf
  refine forL_inv (fun j m => ∃ w hp i, m = ⟨[some (.tup (mvs rs)), some (.ref i), w], hp⟩ ∧ h <+: hp ∧ h.length ≤ i ∧ hp[i]? = some (.list ((lns (rs.take j)).map .str))) (fun _ _ => False) ⟨_, _, _, rfl, pre_push (pre_self _), Nat.le_refl _, get_last _ _⟩ (fun _ _ _ => trivial) (fun j x m P hx hI hn _ _ => ?_) (fun m hI => ?_) (fun _ _ h => h.elim)
  · obtain ⟨w, hp, i, rfl, hp1, hp2, hp3⟩ := hI
    obtain ⟨r, hr, rfl⟩ := mvs_get hx
    have hmem := List.mem_of_getElem? hr
    have hle : (lns (rs.take (j + 1))).length ≤ 100000 := Nat.le_trans (lns_take_le rs _) hz
    rw [take_next hr, lns_app, lns_one, List.length_append] at hle
    refine ll_row hK (ih r hmem) (goods_mem hg r hmem) (by have := nests_mem (Nat.le_refl (nests rs)) r hmem; (first | lia | omega)) hp1 hp2 hp3 hle fun hp' i' h1 h2 h3 => ?_
    exact hn _ ⟨_, _, _, rfl, h1, h2, by rw [take_next hr, lns_app, lns_one]; exact h3⟩
  · obtain ⟨w, hp, i, rfl, hp1, hp2, hp3⟩ := hI
    rw [mvs_len, List.take_length] at hp3
    exact hq hp i hp1 hp2 hp3
mutual
theorem llr_all : ∀ r : Rw, LLr K r
  | .set s t => trivial
  | .tell t => trivial
  | .skip => trivial
  | .ite t a b => ⟨ll_of hK (llrs_all a), ll_of hK (llrs_all b)⟩
  | .wh t a => ll_of hK (llrs_all a)
theorem llrs_all : ∀ rs : List Rw, ∀ r ∈ rs, LLr K r
  | [], r, h => by cases h
  | q :: rs, r, h => (List.mem_cons.mp h).elim (fun e => e ▸ llr_all q) fun h => llrs_all rs r h
end
end Mine
end
section
set_option autoImplicit false
set_option linter.unusedVariables false
set_option tactic.hygienic false
namespace Mine

theorem compL_inv {g : Option (Nat × List MV)} {step : MV → (Option MV → MS → Prop) → MS → Prop} {Q : List MV → MS → Prop} (I : Nat → List MV → MS → Prop) {items : List MV} {m : MS} (h0 : I 0 [] m) (hg : ∀ i a m, I i a m → guardOk g m.heap)
    (hstep : ∀ i x a m (P : Option MV → MS → Prop), items[i]? = some x → I i a m → (∀ y m', I (i + 1) (a ++ [y]) m' → P (some y) m') → (∀ m', I (i + 1) a m' → P none m') → step x P m)
    (hend : ∀ a m, I items.length a m → Q a m) : compL g step Q items [] m := by
  have key : ∀ (l : List MV) (i : Nat) (a : List MV) (m : MS), i + l.length = items.length → items.drop i = l → I i a m → compL g step Q l a m := by
    intro l
    induction l with
    | nil =>
      intro i a m hl e hI
      have hl : i = items.length := hl
      subst hl
      rw [compL_nil]
      exact ⟨hg _ _ m hI, hend a m hI⟩
    | cons x l ih =>
      intro i a m hl e hI
      rw [List.length_cons] at hl
      have hlt : i < items.length := by (first | lia | omega)
      have e' := List.drop_eq_getElem_cons hlt
      rw [e] at e'
      obtain ⟨e1, e2⟩ := List.cons.inj e'
      rw [compL_cons]
      exact ⟨hg i a m hI, hstep i x a m _ (by rw [List.getElem?_eq_getElem hlt, e1]) hI (fun y m' h' => ih (i + 1) _ m' (by (first | lia | omega)) e2.symm h') fun m' h' => ih (i + 1) _ m' (by (first | lia | omega)) e2.symm h'⟩
  exact key items 0 [] m (by simp) (by simp) h0

mutual
noncomputable def MV.pure : MV → Prop
  | .tup xs => pures xs
  | .str _ => True
  | .int _ => True
  | _ => False
noncomputable def pures : List MV → Prop
  | [] => True
  | x :: xs => x.pure ∧ pures xs
end
mutual
noncomputable def MV.dp : MV → Nat
  | .tup xs => dps xs + 1
  | _ => 0
noncomputable def dps : List MV → Nat
  | [] => 0
  | x :: xs => max x.dp (dps xs)
end
noncomputable def AK (K : KT) (x : MV) : Prop := ∀ {N : Nat} {Q : MV → List MO → Prop} {X : XT} {h : List MO}, x.pure → x.dp < N → (∀ h', h <+: h' → Q (.bool true) h') → K N 44 [x, x] Q X h
theorem pures_get : ∀ {xs : List MV}, pures xs → ∀ {j : Nat} {x : MV}, xs[j]? = some x → x.pure ∧ x.dp ≤ dps xs
  | y :: xs, h, j, x, e => by
    cases j with
    | zero => cases e; exact ⟨h.1, Nat.le_max_left ..⟩
    | succ j => have := pures_get h.2 e; exact ⟨this.1, Nat.le_trans this.2 (Nat.le_max_right ..)⟩

mutual
noncomputable def MV.wide : MV → Prop
  | .tup xs => xs.length ≤ 100000 ∧ wides xs
  | _ => True
noncomputable def wides : List MV → Prop
  | [] => True
  | x :: xs => x.wide ∧ wides xs
end
theorem Tm.mv_pure : ∀ (t : Tm), t.mv.pure ∧ t.mv.dp ≤ t.deep + 1 ∧ t.mv.wide
  | .num k => ⟨⟨trivial, trivial, trivial⟩, Nat.le_refl _, Nat.le_of_ble_eq_true rfl, trivial, trivial, trivial⟩
  | .nm s => ⟨⟨trivial, trivial, trivial⟩, Nat.le_refl _, Nat.le_of_ble_eq_true rfl, trivial, trivial, trivial⟩
  | .op c a b => by
    obtain ⟨p1, d1, w1⟩ := a.mv_pure
    obtain ⟨p2, d2, w2⟩ := b.mv_pure
    refine ⟨⟨trivial, p1, p2, trivial⟩, ?_, by show 3 ≤ 100000; decide, trivial, w1, w2, trivial⟩
    show max 0 (max a.mv.dp (max b.mv.dp 0)) + 1 ≤ max a.deep b.deep + 1 + 1
    (first | lia | omega)
mutual
theorem Rw.mv_pure : ∀ (r : Rw), r.good → r.lines.length ≤ 100000 → r.mv.pure ∧ r.mv.dp ≤ 2 * r.nest + 6 ∧ r.mv.wide
  | .set s t, h, hz => by
    obtain ⟨p1, d1, w1⟩ := t.mv_pure
    have := h.2.2
    refine ⟨⟨trivial, trivial, p1, trivial⟩, ?_, by show 3 ≤ 100000; decide, trivial, trivial, w1, trivial⟩
    show max 0 (max 0 (max t.mv.dp 0)) + 1 ≤ 2 * 0 + 6
    (first | lia | omega)
  | .tell t, h, hz => by
    obtain ⟨p1, d1, w1⟩ := t.mv_pure
    have h : t.good := h
    have := h.2
    refine ⟨⟨trivial, p1, trivial⟩, ?_, by show 2 ≤ 100000; decide, trivial, w1, trivial⟩
    show max 0 (max t.mv.dp 0) + 1 ≤ 2 * 0 + 6
    (first | lia | omega)
  | .skip, h, hz => ⟨⟨trivial, trivial⟩, by decide, by decide, trivial, trivial⟩
  | .wh t a, h, hz => by
    obtain ⟨p1, d1, w1⟩ := t.mv_pure
    have hz : (lns a ++ [wEnd]).length + 1 ≤ 100000 := hz
    rw [List.length_append, List.length_singleton] at hz
    obtain ⟨p2, d2, w2⟩ := mvs_pure a h.2 (by (first | lia | omega))
    have := h.1.2
    have := rows_le a
    refine ⟨⟨trivial, p1, p2, trivial⟩, ?_, by show 3 ≤ 100000; decide, trivial, w1, ⟨by rw [mvs_len]; (first | lia | omega), w2⟩, trivial⟩
    show max 0 (max t.mv.dp (max (dps (mvs a) + 1) 0)) + 1 ≤ 2 * (nests a + 1) + 6
    (first | lia | omega)
  | .ite t a b, h, hz => by
    obtain ⟨p1, d1, w1⟩ := t.mv_pure
    have hz : (lns a ++ wElse :: (lns b ++ [wEnd])).length + 1 ≤ 100000 := hz
    rw [List.length_append, List.length_cons, List.length_append, List.length_singleton] at hz
    obtain ⟨p2, d2, w2⟩ := mvs_pure a h.2.1 (by (first | lia | omega))
    obtain ⟨p3, d3, w3⟩ := mvs_pure b h.2.2 (by (first | lia | omega))
    have := h.1.2
    have := rows_le a
    have := rows_le b
    refine ⟨⟨trivial, p1, p2, p3, trivial⟩, ?_, by show 4 ≤ 100000; decide, trivial, w1, ⟨by rw [mvs_len]; (first | lia | omega), w2⟩, ⟨by rw [mvs_len]; (first | lia | omega), w3⟩, trivial⟩
    show max 0 (max t.mv.dp (max (dps (mvs a) + 1) (max (dps (mvs b) + 1) 0))) + 1 ≤ 2 * (max (nests a) (nests b) + 1) + 6
    (first | lia | omega)
theorem mvs_pure : ∀ (rs : List Rw), goods rs → (lns rs).length ≤ 100000 → pures (mvs rs) ∧ dps (mvs rs) ≤ 2 * nests rs + 6 ∧ wides (mvs rs)
  | [], _, _ => ⟨trivial, Nat.zero_le _, trivial⟩
  | r :: rs, h, hz => by
    have hz : (r.lines ++ lns rs).length ≤ 100000 := hz
    rw [List.length_append] at hz
    obtain ⟨p1, d1, w1⟩ := r.mv_pure h.1 (by (first | lia | omega))
    obtain ⟨p2, d2, w2⟩ := mvs_pure rs h.2 (by (first | lia | omega))
    refine ⟨⟨p1, p2⟩, ?_, w1, w2⟩
    show max r.mv.dp (dps (mvs rs)) ≤ 2 * max r.nest (nests rs) + 6
    (first | lia | omega)
end
variable {K : KT} (hK : Closed (fnP tab) K)
include hK
theorem ak_tup {xs : List MV} (ih : ∀ x ∈ xs, AK K x) (hz : xs.length ≤ 100000) : AK K (.tup xs) := by
  intro N Q X h hp hN hq
  obtain ⟨M, rfl, hM⟩ := room hN
  have hM : dps xs + 1 ≤ M := hM
  have hp : pures xs := hp
  refine hK _ _ _ _ _ _ fn_law_alike rfl rfl ?_
  conv => whnf
  rw [show ((xs.length : Int) == xs.length) = true by simp]
  conv => whnf
  rw [iter_range1 (by (first | lia | omega)) (by (first | lia | omega))]
  dsimp only
  refine compL_inv (fun i a m => a = [] ∧ ∃ w, m.vars = [some (.tup xs), some (.tup xs), w] ∧ h <+: m.heap) ⟨rfl, none, rfl, pre_self _⟩ (fun _ _ _ _ => trivial) (fun i y a m P hy hI _ hn => ?_) (fun a m hI => ?_)
  · obtain ⟨hi, rfl⟩ := range_at hy
    have hi : i < xs.length := hi
    obtain ⟨vars, hp'⟩ := m
    obtain ⟨rfl, w, rfl, hpre⟩ := hI
    have hx := List.getElem?_eq_getElem hi
    have hpu := pures_get hp hx
    conv => whnf
    rw [pidx_nat (by (first | lia | omega)) (by (first | lia | omega))]
    dsimp only
    rw [show ((i : Nat) : Int).toNat = i from rfl, hx]
    conv => whnf
    rw [pidx_nat (by (first | lia | omega)) (by (first | lia | omega))]
    dsimp only
    rw [show ((i : Nat) : Int).toNat = i from rfl, hx]
    conv => whnf
    refine ih _ (List.getElem_mem hi) hpu.1 (by (first | lia | omega)) fun h' hpre' => ?_
    exact hn _ ⟨rfl, _, rfl, hpre.trans hpre'⟩
  · obtain ⟨vars, hp'⟩ := m
    obtain ⟨rfl, w, rfl, hpre⟩ := hI
    conv => whnf
    exact .nil _ _ [] rfl rfl (get_old (get_last _ _)) (get_last _ _) (hq _ (pre_push (pre_push hpre)))
theorem ak_str {s : List Nat} : AK K (.str s) := by
  intro N Q X h hp hN hq
  obtain ⟨M, rfl, hM⟩ := room hN
  refine hK _ _ _ _ _ _ fn_law_alike rfl rfl ?_
  conv => whnf
  rw [show (s == s) = true by simp]
  exact hq h (pre_self _)
theorem ak_int {i : Int} : AK K (.int i) := by
  intro N Q X h hp hN hq
  obtain ⟨M, rfl, hM⟩ := room hN
  refine hK _ _ _ _ _ _ fn_law_alike rfl rfl ?_
  conv => whnf
  rw [show (i == i) = true by simp]
  exact hq h (pre_self _)
mutual
theorem ak_all : ∀ (x : MV), x.wide → AK K x
  | .tup xs, h => ak_tup hK (aks_all xs h.2) h.1
  | .str s, _ => ak_str hK
  | .int i, _ => ak_int hK
  | .none, _ => fun hp => hp.elim
  | .bool _, _ => fun hp => hp.elim
  | .ref _, _ => fun hp => hp.elim
  | .inst _ _, _ => fun hp => hp.elim
  | .exc _, _ => fun hp => hp.elim
  | .scr _, _ => fun hp => hp.elim
  | .gt _, _ => fun hp => hp.elim
theorem aks_all : ∀ (xs : List MV), wides xs → ∀ x ∈ xs, AK K x
  | [], _, x, h => by cases h
  | y :: xs, hw, x, h => (List.mem_cons.mp h).elim (fun e => e ▸ ak_all y hw.1) fun h => aks_all xs hw.2 x h
end
theorem k_alike {rs : List Rw} {N : Nat} {Q : MV → List MO → Prop} {X : XT} {h : List MO} (hg : goods rs) (hd : nests rs ≤ 7) (hz : (lns rs).length ≤ 100000) (hN : 40 ≤ N) (hq : ∀ h', h <+: h' → Q (.bool true) h') : K N 44 [.tup (mvs rs), .tup (mvs rs)] Q X h := by
  obtain ⟨p, d, w⟩ := mvs_pure rs hg hz
  have := rows_le rs
  refine ak_all hK (.tup (mvs rs)) ⟨by rw [mvs_len]; (first | lia | omega), w⟩ p ?_ hq
  show dps (mvs rs) + 1 < N
  (first | lia | omega)
end Mine
end
section
set_option autoImplicit false
set_option linter.unusedVariables false
set_option tactic.hygienic false
namespace Mine

mutual
theorem deq_self : ∀ d : D, d.deq d = true
  | .none => rfl
  | .bool b => by show (b == b) = true; simp
  | .int i => by show (i == i) = true; simp
  | .str s => by show (s == s) = true; simp
  | .list xs => deqs_self xs
  | .tup xs => deqs_self xs
theorem deqs_self : ∀ ds : List D, D.deqs ds ds = true
  | [] => rfl
  | d :: ds => by show (d.deq d && D.deqs ds ds) = true; rw [deq_self d, deqs_self ds]; rfl
end
noncomputable def Tm.d : Tm → D
  | .num k => .tup [.str sNum, .int k]
  | .nm s => .tup [.str sName, .str s]
  | .op c a b => .tup [.str [c], a.d, b.d]
mutual
noncomputable def Rw.ld : Rw → D
  | .set s t => .tup [.str wSet, .str s, t.d]
  | .tell t => .tup [.str wTell, t.d]
  | .skip => .tup [.str wSkip]
  | .ite t a b => .tup [.str wIf, t.d, .list (lds a), .list (lds b)]
  | .wh t a => .tup [.str wWhile, t.d, .list (lds a)]
noncomputable def lds : List Rw → List D
  | [] => []
  | r :: rs => r.ld :: lds rs
end
theorem Tm.rd {hp : List MO} : ∀ t : Tm, Rd hp t.mv t.d
  | .num k => .tup (.cons (.str _) (.cons (.int _) .nil))
  | .nm s => .tup (.cons (.str _) (.cons (.str _) .nil))
  | .op c a b => .tup (.cons (.str _) (.cons a.rd (.cons b.rd .nil)))
theorem okS_d {s : List Nat} (h : okS s) : D.ok (.str s) = true := h.d
theorem Tm.d_ok : ∀ {t : Tm}, t.ok Gn → t.d.ok = true ∧ t.d.deep ≤ t.deep + 1
  | .num k, h => ⟨rfl, Nat.le_refl _⟩
  | .nm s, h => ⟨by
    show (D.ok (.str sName) && (D.ok (.str s) && true)) = true
    rw [okS_d h.1.ok]; rfl, Nat.le_refl _⟩
  | .op c a b, h => by
    obtain ⟨h1, h2⟩ := a.d_ok h.2.1
    obtain ⟨h3, h4⟩ := b.d_ok h.2.2
    refine ⟨?_, ?_⟩
    · show (D.ok (.str [c]) && (a.d.ok && (b.d.ok && true))) = true
      rw [okS_d (sign_in h.1).2, h1, h3]; rfl
    · show max 0 (max a.d.deep (max b.d.deep 0)) + 1 ≤ max a.deep b.deep + 1 + 1
      (first | lia | omega)
mutual
theorem Rw.ld_ok : ∀ {r : Rw}, r.good → r.ld.ok = true ∧ r.ld.deep ≤ 2 * r.nest + 6
  | .set s t, h => by
    obtain ⟨h1, h2⟩ := t.d_ok h.2.1
    have := h.2.2
    refine ⟨?_, ?_⟩
    · show (D.ok (.str wSet) && (D.ok (.str s) && (t.d.ok && true))) = true
      rw [okS_d h.1.1.ok, h1]; rfl
    · show max 0 (max 0 (max t.d.deep 0)) + 1 ≤ 2 * 0 + 6
      (first | lia | omega)
  | .tell t, h => by
    have h : t.good := h
    obtain ⟨h1, h2⟩ := t.d_ok h.1
    have := h.2
    refine ⟨?_, ?_⟩
    · show (D.ok (.str wTell) && (t.d.ok && true)) = true
      rw [h1]; rfl
    · show max 0 (max t.d.deep 0) + 1 ≤ 2 * 0 + 6
      (first | lia | omega)
  | .skip, h => ⟨rfl, by decide⟩
  | .wh t a, h => by
    obtain ⟨h1, h2⟩ := t.d_ok h.1.1
    obtain ⟨h3, h4⟩ := lds_ok h.2
    have := h.1.2
    refine ⟨?_, ?_⟩
    · show (D.ok (.str wWhile) && (t.d.ok && (D.oks (lds a) && true))) = true
      rw [h1, h3]; rfl
    · show max 0 (max t.d.deep (max (D.deeps (lds a) + 1) 0)) + 1 ≤ 2 * (nests a + 1) + 6
      (first | lia | omega)
  | .ite t a b, h => by
    obtain ⟨h1, h2⟩ := t.d_ok h.1.1
    obtain ⟨h3, h4⟩ := lds_ok h.2.1
    obtain ⟨h5, h6⟩ := lds_ok h.2.2
    have := h.1.2
    refine ⟨?_, ?_⟩
    · show (D.ok (.str wIf) && (t.d.ok && (D.oks (lds a) && (D.oks (lds b) && true)))) = true
      rw [h1, h3, h5]; rfl
    · show max 0 (max t.d.deep (max (D.deeps (lds a) + 1) (max (D.deeps (lds b) + 1) 0))) + 1 ≤ 2 * (max (nests a) (nests b) + 1) + 6
      (first | lia | omega)
theorem lds_ok : ∀ {rs : List Rw}, goods rs → D.oks (lds rs) = true ∧ D.deeps (lds rs) ≤ 2 * nests rs + 6
  | [], _ => ⟨rfl, Nat.zero_le _⟩
  | r :: rs, h => by
    obtain ⟨h1, h2⟩ := Rw.ld_ok h.1
    obtain ⟨h3, h4⟩ := lds_ok h.2
    refine ⟨?_, ?_⟩
    · show (r.ld.ok && D.oks (lds rs)) = true
      rw [h1, h3]; rfl
    · show max r.ld.deep (D.deeps (lds rs)) ≤ 2 * max r.nest (nests rs) + 6
      (first | lia | omega)
end
mutual
theorem Rw.rd {n : Nat} {hp : List MO} : ∀ (r : Rw) (x : MV), r.is true n hp x → Rd hp x r.ld
  | .set s t, x, h => by cases (show x = _ from h); exact .tup (.cons (.str _) (.cons (.str _) (.cons t.rd .nil)))
  | .tell t, x, h => by cases (show x = _ from h); exact .tup (.cons (.str _) (.cons t.rd .nil))
  | .skip, x, h => by cases (show x = _ from h); exact .tup (.cons (.str _) .nil)
  | .ite t a b, x, h => by
    obtain ⟨u, v, rfl, ⟨xs, ⟨i, _, rfl, h2⟩, h3⟩, ys, ⟨j, _, rfl, h4⟩, h5⟩ := h
    exact .tup (.cons (.str _) (.cons t.rd (.cons (.list h2 (rows_rd a xs h3)) (.cons (.list h4 (rows_rd b ys h5)) .nil))))
  | .wh t a, x, h => by
    obtain ⟨u, rfl, xs, ⟨i, _, rfl, h2⟩, h3⟩ := h
    exact .tup (.cons (.str _) (.cons t.rd (.cons (.list h2 (rows_rd a xs h3)) .nil)))
theorem rows_rd {n : Nat} {hp : List MO} : ∀ (rs : List Rw) (xs : List MV), rowsAre true n hp rs xs → Rds hp xs (lds rs)
  | [], xs, h => by cases (show xs = [] from h); exact .nil
  | r :: rs, xs, h => by
    obtain ⟨y, ys, rfl, h2, h3⟩ := h
    exact .cons (r.rd y h2) (rows_rd rs ys h3)
end
theorem eq_blocks {n n' : Nat} {hp : List MO} {rs : List Rw} {u v : MV} (hg : goods rs) (hd : nests rs ≤ 7) (hu : blkIs true n hp rs u) (hv : blkIs true n' hp rs v) {Q : Bool → Prop} (hq : Q true) : EqP hp u v Q := by
  obtain ⟨xs, ⟨i, _, rfl, h1⟩, h2⟩ := hu
  obtain ⟨ys, ⟨j, _, rfl, h3⟩, h4⟩ := hv
  obtain ⟨o1, o2⟩ := lds_ok hg
  refine .mk (.list (lds rs)) (.list (lds rs)) (.list h1 (rows_rd rs xs h2)) (.list h3 (rows_rd rs ys h4)) ?_ o1 o1 ?_
  · show D.deeps (lds rs) + 1 ≤ 1000
    (first | lia | omega)
  · rw [deq_self]; exact hq

variable {K : KT} (hK : Closed (fnP tab) K)
noncomputable def LS (K : KT) (rs : List Rw) : Prop := ∀ {N : Nat} {Q : MV → List MO → Prop} {X : XT} {h : List MO}, (lns rs).length ≤ 100000 → nests rs + 2 ≤ N →
  (∀ h' i, h <+: h' → blkIs true h.length h' rs (.ref i) → Q (.ref i) h') → K N 45 [.tup (mvs rs)] Q X h
noncomputable def LSr (K : KT) (r : Rw) : Prop := match r with
  | .ite _ a b => LS K a ∧ LS K b
  | .wh _ a => LS K a
  | _ => True
noncomputable abbrev lsBody : List MSt := inner (fn_law_lists.body.drop 1)
theorem ls_row {r : Rw} (ih : LSr K r) {M i : Nat} {b : MV} {P : Fl → MS → Prop} {X : XT} {hp : List MO} (hM : r.nest + 1 ≤ M) (hz : r.lines.length ≤ 100000)
    (hq : ∀ hp' y, hp <+: hp' → r.is true hp.length hp' y → wpSs K M (lsBody.drop 1) P (fun c m => X c m.heap) ⟨[some b, some (.ref i), some y], hp'⟩) : wpSs K M lsBody P (fun c m => X c m.heap) ⟨[some b, some (.ref i), some r.mv], hp⟩ := by
  cases r with
  | skip => exact hq hp _ (pre_self _) rfl
  | set s t => exact hq hp _ (pre_self _) rfl
  | tell t => exact hq hp _ (pre_self _) rfl
  | wh t a =>
    have hz : (lns a ++ [wEnd]).length + 1 ≤ 100000 := hz
    rw [List.length_append, List.length_singleton] at hz
    have hM : nests a + 1 + 1 ≤ M := hM
    have ih : LS K a := ih
    conv => whnf
    refine ih (by (first | lia | omega)) (by (first | lia | omega)) fun h' j hpre hb => ?_
    obtain ⟨xs, h1, h2⟩ := hb
    exact hq h' _ hpre ⟨_, rfl, xs, h1, h2⟩
  | ite t a c =>
    have hz : (lns a ++ wElse :: (lns c ++ [wEnd])).length + 1 ≤ 100000 := hz
    rw [List.length_append, List.length_cons, List.length_append, List.length_singleton] at hz
    have hM : max (nests a) (nests c) + 1 + 1 ≤ M := hM
    have ih : LS K a ∧ LS K c := ih
    conv => whnf
    refine ih.1 (by (first | lia | omega)) (by (first | lia | omega)) fun h' j hpre hb => ?_
    conv => whnf
    refine ih.2 (by (first | lia | omega)) (by (first | lia | omega)) fun h2 j2 hpre2 hb2 => ?_
    have hpre : hp <+: h' := hpre
    have hpre2 : h' <+: h2 := hpre2
    have hb : blkIs true hp.length h' a (.ref j) := hb
    have hb2 : blkIs true h'.length h2 c (.ref j2) := hb2
    exact hq h2 _ (hpre.trans hpre2) ⟨_, _, rfl, hb.up hpre2, hb2.stay ⟨hpre.length_le, fun _ _ _ e => e⟩⟩
include hK
theorem ls_of {rs : List Rw} (ih : ∀ r ∈ rs, LSr K r) : LS K rs := by
  intro N Q X h hz hN hq
  obtain ⟨M, rfl, hM⟩ := room (k := nests rs + 1) (show _ < N by (first | lia | omega))
  refine hK _ _ _ _ _ _ fn_law_lists rfl rfl ?_
  conv => whnf
  refine forL_inv (fun j m => ∃ w hp ys, m = ⟨[some (.tup (mvs rs)), some (.ref h.length), w], hp⟩ ∧ h <+: hp ∧ hp[h.length]? = some (.list ys) ∧ rowsAre true (h.length + 1) hp (rs.take j) ys) (fun _ _ => False) ⟨_, _, [], rfl, pre_push (pre_self _), get_last _ _, rfl⟩ (fun _ _ _ => trivial) (fun j x m P hx hI hn _ _ => ?_) (fun m hI => ?_) (fun _ _ h => h.elim)
  · obtain ⟨w, hp, ys, rfl, hp1, hp2, hp3⟩ := hI
    obtain ⟨r, hr, rfl⟩ := mvs_get hx
    have hmem := List.mem_of_getElem? hr
    have hle : (lns (rs.take (j + 1))).length ≤ 100000 := Nat.le_trans (lns_take_le rs _) hz
    rw [take_next hr, lns_app, lns_one, List.length_append] at hle
    have hlt : h.length < hp.length := (List.getElem?_eq_some_iff.mp hp2).1
    refine ls_row (ih r hmem) (by have := nests_mem (Nat.le_refl (nests rs)) r hmem; (first | lia | omega)) (by (first | lia | omega)) fun hp' y hpre hy => ?_
    have hat := pre_at hpre hp2
    conv => whnf
    rw [ok_append hat]
    conv => whnf
    dsimp only
    rw [lst_at hat]
    conv => whnf
    have hys := are_len hp3
    have hys2 : (rs.take j).length ≤ (lns (rs.take j)).length := rows_le _
    refine ⟨Nat.lt_of_lt_of_le (show ys.length < 100001 by (first | lia | omega)) (le_line (by decide)), ?_⟩
    have st : Stay (h.length + 1) (h.length + 1) hp' (hp'.set h.length (.list (ys ++ [y]))) := ⟨Nat.le_refl _, fun i o hi e => set_other (by (first | lia | omega)) e⟩
    refine hn _ ⟨_, _, ys ++ [y], rfl, pre_set (hp1.trans hpre) (Nat.le_refl _), get_set hat, ?_⟩
    rw [take_next hr]
    refine are_snoc (rowsAre_up st _ _ (rowsAre_up (.pre hpre) _ _ hp3)) (r.is_up st y (r.is_up ⟨hlt, fun _ _ _ e => e⟩ y hy))
  · obtain ⟨w, hp, ys, rfl, hp1, hp2, hp3⟩ := hI
    rw [mvs_len, List.take_length] at hp3
    exact hq hp _ hp1 ⟨ys, ⟨_, Nat.le_refl _, rfl, hp2⟩, rowsAre_up ⟨Nat.le_succ _, fun _ _ _ e => e⟩ _ _ hp3⟩
mutual
theorem lsr_all : ∀ r : Rw, LSr K r
  | .set s t => trivial
  | .tell t => trivial
  | .skip => trivial
  | .ite t a b => ⟨ls_of hK (lsrs_all a), ls_of hK (lsrs_all b)⟩
  | .wh t a => ls_of hK (lsrs_all a)
theorem lsrs_all : ∀ rs : List Rw, ∀ r ∈ rs, LSr K r
  | [], r, h => by cases h
  | q :: rs, r, h => (List.mem_cons.mp h).elim (fun e => e ▸ lsr_all q) fun h => lsrs_all rs r h
end
end Mine
end
section
set_option autoImplicit false
set_option linter.unusedVariables false
set_option tactic.hygienic false
namespace Mine
variable {K : KT}

noncomputable def PB (K : KT) (n : Nat) (X : XM) (m : MS) (e : ME) : Prop := ∀ Q : PQ, (∀ b, Q (.bool b) m) → wpE K n e Q X m
theorem pb_and {n : Nat} {X : XM} {m : MS} : ∀ {es : List ME}, es ≠ [] → (∀ e ∈ es, PB K n X m e) → PB K n X m (.and es)
  | [], h, _ => absurd rfl h
  | [e], _, h => fun Q hq => h e (.head _) Q hq
  | e :: e' :: es, _, h => fun Q hq => by
    have ih := pb_and (es := e' :: es) (List.cons_ne_nil _ _) fun x hx => h x (.tail _ hx)
    refine h e (.head _) _ fun b => ?_
    cases b with
    | true => exact ih Q hq
    | false => exact hq false
theorem pb_or {n : Nat} {X : XM} {m : MS} : ∀ {es : List ME}, es ≠ [] → (∀ e ∈ es, PB K n X m e) → PB K n X m (.or es)
  | [], h, _ => absurd rfl h
  | [e], _, h => fun Q hq => h e (.head _) Q hq
  | e :: e' :: es, _, h => fun Q hq => by
    have ih := pb_or (es := e' :: es) (List.cons_ne_nil _ _) fun x hx => h x (.tail _ hx)
    refine h e (.head _) _ fun b => ?_
    cases b with
    | true => exact hq true
    | false => exact ih Q hq
theorem pb_two {n : Nat} {X : XM} {m : MS} {a b : ME} (ha : PB K n X m a) (hb : PB K n X m b) : PB K n X m (.and [a, b]) ∧ PB K n X m (.or [a, b]) := by
  have h : ∀ e ∈ [a, b], PB K n X m e := fun e he => by
    rcases List.mem_cons.mp he with rfl | he
    · exact ha
    · rw [List.mem_singleton.mp he]; exact hb
  exact ⟨pb_and (List.cons_ne_nil _ _) h, pb_or (List.cons_ne_nil _ _) h⟩
theorem pb_three {n : Nat} {X : XM} {m : MS} {a b c : ME} (ha : PB K n X m a) (hb : PB K n X m b) (hc : PB K n X m c) : PB K n X m (.and [a, b, c]) := pb_and (List.cons_ne_nil _ _) fun e he => by
    rcases List.mem_cons.mp he with rfl | he
    · exact ha
    · rcases List.mem_cons.mp he with rfl | he
      · exact hb
      · rw [List.mem_singleton.mp he]; exact hc
theorem pb_not {n : Nat} {X : XM} {m : MS} {a : ME} (ha : PB K n X m a) : PB K n X m (.not a) := fun Q hq => ha _ fun b => hq _
theorem pb_ite {n : Nat} {X : XM} {m : MS} {c : ME} {a b : List MSt} {Q : Fl → MS → Prop} (hc : PB K n X m c) (ha : wpSs K n a Q X m) (hb : wpSs K n b Q X m) : wpS K n (.ite c a b) Q X m :=
  hc _ fun t => by
    cases t with
    | true => exact ha
    | false => exact hb
theorem pb_div {n i : Nat} {X : XM} {m : MS} {x : Int} (hv : m.get i = some (.int x)) {a b c : Int} (ha : 0 < a ∧ a < 2 ^ 30) (hb : 0 < b) (op : Cmp) (hop : op = .eq ∨ op = .gt) : PB K n X m (.cmp op (.bin .mod (.bin .fdiv (.var i) (.cst (.int a))) (.cst (.int b))) (.cst (.int c))) := fun Q hq => by
  show wpE K n (.var i) _ X m
  refine e_var hv ?_
  conv => whnf
  refine ⟨ha, ?_⟩
  conv => whnf
  refine ⟨hb, ?_⟩
  rcases hop with rfl | rfl
  · exact hq _
  · exact hq _
theorem pb_int {n i : Nat} {X : XM} {m : MS} {x : Int} (hv : m.get i = some (.int x)) {c : Int} (op : Cmp) (hop : op = .eq ∨ op = .gt ∨ op = .lt) : PB K n X m (.cmp op (.var i) (.cst (.int c))) := fun Q hq => by
  show wpE K n (.var i) _ X m
  refine e_var hv ?_
  rcases hop with rfl | rfl | rfl
  · exact hq _
  · exact hq _
  · exact hq _
theorem pb_var {n i : Nat} {X : XM} {m : MS} {x : Bool} (hv : m.get i = some (.bool x)) : PB K n X m (.var i) := fun Q hq => by
  exact e_var hv (hq _)

variable (hK : Closed (fnP tab) K)
include hK
theorem k_lan : ∀ (t : Tm) {N : Nat} {Q : MV → List MO → Prop} {X : XT} {h : List MO}, t.good → t.deep < N → (∀ (h' : List MO) (i : Nat) (ss : List (List Nat)), h <+: h' → h'[i]? = some (.list (ss.map .str)) → (∀ s ∈ ss, okS s) → ss.length ≤ t.lv → Q (.ref i) h') → K N 37 [t.mv] Q X h
  | .num k, N, Q, X, h, ht, hN, hq => by
    obtain ⟨M, rfl, hM⟩ := room hN
    refine hK _ _ _ _ _ _ fn_law_all_names rfl rfl ?_
    exact hq _ _ [] (pre_push (pre_self _)) (get_last _ _) (fun s hs => by cases hs) (Nat.zero_le _)
  | .nm s, N, Q, X, h, ht, hN, hq => by
    obtain ⟨M, rfl, hM⟩ := room hN
    refine hK _ _ _ _ _ _ fn_law_all_names rfl rfl ?_
    exact hq _ _ [s] (pre_push (pre_self _)) (get_last _ _) (fun x hx => by rw [List.mem_singleton.mp hx]; exact ht.1.1.ok) (Nat.le_refl _)
  | .op c a b, N, Q, X, h, ht, hN, hq => by
    obtain ⟨ga, gb⟩ := ht.sub
    have la := a.lv_le
    have lb := b.lv_le
    have h3 : 2 ^ a.deep ≤ 2 ^ 3 := Nat.pow_le_pow_right (by decide) ga.2
    have h4 : 2 ^ b.deep ≤ 2 ^ 3 := Nat.pow_le_pow_right (by decide) gb.2
    have hN : max a.deep b.deep + 1 < N := hN
    obtain ⟨M, rfl, hM⟩ := room hN
    refine hK _ _ _ _ _ _ fn_law_all_names rfl rfl ?_
    conv => whnf
    rw [show ([c] == sNum) = false by simp]
    conv => whnf
    rw [show ([c] == sName) = false by simp]
    conv => whnf
    refine k_lan a ga (by (first | lia | omega)) fun h1 i x p1 e1 o1 l1 => ?_
    conv => whnf
    refine k_lan b gb (by (first | lia | omega)) fun h2 j y p2 e2 o2 l2 => ?_
    conv => whnf
    dsimp only
    rw [pre_at p2 e1, e2]
    refine ⟨len_add (by (first | lia | omega)), ?_⟩
    refine hq _ _ (x ++ y) (pre_push (p1.trans p2)) (get_add _ _ _) (fun s hs => ?_) ?_
    · rcases List.mem_append.mp hs with hs | hs
      · exact o1 s hs
      · exact o2 s hs
    · rw [List.length_append]; exact Nat.add_le_add l1 l2
noncomputable def Part (ss : List (List Nat)) (hp : List MO) (i : Nat) : Prop := ∃ sl : List (List Nat), hp[i]? = some (.list (sl.map .str)) ∧ ∀ s ∈ sl, s ∈ ss
omit hK in
theorem Part.up {ss : List (List Nat)} {hp hp' : List MO} {i : Nat} (h : Part ss hp i) (e : hp <+: hp') : Part ss hp' i := let ⟨sl, h1, h2⟩ := h; ⟨sl, pre_at e h1, h2⟩
omit hK in
theorem part_of_drop {ss : List (List Nat)} (hp : List MO) (k : Nat) : Part ss (hp ++ [.list ((ss.map MV.str).drop k)]) hp.length := ⟨ss.drop k, by rw [get_last, List.map_drop], fun s hs => List.mem_of_mem_drop hs⟩
omit hK in
theorem part_of_take {ss : List (List Nat)} (hp : List MO) (k : Nat) : Part ss (hp ++ [.list ((ss.map MV.str).take k)]) hp.length := ⟨ss.take k, by rw [get_last, List.map_take], fun s hs => List.mem_of_mem_take hs⟩
theorem k_rowby {r : Nat} {ss : List (List Nat)} {more mode : Int} {dark : Bool} {N : Nat} {Q : MV → List MO → Prop} {X : XT} {h : List MO} (hr : h[r]? = some (.list (ss.map .str))) (hs : ∀ s ∈ ss, Gn s) (hN : 8 ≤ N) (hq : ∀ (h' : List MO) (t : Tm) (b : Bool), h <+: h' → t.good → Q (.tup [t.mv, .bool b]) h') :
    K N 38 [.ref r, .int more, .bool dark, .int mode] Q X h := by
  obtain ⟨M, rfl, hM⟩ := room (k := 7) (show 7 < N by (first | lia | omega))
  have last : ∀ hp i4 i5, h <+: hp → Part ss hp i4 → Part ss hp i5 → wpSs K M (fn_law_row_by.body.drop 4) (fin Q) (fun c m => X c m.heap) ⟨[some (.ref r), some (.int more), some (.bool dark), some (.int mode), some (.ref i4), some (.ref i5), none, none], hp⟩ := by
    intro hp i4 i5 hpre h4 h5
    obtain ⟨s4, e4, m4⟩ := h4
    obtain ⟨s5, e5, m5⟩ := h5
    have go : ∀ d : Bool, wpSs K M [.asg [6] false (.call 11 [.var 1, .var 5, .var 4, .cst (.bool d), .bin .add (.cst (.int 1)) (.bin .mod (.bin .fdiv (.var 1) (.cst (.int 24))) (.cst (.int 4)))]), fn_law_row_by.body.getLast (by decide)] (fin Q) (fun c m => X c m.heap) ⟨[some (.ref r), some (.int more), some (.bool dark), some (.int mode), some (.ref i4), some (.ref i5), none, none], hp⟩ := by
      intro d
      conv => whnf
      refine ⟨by decide, ?_⟩
      conv => whnf
      refine ⟨by decide, ?_⟩
      conv => whnf
      have hL : 0 ≤ more / 24 % 4 ∧ more / 24 % 4 < 4 := by (first | lia | omega)
      obtain ⟨M', rfl⟩ : ∃ M', M = M' + (more / 24 % 4).toNat + 2 := ⟨M - (more / 24 % 4).toNat - 2, by (first | lia | omega)⟩
      refine k_formula hK (more / 24 % 4).toNat (by (first | lia | omega)) e5 e4 (fun s h => (hs s (m5 s h)).1.ok) (fun s h => (hs s (m4 s h)).1.ok) fun t h1 ht hd hpre1 => ?_
      have hg : t.good := ⟨ht.mono fun s h => h.elim (fun h => hs s (m5 s h)) fun h => hs s (m4 s h), by (first | lia | omega)⟩
      have hpre1 : hp <+: h1 := hpre1
      conv => whnf
      refine k_lan hK t hg (by have := hg.2; (first | lia | omega)) fun h2 i x p2 e2 o2 l2 => ?_
      have p2 : h1 <+: h2 := p2
      conv => whnf
      dsimp only
      rw [iter_list e2]
      dsimp only
      have hpre2 := (hpre.trans hpre1).trans p2
      refine compL_inv (fun j a m => ∃ w, m.vars = [some (.ref r), some (.int more), some (.bool dark), some (.int mode), some (.ref i4), some (.ref i5), some t.mv, w] ∧ h2 <+: m.heap) ⟨none, rfl, pre_self _⟩ (fun _ _ m hI => by obtain ⟨_, _, h⟩ := hI; exact pre_at h e2) (fun j y a m P hy hI h1 h2' => ?_) (fun a m hI => ?_)
      · obtain ⟨vars, hp'⟩ := m
        obtain ⟨w, rfl, hp1⟩ := hI
        obtain ⟨s, es, rfl⟩ := Option.map_eq_some_iff.mp (List.getElem?_map .. ▸ hy)
        have hp1 : h2 <+: hp' := hp1
        conv => whnf
        dsimp only [MS.set]
        rw [pre_at (hpre2.trans hp1) hr]
        conv => whnf
        dsimp only [MS.set, MS.push]
        rw [get_last]
        conv => whnf
        rw [pslice_from (by decide), ← List.map_drop]
        refine in_strs (o2 s (List.mem_of_getElem? es)) (fun s h => (hs s (List.mem_of_mem_drop h)).1.ok) ?_
        cases (List.drop (5 : Int).toNat ss).contains s with
        | true => exact h1 _ _ ⟨_, rfl, pre_push hp1⟩
        | false => exact h2' _ ⟨_, rfl, pre_push hp1⟩
      · obtain ⟨vars, hp'⟩ := m
        obtain ⟨w, rfl, hp1⟩ := hI
        conv => whnf
        exact .nil _ _ a rfl rfl (get_old (get_last _ _)) (get_last _ _) (hq _ t _ (pre_push (pre_push (hpre2.trans hp1))) hg)
    conv => whnf
    cases decide (0 < mode) with
    | true => exact go true
    | false =>
      conv => whnf
      cases dark with
      | true => exact go false
      | false => exact go true
  have third : ∀ hp i4 i5, h <+: hp → Part ss hp i4 → Part ss hp i5 → wpSs K M (fn_law_row_by.body.drop 3) (fin Q) (fun c m => X c m.heap) ⟨[some (.ref r), some (.int more), some (.bool dark), some (.int mode), some (.ref i4), some (.ref i5), none, none], hp⟩ := by
    intro hp i4 i5 hpre h4 h5
    show wpS K M _ _ _ _
    exact pb_ite (pb_int rfl .gt (.inr (.inl rfl))) (last hp i5 i5 hpre h5 h5) (last hp i4 i5 hpre h4 h5)
  have second : ∀ hp i4, h <+: hp → Part ss hp i4 → wpSs K M (fn_law_row_by.body.drop 2) (fin Q) (fun c m => X c m.heap) ⟨[some (.ref r), some (.int more), some (.bool dark), some (.int mode), some (.ref i4), some (.ref r), none, none], hp⟩ := by
    intro hp i4 hpre h4
    have hr' := pre_at hpre hr
    show wpS K M _ _ _ _
    refine pb_ite (pb_two (pb_two (pb_int rfl .eq (.inl rfl)) (pb_div rfl (by decide) (by decide) .eq (.inl rfl))).1 (pb_three (pb_int rfl .eq (.inl rfl)) (pb_var rfl) (pb_div rfl (by decide) (by decide) .gt (.inr rfl)))).2 (third _ _ _ hpre h4 h4) ?_
    show wpS K M _ _ _ _
    refine pb_ite (pb_int rfl .eq (.inl rfl)) ?_ (third _ _ _ hpre h4 ⟨ss, hr', fun s h => h⟩)
    conv => whnf
    dsimp only
    rw [hr']
    conv => whnf
    rw [pslice_from (by decide)]
    exact third _ _ _ (pre_push hpre) (h4.up (pre_push (pre_self _))) (part_of_drop _ _)
  refine hK _ _ _ _ _ _ fn_law_row_by rfl rfl ?_
  conv => whnf
  dsimp only [start]
  rw [hr]
  have e : Part ss (h ++ [.list (pslice (ss.map MV.str) none (some 5))]) h.length := by rw [pslice_to (by decide)]; exact part_of_take h _
  exact second _ _ (pre_push (pre_self h)) e
end Mine
end
section
set_option autoImplicit false
set_option linter.unusedVariables false
set_option tactic.hygienic false
namespace Mine

structure Fr where
  a : Nat
  ra : Nat
  wd : List Nat
  t : Option Tm
  rows : List Rw
  sec : Bool
  fst : Option (List Rw)
noncomputable def oT : Option Tm → MV
  | none => .none
  | some t => t.mv
noncomputable def oR : Option (List Rw) → MV
  | none => .none
  | some rs => .tup (mvs rs)
noncomputable def Fr.cells (f : Fr) : List MV := [.str f.wd, oT f.t, .ref f.ra, .bool f.sec, oR f.fst]
noncomputable def FrAt (hp : List MO) (f : Fr) : Prop := hp[f.a]? = some (.list f.cells) ∧ hp[f.ra]? = some (.list (mvs f.rows))
noncomputable def refs (fs : List Fr) : List MV := fs.map fun f => .ref f.a
structure Stk (L : Nat) (hp : List MO) (st : Nat) (fs : List Fr) : Prop where
  at_ : hp[st]? = some (.list (refs fs))
  fr : ∀ f ∈ fs, FrAt hp f
  pw : fs.Pairwise fun f g => f.a < g.ra
  ne : ∀ f ∈ fs, f.ra < f.a ∧ f.ra ≠ st ∧ f.a ≠ st ∧ L ≤ f.ra
  lo : L ≤ st
theorem FrAt.set {hp : List MO} {f : Fr} (h : FrAt hp f) {i : Nat} {o : MO} (h1 : i ≠ f.a) (h2 : i ≠ f.ra) : FrAt (hp.set i o) f := ⟨set_other h1 h.1, set_other h2 h.2⟩
theorem FrAt.up {hp hp' : List MO} {f : Fr} (h : FrAt hp f) (e : hp <+: hp') : FrAt hp' f := ⟨pre_at e h.1, pre_at e h.2⟩
section
variable {L st : Nat} {hp hp' : List MO} {fs gs : List Fr} {f : Fr}
theorem Stk.up (h : Stk L hp st fs) (e : hp <+: hp') : Stk L hp' st fs := ⟨pre_at e h.at_, fun f hf => (h.fr f hf).up e, h.pw, h.ne, h.lo⟩
theorem Stk.other (h : Stk L hp st fs) {i : Nat} {o : MO} (h1 : i ≠ st) (h2 : ∀ f ∈ fs, i ≠ f.a ∧ i ≠ f.ra) : Stk L (hp.set i o) st fs := ⟨set_other h1 h.at_, fun f hf => (h.fr f hf).set (h2 f hf).1 (h2 f hf).2, h.pw, h.ne, h.lo⟩
theorem Stk.last (h : Stk L hp st (gs ++ [f])) : ∀ g ∈ gs, g.a < f.ra := fun g hg => (List.pairwise_append.mp h.pw).2.2 g hg f (List.mem_singleton.mpr rfl)
theorem Stk.pop (h : Stk L hp st (gs ++ [f])) : Stk L (hp.set st (.list (refs gs))) st gs ∧ FrAt (hp.set st (.list (refs gs))) f := by
  have hm : ∀ g ∈ gs, g ∈ gs ++ [f] := fun g hg => List.mem_append_left _ hg
  have hf : f ∈ gs ++ [f] := List.mem_append_right _ (List.mem_singleton.mpr rfl)
  exact ⟨⟨get_set h.at_, fun g hg => (h.fr g (hm g hg)).set (h.ne g (hm g hg)).2.2.1.symm (h.ne g (hm g hg)).2.1.symm, (List.pairwise_append.mp h.pw).1, fun g hg => h.ne g (hm g hg), h.lo⟩, (h.fr f hf).set (h.ne f hf).2.2.1.symm (h.ne f hf).2.1.symm⟩
theorem Stk.push (h : Stk L hp st gs) (hf : FrAt hp f) (h1 : ∀ g ∈ gs, g.a < f.ra) (h2 : f.ra < f.a ∧ f.ra ≠ st ∧ f.a ≠ st ∧ L ≤ f.ra) : Stk L (hp.set st (.list (refs gs ++ [.ref f.a]))) st (gs ++ [f]) := by
  refine ⟨?_, fun g hg => ?_, List.pairwise_append.mpr ⟨h.pw, List.pairwise_singleton .., fun g hg x hx => by rw [List.mem_singleton.mp hx]; exact h1 g hg⟩, fun g hg => ?_, h.lo⟩
  · rw [show refs (gs ++ [f]) = refs gs ++ [.ref f.a] by simp [refs]]; exact get_set h.at_
  · rcases List.mem_append.mp hg with hg | hg
    · exact (h.fr g hg).set (h.ne g hg).2.2.1.symm (h.ne g hg).2.1.symm
    · rw [List.mem_singleton.mp hg]; exact hf.set h2.2.2.1.symm h2.2.1.symm
  · rcases List.mem_append.mp hg with hg | hg
    · exact h.ne g hg
    · rw [List.mem_singleton.mp hg]; exact h2
theorem Stk.add (h : Stk L hp st (gs ++ [f])) (r : Rw) : Stk L (hp.set f.ra (.list (mvs f.rows ++ [r.mv]))) st (gs ++ [{ f with rows := f.rows ++ [r] }]) := by
  have hf : f ∈ gs ++ [f] := List.mem_append_right _ (List.mem_singleton.mpr rfl)
  have hn := h.ne f hf
  have hl := h.last
  have hm : ∀ g ∈ gs, g ∈ gs ++ [f] := fun g hg => List.mem_append_left _ hg
  refine ⟨?_, fun g hg => ?_, ?_, fun g hg => ?_, h.lo⟩
  · have := set_other (o' := .list (mvs f.rows ++ [r.mv])) hn.2.1 h.at_
    rw [this]; simp [refs]
  · rcases List.mem_append.mp hg with hg | hg
    · have h1 := hl g hg
      have h2 := (h.ne g (hm g hg)).1
      exact (h.fr g (hm g hg)).set (by (first | lia | omega)) (by (first | lia | omega))
    · rw [List.mem_singleton.mp hg]
      refine ⟨set_other (by show f.ra ≠ f.a; (first | lia | omega)) (h.fr f hf).1, ?_⟩
      show (hp.set f.ra _)[f.ra]? = some (.list (mvs (f.rows ++ [r])))
      rw [mvs_app]; exact get_set (h.fr f hf).2
  · have := List.pairwise_append.mp h.pw
    exact List.pairwise_append.mpr ⟨this.1, List.pairwise_singleton .., fun g hg x hx => by rw [List.mem_singleton.mp hx]; exact hl g hg⟩
  · rcases List.mem_append.mp hg with hg | hg
    · exact h.ne g (hm g hg)
    · rw [List.mem_singleton.mp hg]; exact hn
end

structure FOk (i : Nat) (f : Fr) : Prop where
  good : goods f.rows
  nest : nests f.rows + i ≤ 7
  fst : ∀ rs, f.fst = some rs → goods rs ∧ nests rs + i ≤ 7
  kind : i = 0 ∨ ∃ t, f.t = some t ∧ t.good ∧ (f.wd = wIf ∨ (f.wd = wWhile ∧ f.fst = none))
noncomputable def Oks (fs : List Fr) : Prop := ∀ i f, fs[i]? = some f → FOk i f
noncomputable def Fr.wt (f : Fr) : Nat := (lns f.rows).length + (match f.fst with
  | some rs => (lns rs).length
  | none => 0) + 4
noncomputable def wts (fs : List Fr) : Nat := (fs.map Fr.wt).sum
noncomputable def Fr.cl (f : Fr) : Nat := match f.fst with
  | none => if f.wd = wIf then 2 else 1
  | some _ => 1
noncomputable def cls (fs : List Fr) : Nat := (fs.map Fr.cl).sum
theorem wts_snoc (gs : List Fr) (f : Fr) : wts (gs ++ [f]) = wts gs + f.wt := by simp [wts]
theorem cls_snoc (gs : List Fr) (f : Fr) : cls (gs ++ [f]) = cls gs + f.cl := by simp [cls]
theorem Oks.init {gs : List Fr} {f : Fr} (h : Oks (gs ++ [f])) : Oks gs ∧ FOk gs.length f :=
  ⟨fun i g e => h i g (get_old e), h _ _ (get_last gs f)⟩
theorem Oks.snoc {gs : List Fr} {f : Fr} (h : Oks gs) (hf : FOk gs.length f) : Oks (gs ++ [f]) := fun i g e => by
  rcases Nat.lt_or_ge i gs.length with q | q
  · rw [List.getElem?_append_left q] at e; exact h i g e
  · have hi : i < (gs ++ [f]).length := (List.getElem?_eq_some_iff.mp e).1
    rw [List.length_append, List.length_singleton] at hi
    have : i = gs.length := by (first | lia | omega)
    subst this
    rw [get_last] at e; cases e; exact hf
theorem FOk.add {i : Nat} {f : Fr} (h : FOk i f) {r : Rw} (hg : r.good) (hn : r.nest + i ≤ 7) : FOk i { f with rows := f.rows ++ [r] } := by
  refine ⟨goods_app h.good ⟨hg, trivial⟩, ?_, h.fst, h.kind⟩
  have h1 := h.nest
  have : nests (f.rows ++ [r]) ≤ 7 - i := nests_app (by (first | lia | omega)) (by show max r.nest 0 ≤ _; (first | lia | omega))
  show nests (f.rows ++ [r]) + i ≤ 7
  have : i ≤ 7 := by (first | lia | omega)
  (first | lia | omega)
theorem wt_add (f : Fr) (r : Rw) : ({ f with rows := f.rows ++ [r] } : Fr).wt = f.wt + r.lines.length := by
  unfold Fr.wt
  dsimp only
  rw [lns_app, lns_one, List.length_append]; (first | lia | omega)
theorem snoc_of {α : Type} {l : List α} (h : l ≠ []) : ∃ gs f, l = gs ++ [f] := ⟨l.dropLast, l.getLast h, (List.dropLast_concat_getLast h).symm⟩

variable {K : KT} (hK : Closed (fnP tab) K)
include hK
omit hK in
theorem ok_pop {hp : List MO} {r : Nat} {xs : List MV} (e : hp[r]? = some (.list xs)) : mthOk .pop (.ref r) hp = true := by
  simp only [mthOk, lst, e, Option.isSome_some]
omit hK in
theorem rows_lt {f : Fr} {B : Nat} (h : f.wt ≤ B) (hB : B ≤ 2000) : (mvs f.rows).length < line := by
  have h1 := rows_le f.rows
  have h2 : (lns f.rows).length ≤ f.wt := by unfold Fr.wt; (first | lia | omega)
  exact Nat.lt_of_lt_of_le (show (mvs f.rows).length < 2001 by rw [mvs_len]; (first | lia | omega)) (le_line (by decide))
noncomputable abbrev topRow (e : ME) : MSt := .expr (.mth .append (.idx (.idx (.var 0) (.neg (.cst (.int 1)))) (.cst (.int 2))) [e])
omit hK in
theorem pidx_last {α : Type} (gs : List α) (f : α) : pidx (-1) (gs ++ [f]).length = some gs.length := by
  rw [List.length_append, List.length_singleton]
  unfold pidx
  rw [decide_eq_false (show ¬ (0 : Int) ≤ -1 by decide), decide_eq_true (show -(((gs.length + 1 : Nat)) : Int) ≤ -1 by (first | lia | omega))]
  show some (-1 + ((gs.length + 1 : Nat) : Int)).toNat = some gs.length
  congr 1; (first | lia | omega)
omit hK in
theorem top_row {L st : Nat} {hp : List MO} {gs : List Fr} {f : Fr} {B M : Nat} (S : Stk L hp st (gs ++ [f])) (hB : f.wt ≤ B) (hB' : B ≤ 2000) {r : Rw} {e : ME} {vs : List (Option MV)} {X : XM} {Q : Fl → MS → Prop} (he : ∀ Q : PQ, Q r.mv ⟨some (.ref st) :: vs, hp⟩ → wpE K M e Q X ⟨some (.ref st) :: vs, hp⟩)
    (hq : Q .next ⟨some (.ref st) :: vs, hp.set f.ra (.list (mvs f.rows ++ [r.mv]))⟩) : wpS K M (topRow e) Q X ⟨some (.ref st) :: vs, hp⟩ := by
  have hf := S.fr f (List.mem_append_right _ (List.mem_singleton.mpr rfl))
  have e1 : refs (gs ++ [f]) = refs gs ++ [.ref f.a] := by simp [refs]
  conv => whnf
  dsimp only
  rw [S.at_, e1]
  conv => whnf
  rw [pidx_last]
  dsimp only
  rw [get_last]
  conv => whnf
  dsimp only
  rw [hf.1]
  conv => whnf
  rw [ok_append hf.2]
  show wpE K M e _ X _
  refine he _ ?_
  conv => whnf
  dsimp only
  rw [lst_at hf.2]
  exact ⟨rows_lt hB hB', hq⟩
omit hK in
theorem Tm.first (t : Tm) : ∃ s r, t.mv = .tup (.str s :: r) ∧ s = (match t with | .num _ => sNum | .nm _ => sName | .op c _ _ => [c]) := by
  cases t <;> exact ⟨_, _, rfl, rfl⟩
theorem k_closed {L st : Nat} {hp : List MO} {gs : List Fr} {f : Fr} {B N : Nat} (S : Stk L hp st (gs ++ [f])) (O : Oks (gs ++ [f])) (hg : gs ≠ []) (hB : wts (gs ++ [f]) ≤ B) (hB' : B ≤ 2000) {Q : MV → List MO → Prop} {X : XT}
    (hq : ∀ hp' fs', Stk L hp' st fs' → Oks fs' → fs' ≠ [] → fs'.length ≤ (gs ++ [f]).length → wts fs' ≤ wts (gs ++ [f]) → cls fs' < cls (gs ++ [f]) → (∀ h0 : List MO, h0.length ≤ L → h0 <+: hp → h0 <+: hp') → Q .none hp') : K (N + 1) 39 [.ref st] Q X hp := by
  obtain ⟨S1, F1⟩ := S.pop
  obtain ⟨O1, hf⟩ := O.init
  have e1 : refs (gs ++ [f]) = refs gs ++ [.ref f.a] := by simp [refs]
  have hlo := S.lo
  have hfm : f ∈ gs ++ [f] := List.mem_append_right _ (List.mem_singleton.mpr rfl)
  have hn := S.ne f hfm
  have hlast := S.last
  obtain ⟨t, et, ht, hkind⟩ := hf.kind.resolve_left (fun q => hg (List.eq_nil_of_length_eq_zero q))
  obtain ⟨gs', g, eg⟩ := snoc_of hg
  rw [wts_snoc] at hB
  have hsz : ∀ h0 : List MO, h0.length ≤ L → h0 <+: hp → h0 <+: hp.set st (.list (refs gs)) := fun h0 h1 h2 => pre_set h2 (by (first | lia | omega))
  refine hK _ _ _ _ _ _ fn_law_closed rfl rfl ?_
  conv => whnf
  dsimp only [start]
  rw [ok_pop S.at_]
  conv => whnf
  dsimp only [start]
  rw [lst_at S.at_]
  conv => whnf
  refine ⟨rfl, ?_⟩
  dsimp only
  rw [e1, show (refs gs ++ [MV.ref f.a])[(refs gs ++ [MV.ref f.a]).length - 1]? = some (.ref f.a) by simp, List.dropLast_concat]
  change wpSs K N (fn_law_closed.body.drop 1) (fin Q) _ ⟨[some (.ref st), some (.ref f.a)], hp.set st (.list (refs gs))⟩
  generalize hp.set st (.list (refs gs)) = hp1 at *
  have fin_row : ∀ (hp2 : List MO) (r : Rw), Stk L hp2 st gs → (∀ h0 : List MO, h0.length ≤ L → h0 <+: hp → h0 <+: hp2) → r.good → r.nest + gs'.length ≤ 7 → r.lines.length ≤ f.wt → Q .none (hp2.set g.ra (.list (mvs g.rows ++ [r.mv]))) := by
    intro hp2 r S2 h2 hr hnr hl
    subst eg
    have hgm : g ∈ gs' ++ [g] := List.mem_append_right _ (List.mem_singleton.mpr rfl)
    have hgl := (S2.ne g hgm).2.2.2
    obtain ⟨O2, hg2⟩ := O1.init
    refine hq _ _ (S2.add r) (O2.snoc (hg2.add hr hnr)) (by simp) (by simp) ?_ ?_ fun h0 q1 q2 => pre_set (h2 h0 q1 q2) (by (first | lia | omega))
    · rw [wts_snoc, wts_snoc, wts_snoc, wt_add]; (first | lia | omega)
    · rw [cls_snoc, cls_snoc, cls_snoc]
      have : ({ g with rows := g.rows ++ [r] } : Fr).cl = g.cl := rfl
      rw [this]
      have : 1 ≤ f.cl := by unfold Fr.cl; split <;> (try split) <;> (first | lia | omega)
      (first | lia | omega)
  have hgl : gs.length = gs'.length + 1 := by rw [eg]; simp
  have hwt : (lns f.rows).length + 4 ≤ f.wt := by unfold Fr.wt; (first | lia | omega)
  have hnest := hf.nest
  have hgw : g.wt ≤ B := by rw [eg, wts_snoc] at hB; (first | lia | omega)
  have cell : f.cells = [.str f.wd, t.mv, .ref f.ra, .bool f.sec, oR f.fst] := by unfold Fr.cells; rw [et]; rfl
  have hfc := F1.1
  rw [cell] at hfc
  rcases hkind with hwd | ⟨hwd, hfst⟩
  · rw [hwd] at hfc
    conv => whnf
    dsimp only
    rw [hfc]
    conv => whnf
    dsimp only
    rw [hfc]
    conv => whnf
    cases hfs : f.fst with
    | none =>
      rw [hfs] at hfc
      conv => whnf
      rw [ok_append S1.at_]
      conv => whnf
      dsimp only
      rw [hfc]
      conv => whnf
      dsimp only
      rw [hfc]
      conv => whnf
      dsimp only [MS.push]
      rw [get_old hfc]
      conv => whnf
      dsimp only [MS.push]
      rw [get_old hfc]
      conv => whnf
      dsimp only [MS.push]
      rw [get_old F1.2]
      conv => whnf
      dsimp only [MS.push]
      have hlt : ∀ {i o}, hp1[i]? = some o → i < hp1.length := fun e => (List.getElem?_eq_some_iff.mp e).1
      have hst := hlt S1.at_
      have F2 : FrAt (hp1 ++ [.list []] ++ [.list [.str wIf, t.mv, .ref hp1.length, .bool f.sec, .tup (mvs f.rows)]]) ⟨(hp1 ++ [MO.list []]).length, hp1.length, wIf, some t, [], f.sec, some f.rows⟩ := ⟨get_last _ _, get_old (get_last _ _)⟩
      have hup : hp1 <+: hp1 ++ [.list []] ++ [.list [.str wIf, t.mv, .ref hp1.length, .bool f.sec, .tup (mvs f.rows)]] := pre_push (pre_push (pre_self _))
      have S2 := (S1.up hup).push F2 (fun g hg => hlt (S1.fr g hg).1) ⟨by show hp1.length < (hp1 ++ [MO.list []]).length; simp, by show hp1.length ≠ st; (first | lia | omega), by show (hp1 ++ [MO.list []]).length ≠ st; simp; (first | lia | omega), by show L ≤ hp1.length; (first | lia | omega)⟩
      rw [lst_at (pre_at hup S1.at_)]
      have hsz2 : gs.length ≤ 8 := by (first | lia | omega)
      refine ⟨Nat.lt_of_lt_of_le (show (refs gs).length < 9 by simp [refs]; (first | lia | omega)) (le_line (by decide)), ?_⟩
      refine hq _ _ S2 (O1.snoc ⟨trivial, by show 0 + gs.length ≤ 7; (first | lia | omega), fun rs e => by cases e; exact ⟨hf.good, hnest⟩, .inr ⟨t, rfl, ht, .inl rfl⟩⟩) (by simp) (by simp) ?_ ?_ fun h0 q1 q2 => pre_set ((hsz h0 q1 q2).trans hup) (by (first | lia | omega))
      · rw [wts_snoc, wts_snoc]
        show wts gs + (0 + (lns f.rows).length + 4) ≤ _
        (first | lia | omega)
      · rw [cls_snoc, cls_snoc]
        show cls gs + 1 < _
        have : f.cl = 2 := by unfold Fr.cl; rw [hfs, hwd]; rfl
        (first | lia | omega)
    | some rs =>
      rw [hfs] at hfc
      have hrs := hf.fst rs hfs
      show wpS K N (topRow _) _ _ _
      subst eg
      refine top_row (r := .ite t rs f.rows) S1 hgw hB' (fun Q hq => ?_) ?_
      · conv => whnf
        dsimp only
        rw [hfc]
        conv => whnf
        dsimp only
        rw [hfc]
        conv => whnf
        dsimp only
        rw [hfc]
        conv => whnf
        dsimp only
        rw [F1.2]
        exact hq
      · refine fin_row hp1 (.ite t rs f.rows) S1 hsz ⟨ht, hrs.1, hf.good⟩ ?_ ?_
        · show max (nests rs) (nests f.rows) + 1 + gs'.length ≤ 7
          have := hrs.2
          (first | lia | omega)
        · show ((lns rs ++ wElse :: (lns f.rows ++ [wEnd])).length + 1) ≤ f.wt
          unfold Fr.wt
          rw [hfs, List.length_append, List.length_cons, List.length_append, List.length_singleton]
          dsimp only
          (first | lia | omega)
  · rw [hwd, hfst] at hfc
    have wrest : ∀ (hp2 : List MO) (rows : List Rw), Stk L hp2 st gs → (∀ h0 : List MO, h0.length ≤ L → h0 <+: hp → h0 <+: hp2) → hp2[f.a]? = some (.list [.str wWhile, t.mv, .ref f.ra, .bool f.sec, .none]) → hp2[f.ra]? = some (.list (mvs rows)) → goods rows → nests rows + gs.length ≤ 7 → (lns rows).length ≤ (lns f.rows).length + 1 →
        wpSs K N [topRow (.tup [.cst (.str wWhile), .idx (.var 1) (.cst (.int 1)), .blt .tuple [.idx (.var 1) (.cst (.int 2))]])] (fin Q) (fun c m => X c m.heap) ⟨[some (.ref st), some (.ref f.a)], hp2⟩ := by
      intro hp2 rows S2 h2 e1 e2 hgr hnr hlr
      have S2' := S2
      rw [eg] at S2'
      show wpS K N (topRow _) _ _ _
      refine top_row (r := .wh t rows) S2' hgw hB' (fun Q hq => ?_) ?_
      · conv => whnf
        dsimp only
        rw [e1]
        conv => whnf
        dsimp only
        rw [e1]
        conv => whnf
        dsimp only
        rw [e2]
        exact hq
      · refine fin_row hp2 (.wh t rows) S2 h2 ⟨ht, hgr⟩ (by show nests rows + 1 + gs'.length ≤ 7; (first | lia | omega)) ?_
        show ((lns rows ++ [wEnd]).length + 1) ≤ f.wt
        rw [List.length_append, List.length_singleton]
        (first | lia | omega)
    have hend := wrest hp1 f.rows S1 hsz hfc F1.2 hf.good hnest (Nat.le_succ _)
    conv => whnf
    dsimp only
    rw [hfc]
    conv => whnf
    dsimp only
    rw [hfc]
    conv => whnf
    cases t with
    | num k => exact hend
    | nm s => exact hend
    | op c a b =>
      conv => whnf
      cases q : ([c] == [60]) with
      | false => exact hend
      | true =>
        conv => whnf
        dsimp only
        rw [hfc]
        conv => whnf
        cases a with
        | num k => exact hend
        | op c' x y =>
          conv => whnf
          rw [show ([c'] == sName) = false by simp]
          exact hend
        | nm s =>
          have hs : Gn s := ht.1.2.1
          conv => whnf
          dsimp only
          rw [hfc]
          conv => whnf
          rw [ok_append F1.2]
          conv => whnf
          dsimp only
          rw [hfc]
          conv => whnf
          dsimp only
          rw [hfc]
          conv => whnf
          dsimp only
          rw [lst_at F1.2]
          refine ⟨rows_lt (show f.wt ≤ B by (first | lia | omega)) hB', ?_⟩
          have hgood : (Tm.op 43 (.nm s) (.num 1)).good := ⟨⟨.inl rfl, hs, by decide, by decide⟩, by show 1 ≤ 3; decide⟩
          refine wrest _ (f.rows ++ [.set s (.op 43 (.nm s) (.num 1))]) (S1.other hn.2.1 fun g hg => ?_) (fun h0 q1 q2 => pre_set (hsz h0 q1 q2) (by (first | lia | omega))) (set_other (by (first | lia | omega)) hfc) ?_ (goods_app hf.good (show goods [.set s _] from ⟨⟨hs, hgood⟩, trivial⟩)) ?_ ?_
          · have h1 := hlast g hg
            have h2 := (S1.ne g hg).1
            exact ⟨by (first | lia | omega), by (first | lia | omega)⟩
          · rw [mvs_app]; exact get_set F1.2
          · have : nests (f.rows ++ [.set s (.op 43 (.nm s) (.num 1))]) ≤ nests f.rows := nests_app (Nat.le_refl _) (Nat.zero_le _)
            (first | lia | omega)
          · rw [lns_app, lns_one, List.length_append]; exact Nat.le_refl _
end Mine
end
section
set_option autoImplicit false
set_option linter.unusedVariables false
set_option tactic.hygienic false
namespace Mine
variable {K : KT}
theorem pb_asg {n i : Nat} {X : XM} {m : MS} {e : ME} (h : PB K n X m e) {Q : Fl → MS → Prop} (hq : ∀ b, Q .next (m.set i (.bool b))) : wpS K n (.asg [i] false e) Q X m := h _ fun b => hq b
structure At (L : Nat) (h0 : List MO) (r : Nat) (ss : List (List Nat)) (hp : List MO) (st : Nat) (fs : List Fr) : Prop where
  S : Stk L hp st fs
  O : Oks fs
  ne : fs ≠ []
  len : fs.length ≤ 8
  pre : h0 <+: hp
  L0 : h0.length ≤ L
  nm : h0[r]? = some (.list (ss.map .str))
  ten : ss.length = 10
  gn : ∀ s ∈ ss, Gn s
section
variable {L st r : Nat} {h0 hp hp' : List MO} {ss : List (List Nat)} {fs : List Fr}
theorem At.up (A : At L h0 r ss hp st fs) (e : hp <+: hp') : At L h0 r ss hp' st fs := ⟨A.S.up e, A.O, A.ne, A.len, A.pre.trans e, A.L0, A.nm, A.ten, A.gn⟩
theorem At.names (A : At L h0 r ss hp st fs) : hp[r]? = some (.list (ss.map .str)) := pre_at A.pre A.nm
noncomputable def Some1 (ss : List (List Nat)) (hp : List MO) (i : Nat) : Prop := ∃ sl : List (List Nat), hp[i]? = some (.list (sl.map .str)) ∧ sl ≠ [] ∧ ∀ s ∈ sl, s ∈ ss
theorem Some1.up {i : Nat} (h : Some1 ss hp i) (e : hp <+: hp') : Some1 ss hp' i := let ⟨sl, h1, h2⟩ := h; ⟨sl, pre_at e h1, h2⟩
theorem some_drop (ht : ss.length = 10) (hp : List MO) : Some1 ss (hp ++ [.list (pslice (ss.map MV.str) (some 5) none)]) hp.length :=
  ⟨ss.drop 5, by rw [get_last, pslice_from (by decide), List.map_drop]; rfl, (fun e => by have := congrArg List.length e; rw [List.length_drop, ht] at this; cases this), fun s hs => List.mem_of_mem_drop hs⟩
theorem some_take (ht : ss.length = 10) (hp : List MO) : Some1 ss (hp ++ [.list (pslice (ss.map MV.str) none (some 5))]) hp.length :=
  ⟨ss.take 5, by rw [get_last, pslice_to (by decide), List.map_take]; rfl, (fun e => by have := congrArg List.length e; rw [List.length_take, ht] at this; cases this), fun s hs => List.mem_of_mem_take hs⟩
theorem At.all (A : At L h0 r ss hp st fs) : Some1 ss hp r := ⟨ss, A.names, (fun e => by have := A.ten; rw [e] at this; cases this), fun s h => h⟩
theorem At.row (A : At L h0 r ss hp st fs) {gs : List Fr} {f : Fr} (e : fs = gs ++ [f]) {w : Rw} (hg : w.good) (hn : w.nest = 0) : At L h0 r ss (hp.set f.ra (.list (mvs f.rows ++ [w.mv]))) st (gs ++ [{ f with rows := f.rows ++ [w] }]) := by
  obtain ⟨S, O, ne, len, pre, L0, nm, ten, gn⟩ := A
  subst e
  obtain ⟨O1, hf⟩ := O.init
  have hL := (S.ne f (List.mem_append_right _ (List.mem_singleton.mpr rfl))).2.2.2
  refine ⟨S.add w, O1.snoc (hf.add hg ?_), by simp, by simpa using len, pre_set pre (Nat.le_trans L0 hL), L0, nm, ten, gn⟩
  have := hf.nest
  (first | lia | omega)
theorem At.frame (A : At L h0 r ss hp st fs) (hl : fs.length < 8) {wd : List Nat} {t : Tm} {b : Bool} (ht : t.good) (hwd : wd = wIf ∨ wd = wWhile) :
    At L h0 r ss ((hp ++ [MO.list []] ++ [MO.list [.str wd, t.mv, .ref hp.length, .bool b, .none]]).set st (.list (refs fs ++ [.ref (hp ++ [MO.list []]).length]))) st (fs ++ [⟨(hp ++ [MO.list []]).length, hp.length, wd, some t, [], b, none⟩]) := by
  obtain ⟨S, O, ne, len, pre, L0, nm, ten, gn⟩ := A
  have hlt : ∀ {i o}, hp[i]? = some o → i < hp.length := fun e => (List.getElem?_eq_some_iff.mp e).1
  have hst := hlt S.at_
  have hlo := S.lo
  have hup : hp <+: hp ++ [.list []] ++ [.list [.str wd, t.mv, .ref hp.length, .bool b, .none]] := pre_push (pre_push (pre_self _))
  have F2 : FrAt (hp ++ [.list []] ++ [.list [.str wd, t.mv, .ref hp.length, .bool b, .none]]) ⟨(hp ++ [MO.list []]).length, hp.length, wd, some t, [], b, none⟩ := ⟨get_last _ _, get_old (get_last _ _)⟩
  refine ⟨(S.up hup).push F2 (fun g hg => hlt (S.fr g hg).1) ⟨by show hp.length < (hp ++ [MO.list []]).length; simp, by show hp.length ≠ st; (first | lia | omega), by show (hp ++ [MO.list []]).length ≠ st; simp; (first | lia | omega), by show L ≤ hp.length; (first | lia | omega)⟩, O.snoc ⟨trivial, by show 0 + fs.length ≤ 7; (first | lia | omega), (fun rs e => by cases e), .inr ⟨t, rfl, ht, hwd.imp id fun h => ⟨h, rfl⟩⟩⟩, by simp, by simp; (first | lia | omega), pre_set (pre.trans hup) (by (first | lia | omega)), L0, nm, ten, gn⟩
end
variable (hK : Closed (fnP tab) K)
include hK
theorem put_frame {L st r : Nat} {h0 hp : List MO} {ss : List (List Nat)} {fs : List Fr} (A : At L h0 r ss hp st fs) (hl : fs.length < 8) {wd : List Nat} {t : Tm} {b : Bool} (ht : t.good) (hwd : wd = wIf ∨ wd = wWhile) {M : Nat} {Q : MV → List MO → Prop} {X : XM} {v1 v2 v3 v4 v5 : Option MV} {vs : List (Option MV)}
    (hq : ∀ hp' fs', At L h0 r ss hp' st fs' → wts fs' ≤ wts fs + 4 → Q .none hp') :
    wpSs K M [.expr (.mth .append (.var 0) [.list [.cst (.str wd), .var 6, .list [], .var 7, .cst .none]])] (fin Q) X ⟨some (.ref st) :: v1 :: v2 :: v3 :: v4 :: v5 :: some t.mv :: some (.bool b) :: vs, hp⟩ := by
  have B := A.frame hl (b := b) ht hwd
  conv => whnf
  rw [ok_append A.S.at_]
  conv => whnf
  dsimp only [MS.push]
  rw [lst_at (get_old (get_old A.S.at_))]
  refine ⟨Nat.lt_of_lt_of_le (show (refs fs).length < 9 by simp [refs]; (first | lia | omega)) (le_line (by decide)), ?_⟩
  refine hq _ _ B ?_
  rw [wts_snoc]
  exact Nat.le_refl _
omit hK in
theorem way4 {j : Nat} (h : j < 4) : ∃ w : Int, [MV.int 0, MV.int 4, MV.int 8, MV.int 0][j]? = some (.int w) := by
  have : j = 0 ∨ j = 1 ∨ j = 2 ∨ j = 3 := by (first | lia | omega)
  rcases this with rfl | rfl | rfl | rfl <;> exact ⟨_, rfl⟩
end Mine
end
section
set_option autoImplicit false
set_option linter.unusedVariables false
set_option tactic.hygienic false
namespace Mine
variable {K : KT} (hK : Closed (fnP tab) K)
include hK
omit hK in
noncomputable def PC (K : KT) (n : Nat) (X : XM) (m : MS) (e : ME) (φ : Prop) : Prop := ∀ Q : PQ, (∀ b, (b = true → φ) → Q (.bool b) m) → wpE K n e Q X m
omit hK in
theorem pc_and {n : Nat} {X : XM} {m : MS} {a e : ME} {φ : Prop} (ha : PB K n X m a) (he : PC K n X m e φ) : PC K n X m (.and [a, e]) φ := fun Q hq => ha _ fun b => by
  cases b with
  | true => exact he Q hq
  | false => exact hq false fun h => by cases h
omit hK in
theorem pc_and3 {n : Nat} {X : XM} {m : MS} {a e c : ME} {φ : Prop} (ha : PB K n X m a) (he : PC K n X m e φ) (hc : PB K n X m c) : PC K n X m (.and [a, e, c]) φ := fun Q hq => ha _ fun b => by
  cases b with
  | true =>
    refine he _ fun b hb => ?_
    cases b with
    | true => exact hc Q fun b' => hq b' fun _ => hb rfl
    | false => exact hq false fun h => by cases h
  | false => exact hq false fun h => by cases h
omit hK in
theorem pc_ite {n : Nat} {X : XM} {m : MS} {c : ME} {φ : Prop} {a b : List MSt} {Q : Fl → MS → Prop} (hc : PC K n X m c φ) (ha : φ → wpSs K n a Q X m) (hb : wpSs K n b Q X m) : wpS K n (.ite c a b) Q X m :=
  hc _ fun t h => by
    cases t with
    | true => exact ha (h rfl)
    | false => exact hb
omit hK in
theorem pc_len {n st : Nat} {X : XM} {vs : List (Option MV)} {hp : List MO} {fs : List Fr} (h : hp[st]? = some (.list (refs fs))) : PC K n X ⟨some (.ref st) :: vs, hp⟩ (.cmp .lt (.blt .len [.var 0]) (.cst (.int 8))) (fs.length < 8) := fun Q hq => by
  conv => whnf
  dsimp only
  rw [h]
  refine hq _ fun e => ?_
  have := of_decide_eq_true e
  simp [refs] at this
  (first | lia | omega)
omit hK in
theorem pc_more {n st : Nat} {X : XM} {vs : List (Option MV)} {hp : List MO} {fs : List Fr} (h : hp[st]? = some (.list (refs fs))) : PC K n X ⟨some (.ref st) :: vs, hp⟩ (.cmp .gt (.blt .len [.var 0]) (.cst (.int 1))) (1 < fs.length) := fun Q hq => by
  conv => whnf
  dsimp only
  rw [h]
  refine hq _ fun e => ?_
  have := of_decide_eq_true e
  simp [refs] at this
  (first | lia | omega)
theorem put_end {L st r : Nat} {h0 hp : List MO} {ss : List (List Nat)} {fs : List Fr} (A : At L h0 r ss hp st fs) {B M : Nat} (hB : wts fs + 5 ≤ B) (hB' : B ≤ 2000) (hM : 1 ≤ M) {more mode way : Int} {dark sec shut : Bool} {t : Tm} (ht : t.good) (hmode : mode = 0 ∨ mode = 1 ∨ mode = 2) {Q : MV → List MO → Prop} {X : XT}
    (hq : ∀ hp' fs', At L h0 r ss hp' st fs' → wts fs' ≤ wts fs + 5 → Q .none hp') :
    wpSs K M (fn_law_put.body.drop 5) (fin Q) (fun c m => X c m.heap) ⟨[some (.ref st), some (.ref r), some (.int more), some (.int mode), some (.int way), some (.bool dark), some t.mv, some (.bool sec), some (.bool shut), none, none], hp⟩ := by
  obtain ⟨gs, f, ef⟩ := snoc_of A.ne
  have hfB : f.wt ≤ B := by rw [ef, wts_snoc] at hB; (first | lia | omega)
  have put : ∀ {hp1 : List MO} {w : Rw} {e : ME} {vs : List (Option MV)}, hp <+: hp1 → w.good → w.nest = 0 → w.lines.length = 1 → (∀ Q : PQ, Q w.mv ⟨some (.ref st) :: vs, hp1⟩ → wpE K M e Q (fun c m => X c m.heap) ⟨some (.ref st) :: vs, hp1⟩) → wpSs K M [topRow e] (fin Q) (fun c m => X c m.heap) ⟨some (.ref st) :: vs, hp1⟩ := by
    intro hp1 w e vs hpre hg hn hl he
    have A1 := A.up hpre
    have S1 := A1.S
    rw [ef] at S1
    show wpS K M (topRow e) _ _ _
    refine top_row S1 hfB hB' he ?_
    refine hq _ _ (A1.row ef hg hn) ?_
    rw [ef, wts_snoc, wts_snoc, wt_add, hl]; (first | lia | omega)
  have setrow : ∀ {hp1 : List MO} {i : Nat}, hp <+: hp1 → Some1 ss hp1 i → wpSs K M [topRow (.tup [.cst (.str wSet), .idx (.var 9) (.bin .mod (.bin .fdiv (.var 2) (.cst (.int 96))) (.blt .len [.var 9])), .var 6])] (fin Q) (fun c m => X c m.heap)
      ⟨[some (.ref st), some (.ref r), some (.int more), some (.int mode), some (.int way), some (.bool dark), some t.mv, some (.bool sec), some (.bool shut), some (.ref i), none], hp1⟩ := by
    intro hp1 i hpre h1
    obtain ⟨sl, e1, hne, hsub⟩ := h1
    have hpos : 0 < sl.length := List.length_pos_iff.mpr hne
    have hx : 0 ≤ more / 96 % (sl.length : Int) ∧ more / 96 % (sl.length : Int) < sl.length := ⟨Int.emod_nonneg _ (by (first | lia | omega)), Int.emod_lt_of_pos _ (by (first | lia | omega))⟩
    have hk : (more / 96 % (sl.length : Int)).toNat < sl.length := by (first | lia | omega)
    refine put (w := .set (sl[(more / 96 % (sl.length : Int)).toNat]'hk) t) hpre ⟨A.gn _ (hsub _ (List.getElem_mem _)), ht⟩ rfl rfl fun Q hq => ?_
    conv => whnf
    refine ⟨by decide, ?_⟩
    conv => whnf
    dsimp only
    rw [e1]
    conv => whnf
    rw [List.length_map]
    refine ⟨by (first | lia | omega), ?_⟩
    conv => whnf
    dsimp only
    rw [e1]
    conv => whnf
    rw [pidx_nat hx.1 (by rw [List.length_map]; exact hx.2)]
    dsimp only
    rw [List.getElem?_map, List.getElem?_eq_getElem hk]
    exact hq
  show wpS K M _ _ _ _
  refine pb_ite (pb_int rfl .lt (.inr (.inr rfl))) ?_ ?_
  · have after : ∀ {hp1 : List MO} {i : Nat}, hp <+: hp1 → Some1 ss hp1 i → wpSs K M [.ite (.var 8) [.asg [9] false (.sl (.var 1) (some (.cst (.int 5))) none)] [], topRow (.tup [.cst (.str wSet), .idx (.var 9) (.bin .mod (.bin .fdiv (.var 2) (.cst (.int 96))) (.blt .len [.var 9])), .var 6])] (fin Q) (fun c m => X c m.heap)
        ⟨[some (.ref st), some (.ref r), some (.int more), some (.int mode), some (.int way), some (.bool dark), some t.mv, some (.bool sec), some (.bool shut), some (.ref i), none], hp1⟩ := by
      intro hp1 i hpre h1
      show wpS K M _ _ _ _
      refine pb_ite (pb_var rfl) ?_ (setrow hpre h1)
      conv => whnf
      dsimp only
      rw [(A.up hpre).names]
      exact setrow (pre_push hpre) (some_drop A.ten hp1)
    conv => whnf
    dsimp only
    rw [A.names]
    conv => whnf
    dsimp only [MS.push]
    rw [get_old A.names]
    conv => whnf
    refine ⟨by decide, ?_⟩
    conv => whnf
    refine ⟨by decide, ?_⟩
    conv => whnf
    dsimp only [MS.push]
    rw [get_last]
    conv => whnf
    rw [pidx_b2i]
    dsimp only
    rw [get_b2n]
    have hpre3 : hp <+: hp ++ [MO.list (pslice (ss.map MV.str) none (some 5))] ++ [MO.list (pslice (ss.map MV.str) (some 5) none)] ++ [MO.list [.ref hp.length, .ref (hp ++ [MO.list (pslice (ss.map MV.str) none (some 5))]).length]] := pre_push (pre_push (pre_push (pre_self _)))
    have hk : ∃ k, sel (more / 7 % 4 == 3) (MV.ref hp.length) (.ref (hp ++ [MO.list (pslice (ss.map MV.str) none (some 5))]).length) = .ref k ∧ Some1 ss (hp ++ [MO.list (pslice (ss.map MV.str) none (some 5))] ++ [MO.list (pslice (ss.map MV.str) (some 5) none)] ++ [MO.list [.ref hp.length, .ref (hp ++ [MO.list (pslice (ss.map MV.str) none (some 5))]).length]]) k := by
      cases (more / 7 % 4 == 3)
      · exact ⟨_, rfl, (some_take A.ten hp).up (pre_push (pre_push (pre_self _)))⟩
      · exact ⟨_, rfl, (some_drop A.ten _).up (pre_push (pre_self _))⟩
    obtain ⟨k, ek, hk⟩ := hk
    rw [ek]
    conv => whnf
    dsimp only [MS.push]
    rw [get_last]
    have hr := A.all
    rcases hmode with rfl | rfl | rfl
    · exact after (pre_push hpre3) (hr.up (pre_push hpre3))
    · exact after (pre_push hpre3) (hr.up (pre_push hpre3))
    · exact after (pre_push hpre3) (hk.up (pre_push (pre_self _)))
  · show wpS K M _ _ _ _
    refine pb_ite (pb_two (pb_int rfl .eq (.inl rfl)) (pb_not (pb_var rfl))).1 ?_ ?_
    · exact put (w := .tell t) (pre_self _) ht rfl rfl fun Q hq => hq
    · show wpS K M _ _ _ _
      refine pb_ite (pb_int rfl .eq (.inl rfl)) ?_ ?_
      · exact put (w := .skip) (pre_self _) trivial rfl rfl fun Q hq => hq
      · show wpS K M _ _ _ _
        refine pc_ite (pc_and (pb_int rfl .lt (.inr (.inr rfl))) (pc_len A.S.at_)) (fun hl => ?_) ?_
        · exact put_frame hK A hl ht (.inl rfl) fun hp' fs' A' h' => hq hp' fs' A' (by (first | lia | omega))
        · show wpS K M _ _ _ _
          refine pc_ite (pc_and3 (pb_int rfl .lt (.inr (.inr rfl))) (pc_len A.S.at_) (pb_not (pb_var rfl))) (fun hl => ?_) ?_
          · show wpS K M _ _ _ _
            refine pb_ite (pb_two (pb_int rfl .eq (.inl rfl)) (pb_div rfl (by decide) (by decide) .gt (.inr rfl))).1 ?_ ?_
            · have hk : (more / 384 % 5).toNat < ss.length := by rw [A.ten]; (first | lia | omega)
              have hg : (Tm.op 60 (.nm (ss[(more / 384 % 5).toNat]'hk)) (.num (1 + more / 1920 % 4))).good := ⟨⟨.inr (.inr (.inr (.inl rfl))), A.gn _ (List.getElem_mem _), by (first | lia | omega), by (first | lia | omega)⟩, by show 1 ≤ 3; decide⟩
              conv => whnf
              refine ⟨by decide, ?_⟩
              conv => whnf
              refine ⟨by decide, ?_⟩
              conv => whnf
              dsimp only
              rw [A.names]
              conv => whnf
              rw [pidx_nat (by (first | lia | omega)) (by rw [List.length_map]; (first | lia | omega))]
              dsimp only
              rw [List.getElem?_map, List.getElem?_eq_getElem hk]
              conv => whnf
              refine ⟨by decide, ?_⟩
              conv => whnf
              refine ⟨by decide, ?_⟩
              exact put_frame hK A hl hg (.inr rfl) fun hp' fs' A' h' => hq hp' fs' A' (by (first | lia | omega))
            · exact put_frame hK A hl ht (.inr rfl) fun hp' fs' A' h' => hq hp' fs' A' (by (first | lia | omega))
          · show wpS K M _ _ _ _
            refine pc_ite (pc_more A.S.at_) (fun hl => ?_) (hq hp fs A (by (first | lia | omega)))
            obtain ⟨M, rfl⟩ : ∃ M', M = M' + 1 := ⟨M - 1, by (first | lia | omega)⟩
            conv => whnf
            have S1 := A.S
            have O1 := A.O
            rw [ef] at S1 O1
            have hgs : gs ≠ [] := fun e => by rw [ef, e] at hl; exact absurd hl (Nat.lt_irrefl 1)
            refine k_closed hK S1 O1 hgs (B := B) (by rw [← ef]; (first | lia | omega)) hB' fun hp' fs' S' O' n' l' w' c' p' => ?_
            rw [← ef] at l' w'
            exact hq hp' fs' ⟨S', O', n', Nat.le_trans l' A.len, p' h0 A.L0 A.pre, A.L0, A.nm, A.ten, A.gn⟩ (by (first | lia | omega))
theorem k_put {L st r : Nat} {h0 hp : List MO} {ss : List (List Nat)} {fs : List Fr} (A : At L h0 r ss hp st fs) {B N : Nat} (hB : wts fs + 5 ≤ B) (hB' : B ≤ 2000) (hN : 9 ≤ N) {more mode : Int} (hmode : mode = 0 ∨ mode = 1 ∨ mode = 2) {Q : MV → List MO → Prop} {X : XT}
    (hq : ∀ hp' fs', At L h0 r ss hp' st fs' → wts fs' ≤ wts fs + 5 → Q .none hp') : K N 40 [.ref st, .ref r, .int more, .int mode] Q X hp := by
  obtain ⟨M, rfl, hM⟩ := room (k := 8) (show 8 < N by (first | lia | omega))
  refine hK _ _ _ _ _ _ fn_law_put rfl rfl ?_
  conv => whnf
  refine ⟨by decide, ?_⟩
  conv => whnf
  dsimp only [start, MS.set]
  rw [iter_list A.S.at_]
  dsimp only
  refine compL_inv (fun j a m => ∃ w, m = ⟨[some (.ref st), some (.ref r), some (.int more), some (.int mode), some (.int (more % 12)), none, none, none, none, none, w], hp⟩) ⟨none, rfl⟩ (fun _ _ m hI => by obtain ⟨_, rfl⟩ := hI; exact A.S.at_) (fun j y a m P hy hI h1 h2 => ?_) (fun a m hI => ?_)
  · obtain ⟨w, rfl⟩ := hI
    obtain ⟨f, ef, rfl⟩ := Option.map_eq_some_iff.mp (List.getElem?_map .. ▸ hy)
    conv => whnf
    dsimp only [MS.set]
    rw [(A.S.fr f (List.mem_of_getElem? ef)).1]
    conv => whnf
    cases f.sec with
    | true => exact h1 _ _ ⟨_, rfl⟩
    | false => exact h2 _ ⟨_, rfl⟩
  · obtain ⟨w, rfl⟩ := hI
    conv => whnf
    refine .nil _ _ a rfl rfl (get_old (get_last _ _)) (get_last _ _) ?_
    have A1 := A.up (pre_push (o := .list []) (pre_push (o := .list a) (pre_self hp)))
    conv => whnf
    refine k_rowby hK A1.names A1.gn hM fun hp2 t b hpre ht => ?_
    have hpre : hp ++ [.list a] ++ [.list []] <+: hp2 := hpre
    have A2 := A1.up hpre
    conv => whnf
    refine ⟨rfl, ?_⟩
    change wpSs K M (fn_law_put.body.drop 3) (fin Q) _ ⟨[some (.ref st), some (.ref r), some (.int more), some (.int mode), some (.int (more % 12)), some (.bool (!a.isEmpty)), some t.mv, some (.bool b), none, none, none], hp2⟩
    show wpS K M _ _ _ _
    refine pb_asg (pb_two (pb_int rfl .eq (.inl rfl)) (pb_two (pb_var rfl) (pb_var rfl)).2).1 fun shut => ?_
    show wpS K M _ _ _ _
    refine pb_ite (pb_int rfl .eq (.inl rfl)) ?_ (put_end hK A2 hB hB' (by (first | lia | omega)) ht hmode hq)
    conv => whnf
    refine ⟨by decide, ?_⟩
    conv => whnf
    refine ⟨by decide, ?_⟩
    conv => whnf
    dsimp only [MS.push, MS.set]
    rw [get_last]
    conv => whnf
    rw [pidx_nat (by (first | lia | omega)) (by show _ < (4 : Int); (first | lia | omega))]
    dsimp only
    obtain ⟨w', ew⟩ := way4 (j := (more / 7 % 4).toNat) (by (first | lia | omega))
    rw [ew]
    exact put_end hK (A2.up (pre_push (pre_self _))) hB hB' (by (first | lia | omega)) ht hmode hq
end Mine
end
section
set_option autoImplicit false
set_option linter.unusedVariables false
set_option tactic.hygienic false
namespace Mine
variable {K : KT} (hK : Closed (fnP tab) K)
include hK
omit hK in
theorem mix_small (x : Int) : small (mix x) := by
  have := mix_pos x
  unfold small
  (first | lia | omega)
omit hK in
theorem At.base {L st r : Nat} {h0 hp : List MO} {ss : List (List Nat)} {f : Fr} (A : At L h0 r ss hp st [f]) : hp[f.ra]? = some (.list (mvs f.rows)) ∧ hp[f.a]? = some (.list f.cells) ∧ goods f.rows ∧ nests f.rows ≤ 7 :=
  have h := A.S.fr f (List.mem_singleton.mpr rfl)
  have o := A.O 0 f rfl
  ⟨h.2, h.1, o.good, by have := o.nest; (first | lia | omega)⟩
theorem blk_while {L st r : Nat} {h0 hp : List MO} {ss : List (List Nat)} {fs : List Fr} (A : At L h0 r ss hp st fs) {M : Nat} (hM : 1 ≤ M) (hB : wts fs ≤ 2000) {v0 v1 v2 : Option MV} {vs : List (Option MV)} {Q : MV → List MO → Prop} {X : XT}
    (hq : ∀ hp' i rows, h0 <+: hp' → hp'[i]? = some (.list (mvs rows)) → goods rows → nests rows ≤ 7 → (lns rows).length ≤ 2000 → Q (.ref i) hp') :
    wpSs K M (fn_law_block_by.body.drop 2) (fin Q) (fun c m => X c m.heap) ⟨v0 :: v1 :: v2 :: some (.ref st) :: vs, hp⟩ := by
  show wpS K M _ _ _ _
  refine ⟨cls fs + 1, while_inv (fun k m => ∃ hp fs, m = ⟨v0 :: v1 :: v2 :: some (.ref st) :: vs, hp⟩ ∧ At L h0 r ss hp st fs ∧ wts fs ≤ 2000 ∧ cls fs + 1 ≤ k) (fun m hI => by obtain ⟨_, _, _, _, _, h⟩ := hI; (first | lia | omega)) (fun k m W hI hW => ?_) _ _ ⟨hp, fs, rfl, A, hB, Nat.le_refl _⟩⟩
  obtain ⟨hp, fs, rfl, A, hB, hk⟩ := hI
  obtain ⟨gs, f, ef⟩ := snoc_of A.ne
  conv => whnf
  dsimp only
  rw [A.S.at_]
  conv => whnf
  cases gs with
  | nil =>
    subst ef
    obtain ⟨b1, b2, b3, b4⟩ := A.base
    conv => whnf
    dsimp only
    rw [A.S.at_]
    conv => whnf
    dsimp only
    rw [b2]
    refine hq hp f.ra f.rows A.pre b1 b3 b4 ?_
    have : wts ([] ++ [f]) = f.wt + 0 := rfl
    have : (lns f.rows).length + 4 ≤ f.wt := by unfold Fr.wt; (first | lia | omega)
    (first | lia | omega)
  | cons g gs =>
    have hl : (1 : Int) < (refs fs).length := by rw [ef]; simp [refs]; (first | lia | omega)
    rw [decide_eq_true hl]
    conv => whnf
    obtain ⟨M, rfl⟩ : ∃ M', M = M' + 1 := ⟨M - 1, by (first | lia | omega)⟩
    have S1 := A.S
    have O1 := A.O
    rw [ef] at S1 O1
    refine k_closed hK S1 O1 (List.cons_ne_nil _ _) (B := 2000) (by rw [← ef]; exact hB) (Nat.le_refl _) fun hp' fs' S' O' n' l' w' c' p' => ?_
    rw [← ef] at l' w' c'
    exact hW _ ⟨hp', fs', rfl, ⟨S', O', n', Nat.le_trans l' A.len, p' h0 A.L0 A.pre, A.L0, A.nm, A.ten, A.gn⟩, by (first | lia | omega), by (first | lia | omega)⟩
theorem k_block {rc r : Nat} {cells : List Int} {ss : List (List Nat)} {loose : Int} {h : List MO} {N : Nat} (hc : h[rc]? = some (.list (cells.map .int))) (hr : h[r]? = some (.list (ss.map .str))) (ten : ss.length = 10) (gn : ∀ s ∈ ss, Gn s) (hz : cells.length ≤ 63) (hN : 10 ≤ N) {Q : MV → List MO → Prop} {X : XT}
    (hq : ∀ hp' i rows, h <+: hp' → hp'[i]? = some (.list (mvs rows)) → goods rows → nests rows ≤ 7 → (lns rows).length ≤ 2000 → Q (.ref i) hp') : K N 41 [.ref rc, .ref r, .int loose] Q X h := by
  obtain ⟨M, rfl, hM⟩ := room (k := 9) (show 9 < N by (first | lia | omega))
  have e1 : (h ++ [MO.list []]).length = h.length + 1 := by simp
  have e2 : (h ++ [MO.list []] ++ [MO.list [.str [], .none, .ref h.length, .bool false, .none]]).length = h.length + 2 := by simp
  have A0 : At h.length h r ss (h ++ [MO.list []] ++ [MO.list [.str [], .none, .ref h.length, .bool false, .none]] ++ [MO.list [.ref (h ++ [MO.list []]).length]]) (h ++ [MO.list []] ++ [MO.list [.str [], .none, .ref h.length, .bool false, .none]]).length [⟨(h ++ [MO.list []]).length, h.length, [], none, [], false, none⟩] := by
    refine ⟨⟨get_last _ _, fun f hf => ?_, List.pairwise_singleton .., fun f hf => ?_, by rw [e2]; (first | lia | omega)⟩, fun i f e => ?_, List.cons_ne_nil _ _, Nat.le_of_ble_eq_true rfl, pre_push (pre_push (pre_push (pre_self _))), Nat.le_refl _, hr, ten, gn⟩
    · rw [List.mem_singleton.mp hf]
      exact ⟨get_old (get_last _ _), get_old (get_old (get_last _ _))⟩
    · rw [List.mem_singleton.mp hf, e1, e2]
      exact ⟨by show h.length < h.length + 1; (first | lia | omega), by show h.length ≠ h.length + 2; (first | lia | omega), by show h.length + 1 ≠ h.length + 2; (first | lia | omega), Nat.le_refl _⟩
    · cases i with
      | zero => cases e; exact ⟨trivial, Nat.zero_le _, (fun rs e => by cases e), .inl rfl⟩
      | succ i => cases e
  refine hK _ _ _ _ _ _ fn_law_block_by rfl rfl ?_
  conv => whnf
  dsimp only [start, MS.set, MS.push]
  rw [iter_enum (pre_at A0.pre hc)]
  dsimp only
  generalize (h ++ [MO.list []] ++ [MO.list [.str [], .none, .ref h.length, .bool false, .none]]).length = st at *
  refine forL_inv (fun j m => ∃ w4 w5 w6 w7 hp fs, m = ⟨[some (.ref rc), some (.ref r), some (.int loose), some (.ref st), w4, w5, w6, w7], hp⟩ ∧ At h.length h r ss hp st fs ∧ wts fs ≤ 4 + 5 * j) (fun _ _ => False) ⟨_, _, _, _, _, _, rfl, A0, Nat.le_refl 4⟩ (fun _ m hI => by obtain ⟨_, _, _, _, _, _, rfl, A, _⟩ := hI; exact pre_at A.pre hc) (fun j y m P hy hI hn _ _ => ?_) (fun m hI => ?_) (fun _ _ h => h.elim)
  · obtain ⟨w4, w5, w6, w7, hp, fs, rfl, A, hw⟩ := hI
    obtain ⟨z, hz1, rfl⟩ := enum_at hy
    obtain ⟨c, hc1, rfl⟩ := Option.map_eq_some_iff.mp (List.getElem?_map .. ▸ hz1)
    have hj : j < cells.length := (List.getElem?_eq_some_iff.mp hc1).1
    have hc' := pre_at A.pre hc
    have last : ∀ more mode : Int, mode = 0 ∨ mode = 1 ∨ mode = 2 → wpSs K M [.expr (.call 40 [.var 3, .var 1, .var 6, .var 7])] P (fun c m => X c m.heap) ⟨[some (.ref rc), some (.ref r), some (.int loose), some (.ref st), some (.int j), some (.int c), some (.int more), some (.int mode)], hp⟩ := fun more mode hm => by
      conv => whnf
      refine k_put hK A (B := 2000) (by (first | lia | omega)) (Nat.le_refl _) hM hm fun hp' fs' A' hw' => ?_
      exact hn _ ⟨_, _, _, _, _, _, rfl, A', by (first | lia | omega)⟩
    have second : ∀ more mode : Int, mode = 0 ∨ mode = 1 → wpSs K M [.ite (.and [.cmp .gt (.var 2) (.cst (.int 1)), .cmp .eq (.var 4) (.bin .mod (.var 2) (.blt .len [.var 0]))]) [.asg [7] false (.cst (.int 2))] [], .expr (.call 40 [.var 3, .var 1, .var 6, .var 7])] P (fun c m => X c m.heap) ⟨[some (.ref rc), some (.ref r), some (.int loose), some (.ref st), some (.int j), some (.int c), some (.int more), some (.int mode)], hp⟩ := fun more mode hm => by
      show wpS K M _ _ _ _
      refine pb_ite (pb_two (pb_int rfl .gt (.inr (.inl rfl))) fun Q hq => ?_).1 (last more 2 (.inr (.inr rfl))) (last more mode (by (first | lia | omega)))
      conv => whnf
      dsimp only
      rw [hc']
      conv => whnf
      refine ⟨by rw [List.length_map]; (first | lia | omega), ?_⟩
      exact hq _
    conv => whnf
    refine ⟨rfl, ?_⟩
    conv => whnf
    refine ⟨.inl (by unfold small; decide), ?_⟩
    conv => whnf
    obtain ⟨M, rfl⟩ : ∃ M', M = M' + 1 := ⟨M - 1, by (first | lia | omega)⟩
    refine k_mixed hK ?_
    conv => whnf
    refine ⟨.inl (mix_small _), ?_⟩
    conv => whnf
    refine k_mixed hK ?_
    change wpSs K (M + 1) [_, _, _, _] P _ ⟨[some (.ref rc), some (.ref r), some (.int loose), some (.ref st), some (.int j), some (.int c), some (.int _), w7], hp⟩
    show wpS K (M + 1) (.ite _ _ _) _ _ ⟨[some (.ref rc), some (.ref r), some (.int loose), some (.ref st), some (.int j), some (.int c), some (.int _), some (.int 0)], hp⟩
    refine pb_ite (pb_two (pb_int rfl .eq (.inl rfl)) (pb_div rfl (by decide) (by decide) .eq (.inl rfl))).1 (second _ 1 (.inr rfl)) (second _ 0 (.inl rfl))
  · obtain ⟨w4, w5, w6, w7, hp, fs, rfl, A, hw⟩ := hI
    rw [enum_len, List.length_map] at hw
    exact blk_while hK A (by (first | lia | omega)) (by (first | lia | omega)) hq
end Mine
end
section
set_option autoImplicit false
set_option linter.unusedVariables false
set_option tactic.hygienic false
namespace Mine
theorem okS_app {a b : List Nat} (ha : okS a) (hb : okS b) : okS (a ++ b) := fun c hc => (List.mem_append.mp hc).elim (ha c) (hb c)
theorem okS_line {wd : List Nat} {x : List Nat} (h : wd ∈ kws) (hx : okS x) : okS (wd ++ [32] ++ x) := okS_app (okS_app (kws_ok _ h) (by unfold okS; decide)) hx
theorem Tm.txt_ok : ∀ {t : Tm}, t.ok Gn → okS t.txt
  | .num k, h => (leaf_no (t := .num k) h rfl).2
  | .nm s, h => h.1.ok
  | .op c a b, h => okS_app (okS_app (okS_app (okS_app (sign_in h.1).2 (by unfold okS; decide)) (a.txt_ok h.2.1)) (by unfold okS; decide)) (b.txt_ok h.2.2)
mutual
theorem Rw.lines_ok : ∀ {r : Rw}, r.good → ∀ l ∈ r.lines, okS l
  | .set s t, h, l, hl => by
    rw [List.mem_singleton.mp hl]
    exact okS_app (okS_app (okS_line (by decide) h.1.1.ok) (by unfold okS; decide)) (t.txt_ok h.2.1)
  | .tell t, h, l, hl => by
    rw [List.mem_singleton.mp hl]
    exact okS_line (by decide) (t.txt_ok (show t.good from h).1)
  | .skip, h, l, hl => by rw [List.mem_singleton.mp hl]; exact kws_ok _ (by decide)
  | .ite t a b, h, l, hl => by
    rcases List.mem_cons.mp hl with rfl | hl
    · exact okS_line (by decide) (t.txt_ok h.1.1)
    · rcases List.mem_append.mp hl with hl | hl
      · exact lns_ok h.2.1 l hl
      · rcases List.mem_cons.mp hl with rfl | hl
        · exact kws_ok _ (by decide)
        · rcases List.mem_append.mp hl with hl | hl
          · exact lns_ok h.2.2 l hl
          · rw [List.mem_singleton.mp hl]; exact kws_ok _ (by decide)
  | .wh t a, h, l, hl => by
    rcases List.mem_cons.mp hl with rfl | hl
    · exact okS_line (by decide) (t.txt_ok h.1.1)
    · rcases List.mem_append.mp hl with hl | hl
      · exact lns_ok h.2 l hl
      · rw [List.mem_singleton.mp hl]; exact kws_ok _ (by decide)
theorem lns_ok : ∀ {rs : List Rw}, goods rs → ∀ l ∈ lns rs, okS l
  | [], _, l, hl => by cases hl
  | r :: rs, h, l, hl => by
    rcases List.mem_append.mp hl with hl | hl
    · exact Rw.lines_ok h.1 l hl
    · exact lns_ok h.2 l hl
end
variable {K : KT} (hK : Closed (fnP tab) K)
include hK
omit hK in
theorem ints_slice (is : List Int) : pslice (is.map MV.int) (some 2) (some 42) = (pslice is (some 2) (some 42)).map MV.int ∧ (pslice is (some 2) (some 42)).length ≤ 63 := by
  unfold pslice
  simp only [List.length_map]
  rw [← List.map_take, ← List.map_drop]
  refine ⟨rfl, ?_⟩
  rw [List.length_drop, List.length_take, pend_nat (by decide)]
  have : (42 : Int).toNat = 42 := rfl
  (first | lia | omega)
omit hK in
theorem ty_list {hp : List MO} {r : Nat} {xs : List MV} (e : hp[r]? = some (.list xs)) : tyOf hp (.ref r) .list = some true := by
  show tyO hp[r]? .list = _
  rw [e]; rfl
omit hK in
theorem slice_last (xs : List (List Nat)) (l : List Nat) : pslice ((xs ++ [l]).map MV.str) none (some (-1)) = xs.map .str := by
  show ((((xs ++ [l]).map MV.str).take (-1 + ((((xs ++ [l]).map MV.str).length : Nat) : Int)).toNat).drop 0) = _
  rw [List.drop_zero, List.length_map, List.length_append, List.length_singleton, show (-1 + ((xs.length + 1 : Nat) : Int)).toNat = (xs.map MV.str).length by rw [List.length_map]; (first | lia | omega), List.map_append, List.take_left]
theorem law_end {rows : List Rw} {i3 i4 : Nat} {hp : List MO} {v0 v1 v5 : Option MV} {Z : List MV} (hg : goods rows) (hd : nests rows ≤ 7) (hz : (lns rows).length ≤ 2000) (e3 : hp[i3]? = some (.list (Z ++ [.str [122, 122]]))) (e4 : hp[i4]? = some (.list ((lns (rows ++ [.skip])).map .str))) :
    wpSs K 600 (fn_law_3.body.drop 10) (fin fun v _ => v = .bool true) (fun _ _ => False) ⟨[v0, v1, some (.tup (mvs rows)), some (.ref i3), some (.ref i4), v5, none], hp⟩ := by
  have self : ∀ x : List (List Nat), (x == x) = true := fun x => by simp
  have hg2 : goods (rows ++ [.skip]) := goods_app hg ⟨trivial, trivial⟩
  have hd2 : nests (rows ++ [.skip]) ≤ 7 := nests_app hd (Nat.zero_le _)
  have hz2 : (lns (rows ++ [.skip])).length ≤ 100000 := by rw [lns_app, List.length_append]; show _ + 1 ≤ _; (first | lia | omega)
  have hlen := rows_le rows
  conv => whnf
  refine ls_of hK (lsrs_all hK rows) (by (first | lia | omega)) (by (first | lia | omega)) fun h1 i6 p1 b1 => ?_
  have p1 : hp <+: h1 := p1
  have b1 : blkIs true hp.length h1 rows (.ref i6) := b1
  conv => whnf
  refine k_written hK (rls_all hK rows) (l := true) hg (b1.stay ⟨Nat.zero_le _, fun _ _ _ e => e⟩) (by (first | lia | omega)) (by (first | lia | omega)) fun h2 p2 a2 => ?_
  have p2 : h1 <+: h2 := p2
  have a2 : h2[h1.length]? = some (.list ((lns rows).map .str)) := a2
  conv => whnf
  dsimp only
  rw [pre_at (p1.trans p2) e4]
  conv => whnf
  rw [lns_app, show lns [Rw.skip] = [wSkip] from rfl, slice_last]
  refine eq_strs (x := lns rows) (y := lns rows) (get_old a2) (get_last _ _) (lns_ok hg) (lns_ok hg) ?_
  rw [self]
  conv => whnf
  refine ls_of hK (lsrs_all hK rows) (by (first | lia | omega)) (by (first | lia | omega)) fun h3 i7 p3 b3 => ?_
  have p3' : h1 <+: h3 := (pre_push p2).trans p3
  conv => whnf
  refine eq_blocks hg hd (b1.up p3') b3 ?_
  have p4 : hp <+: h3 := p1.trans p3'
  conv => whnf
  refine k_read hK hg2 (pre_at p4 e4) hd2 (by decide) hz2 fun h5 p5 => ?_
  have p5 : hp <+: h5 := p4.trans p5
  conv => whnf
  refine ⟨le_line (by rw [mvs_len]; show _ + 1 ≤ _; (first | lia | omega)), ?_⟩
  conv => whnf
  rw [show mvs rows ++ [MV.tup [MV.str [115, 107, 105, 112]]] = mvs (rows ++ [.skip]) by rw [mvs_app]; rfl]
  refine k_alike hK hg2 hd2 hz2 (by decide) fun h6 p6 => ?_
  have p6 : hp <+: h6 := p5.trans p6
  conv => whnf
  dsimp only
  rw [pre_at p6 e3]
  conv => whnf
  rw [pidx_last]
  dsimp only
  rw [get_last]
  rfl
theorem law_tail {rows : List Rw} {ss : List (List Nat)} {r i3 i4 : Nat} {hp : List MO} {v0 : Option MV} (hg : goods rows) (hd : nests rows ≤ 7) (hz : (lns rows).length ≤ 2000) (hr : hp[r]? = some (.list (ss.map .str))) (ten : ss.length = 10) (gn : ∀ s ∈ ss, Gn s) (e3 : hp[i3]? = some (.list ((lns rows).map .str))) (e4 : hp[i4]? = some (.list ((lns rows).map .str)))
    (n3 : i3 ≠ r) (n4 : i4 ≠ r) (n34 : i3 ≠ i4) : wpSs K 600 (fn_law_3.body.drop 6) (fin fun v _ => v = .bool true) (fun _ _ => False) ⟨[v0, some (.ref r), some (.tup (mvs rows)), some (.ref i3), some (.ref i4), none, none], hp⟩ := by
  have hlt : ((lns rows).map MV.str).length < line := Nat.lt_of_lt_of_le (show _ < 2001 by rw [List.length_map]; (first | lia | omega)) (le_line (by decide))
  have h0 : 0 < ss.length := by (first | lia | omega)
  have hs0 : ss[0]? = some ss[0] := List.getElem?_eq_getElem h0
  have g0 : Gn ss[0] := gn _ (List.getElem_mem h0)
  have hmap : (ss.map MV.str)[(0 : Int).toNat]? = some (.str ss[0]) := by rw [List.getElem?_map]; exact congrArg (Option.map MV.str) hs0
  have p0 : pidx 0 (ss.map MV.str).length = some (0 : Int).toNat := pidx_nat (by decide) (by rw [List.length_map]; (first | lia | omega))
  generalize ss[0] = s0 at *
  have l8 := g0.1.2.1
  have hg2 : goods [.skip, .tell (.nm s0)] := ⟨trivial, ⟨g0, Nat.zero_le _⟩, trivial⟩
  have e2 : ([wSkip, [116, 101, 108, 108, 32] ++ s0] : List (List Nat)) = lns [.skip, .tell (.nm s0)] := rfl
  conv => whnf
  rw [ok_append e3]
  conv => whnf
  dsimp only
  rw [lst_at e3]
  refine ⟨hlt, ?_⟩
  conv => whnf
  dsimp only [MS.put]
  have hr1 := set_other (o' := .list ((lns rows).map MV.str ++ [.str [122, 122]])) n3 hr
  have e41 := set_other (o' := .list ((lns rows).map MV.str ++ [.str [122, 122]])) n34 e4
  have e31 : (hp.set i3 (.list ((lns rows).map MV.str ++ [.str [122, 122]])))[i3]? = some (.list ((lns rows).map MV.str ++ [.str [122, 122]])) := get_set e3
  generalize hp.set i3 (.list ((lns rows).map MV.str ++ [.str [122, 122]])) = hp1 at *
  rw [hr1]
  conv => whnf
  rw [p0]
  dsimp only
  rw [hmap]
  conv => whnf
  refine k_written hK (rs := [.skip, .tell (.nm s0)]) (rls_all hK _) (l := false) hg2 (blk_tup _) (Nat.le_of_ble_eq_true rfl) (Nat.le_of_ble_eq_true rfl) fun h2 p2 a2 => ?_
  have p2 : hp1 <+: h2 := p2
  conv => whnf
  dsimp only
  rw [pre_at p2 hr1]
  conv => whnf
  rw [p0]
  dsimp only
  rw [hmap]
  conv => whnf
  refine ⟨le_line (by simp only [List.length_cons, List.length_nil]; (first | lia | omega)), ?_⟩
  have a2 : h2[hp1.length]? = some (.list ((lns [.skip, .tell (.nm s0)]).map .str)) := a2
  have self : ∀ x : List (List Nat), (x == x) = true := fun x => by simp
  conv => whnf
  refine eq_strs (x := lns [.skip, .tell (.nm s0)]) (y := lns [.skip, .tell (.nm s0)]) (get_old a2) (get_last _ _) (lns_ok hg2) (lns_ok hg2) ?_
  rw [self]
  conv => whnf
  dsimp only [MS.push]
  rw [get_old (pre_at p2 hr1)]
  conv => whnf
  rw [p0]
  dsimp only
  rw [hmap]
  conv => whnf
  refine ⟨le_line (by simp only [List.length_cons, List.length_nil]; (first | lia | omega)), ?_⟩
  conv => whnf
  refine k_read hK (rs := [.skip, .tell (.nm s0)]) hg2 (get_last _ _) (Nat.zero_le _) (by decide) (Nat.le_of_ble_eq_true rfl) fun h3 p3 => ?_
  have p3 : hp1 <+: h3 := (pre_push (pre_push p2)).trans p3
  conv => whnf
  refine k_alike hK (rs := [.skip, .tell (.nm s0)]) hg2 (Nat.zero_le _) (Nat.le_of_ble_eq_true rfl) (by decide) fun h4 p4 => ?_
  have p4 : hp1 <+: h4 := p3.trans p4
  have e44 := pre_at p4 e41
  conv => whnf
  dsimp only
  rw [ok_append e44]
  conv => whnf
  dsimp only
  rw [lst_at e44]
  refine ⟨hlt, ?_⟩
  conv => whnf
  have e45 : (h4.set i4 (.list ((lns rows).map MV.str ++ [.str wSkip])))[i4]? = some (.list ((lns (rows ++ [.skip])).map .str)) := by
    rw [lns_app, List.map_append]; exact get_set e44
  have e35 := set_other (o' := .list ((lns rows).map MV.str ++ [.str wSkip])) (Ne.symm n34) (pre_at p4 e31)
  exact law_end hK hg hd hz e35 e45
theorem law_ok (is : List Int) : wpSs K 600 fn_law_3.body (fin fun v _ => v = .bool true) (fun _ _ => False) (start fn_law_3 [.scr is] []) := by
  conv => whnf
  refine k_cell hK (by decide) ?_
  conv => whnf
  refine k_cell hK (by decide) ?_
  conv => whnf
  refine k_names hK fun h1 r ss hpre hlen hr ten hs hnd hkw => ?_
  have gn : ∀ s ∈ ss, Gn s := fun s h => ⟨hs s h, hkw s h⟩
  conv => whnf
  obtain ⟨ei, el⟩ := ints_slice is
  rw [ei]
  refine k_block hK (cells := pslice is (some 2) (some 42)) (get_last _ _) (get_old hr) ten gn el (by decide) fun h2 i rows hpre2 hat hg hd hz => ?_
  conv => whnf
  dsimp only
  rw [hat]
  conv => whnf
  refine k_written hK (rls_all hK rows) (l := false) hg (blk_tup _) (by (first | lia | omega)) (by (first | lia | omega)) fun h3 p3 a3 => ?_
  have p3 : h2 <+: h3 := p3
  have a3 : h3[h2.length]? = some (.list ((lns rows).map .str)) := a3
  conv => whnf
  dsimp only [MS.set, List.set]
  rw [ty_list a3]
  conv => whnf
  refine ll_of hK (llrs_all hK rows) hg (by (first | lia | omega)) (by (first | lia | omega)) fun h4 i4 p4 _ a4 => ?_
  have p4 : h3 <+: h4 := p4
  conv => whnf
  have self : ∀ x : List (List Nat), (x == x) = true := fun x => by simp
  refine eq_strs (x := lns rows) (y := lns rows) (pre_at p4 a3) a4 (lns_ok hg) (lns_ok hg) ?_
  rw [self]
  conv => whnf
  dsimp only
  rw [pre_at p4 a3]
  conv => whnf
  have a5 : (h4 ++ [MO.list ((lns rows).map .str)])[h4.length]? = some (.list ((lns rows).map .str)) := get_last _ _
  refine k_read hK hg a5 hd (by decide) (by (first | lia | omega)) fun h5 p5 => ?_
  conv => whnf
  refine k_alike hK hg hd (by (first | lia | omega)) (by decide) fun h6 p6 => ?_
  have p6 : h4 ++ [MO.list ((lns rows).map .str)] <+: h6 := List.IsPrefix.trans p5 p6
  have p7 : h3 <+: h6 := (pre_push p4).trans p6
  conv => whnf
  refine eq_strs (x := lns rows) (y := lns rows) (pre_at p6 a5) (pre_at p7 a3) (lns_ok hg) (lns_ok hg) ?_
  rw [self]
  have hp12 : h1 <+: h2 := List.IsPrefix.trans (pre_push (pre_self _)) hpre2
  have hr2 := pre_at hp12 hr
  have l1 : r < h2.length := (List.getElem?_eq_some_iff.mp hr2).1
  have l2 : h2.length < h3.length := (List.getElem?_eq_some_iff.mp a3).1
  have l3 := p4.length_le
  exact law_tail hK hg hd hz (pre_at (p3.trans p7) hr2) ten gn (pre_at p7 a3) (pre_at p6 a5) (by (first | lia | omega)) (by (first | lia | omega)) (by (first | lia | omega))
end Mine
end
open PySem PySem.W PyProof.Rows Mine
set_option Elab.async false
set_option maxRecDepth 100000
set_option maxHeartbeats 8000000
theorem PySem.Challenge.cw_uf010009_03_holds : PySem.Challenge.rw_uf010009_03.Holds := by
  w_on; o_law; o_head Hook.none; (case hw => w_witness2)
  intro w s₀ s₁ mg mb G Y fa o pm cd doc dV kV ho hd hcd hD hmg hg args vals as hpre hlay hrd hwl hlo
  have V := (Ground.X G).2
  have T := G.T
  have B := G.B
  clear hd hcd hD
  wrow_args hpre hlay hrd hwl hlo
  rename Well _ _ _ _ => hW
  rename IntsAre _ _ => hI
  rename Heap.IsList _ _ _ => hL
  rename (¬ _ < _) => hc
  refine law_call T (tab := Mine.tab) (gl := Mine.gl) (f := 46) (x := "law") (d := fn_law_3) ?zzimp ?zzchk ?zzblt ?zzhgl rfl hg rfl rfl hmg rfl (scr_of hW hL hI ?zzhz) (fun K hK => law_ok hK _) ?zzhQ
  case zzimp => decide +kernel
  case zzchk => decide +kernel
  case zzblt => decide +kernel
  case zzhz => unfold line; (first | lia | omega)
  case zzhgl =>
    intro g x v e
    unfold Mine.gl at e
    split at e
    · cases e
      obtain ⟨u, h1, h2⟩ := V.val _ (List.mem_cons_self ..)
      refine ⟨u, h1, fun ρ h' _ => ?_⟩
      cases h2
      exact .int _ _
    · cases e; exact gl_tup B (by decide +kernel) (by unfold line; decide)
    · cases e; exact gl_tup B (by decide +kernel) (by unfold line; decide)
    · cases e; exact gl_str T (by decide +kernel) (by unfold line; decide)
    · cases e; exact gl_str T (by decide +kernel) (by unfold line; decide)
    · cases e; exact gl_int T (by decide +kernel)
    · cases e; exact gl_int T (by decide +kernel)
    · cases e; exact gl_int T (by decide +kernel)
    · cases e; exact gl_int T (by decide +kernel)
    · cases e
  case zzhQ =>
    intro s' h1 h2 h3
    refine GoodW.toG ⟨.inl ⟨_, .bool true, [], rfl, ?_, ?_, ?_, ?_⟩, h1, h2, h3⟩
    · exact fun _ => rfl
    · exact .bool _
    · exact post_true _ _ _
    · exact fun _ => ⟨List.nodup_nil, fun _ h => by cases h⟩
