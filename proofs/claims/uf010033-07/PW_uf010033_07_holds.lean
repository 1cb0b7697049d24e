import PyProof.Rows.All
import Wide.All
import Open.Line
import Wide.FinOn
import PyProof.Rules3
import PyProof.SliceMore
import PyProof.P3Statements
import PyProof.Lay0
import PyProof.Cells
import PyProof.DefCall
import PyProof.PureInt
import PyProof.AutoIntOpsIf
import PyProof.TupleOps
import PyProof.ListOps
import PyProof.ListMulRoad
import PyProof.AutoListH
import PyProof.IsiPairs
import PyProof.IsiHeapPairs
import PyProof.P3Eq
import PyProof.NeData
import PyProof.IsRules
import PyProof.TupleCall
import PyProof.TupleOfSeq
import PyProof.ListCopy
import PyProof.Rows.Tup
import PyProof.Rows.ListMul
import PyProof.Rows.StrRules
import PyProof.Methods
import PyProof.ListIndex
import PyProof.MakeMany
import PyProof.Rows.Nodes
import PyProof.Rows.StrTemp
import PyProof.Rows.AssignMoreSeq
import PyProof.Rows.NewsSeq
import PyProof.Rows.SumAny
import PyProof.WalkInts
import PyProof.EqAt
import PyProof.CallType
import PyProof.IsiNone
import PyProof.CallRoads
import PyProof.FactsAll.list_0
import PyProof.FactsAll.list_3
import PyProof.MeetsSeq
import PyProof.ZipIter
import PyProof.WalksMore
import PyProof.EnumMake
import PyProof.RangeFor
import PyProof.EnumFor
import PyProof.Rows.ListUnroll
import PyProof.Rows.LoopUnroll
import PyProof.CompFree
import PyProof.Rows.IntMath
import PyProof.FitsBits
import PyProof.Rows.TupAssign
import PyProof.Rows.NameDeclared
import PyProof.Rows.Globals
import PyProof.Rows.TupMore
import Lean
import PySem.Challenge.RW_uf010033_07
set_option Elab.async false
section
set_option autoImplicit false
namespace Mine
open PySem

theorem ofString_inj {a b : String} : Str.ofString a = Str.ofString b ↔ a = b := by
  constructor
  · intro h
    rw [Str.ofString_eq_toList, Str.ofString_eq_toList] at h
    have h1 : a.toList.map Char.toNat = b.toList.map Char.toNat := by
      have := congrArg (fun s : Str => s.cps.toList) h
      simpa using this
    have h2 : a.toList = b.toList := by
      refine List.map_inj_right ?_ |>.mp h1
      intro x y e
      exact Char.ext (UInt32.toNat_inj.mp e)
    exact String.toList_inj.mp h2
  · rintro rfl; rfl

/-- Abstract values. -/
inductive D where
  | none
  | bool (b : Bool)
  | int (i : Int)
  | str (x : Str)
  | tup (ds : List D)
  | list (ds : List D)
  | loc (n : Nat)
  | val (v : Value)
  deriving Inhabited

inductive Cell where
  | list (ds : List D)
  | dict (es : List (Str × D))

structure St where
  hi : Nat
  cs : Nat → Option Cell

noncomputable def St.alloc (st : St) (c : Cell) : St := ⟨st.hi + 1, fun n => if n = st.hi then some c else st.cs n⟩
noncomputable def St.put (st : St) (n : Nat) (c : Cell) : St := ⟨st.hi, fun k => if k = n then some c else st.cs k⟩
noncomputable def St.hide (st : St) (p : Nat → Bool) : St := ⟨st.hi, fun k => if p k then none else st.cs k⟩
noncomputable def St.back (st old : St) (p : Nat → Bool) : St := ⟨st.hi, fun k => if p k then old.cs k else st.cs k⟩

noncomputable def lim : Nat := 1000000

mutual
noncomputable def D.undr (hi : Nat) : D → Bool
  | .tup ds => undrAll hi ds
  | .list ds => undrAll hi ds
  | .loc n => decide (n < hi)
  | _ => true
noncomputable def undrAll (hi : Nat) : List D → Bool
  | [] => true
  | d :: ds => D.undr hi d && undrAll hi ds
end
noncomputable def Cell.undr (hi : Nat) : Cell → Bool
  | .list ds => undrAll hi ds
  | .dict es => undrAll hi (es.map (·.2))

mutual
noncomputable def D.py : D → Option PyData
  | .none => some .none
  | .bool b => some (.bool b)
  | .int i => some (.int i)
  | .str x => if PyData.strOk x then some (.str x) else none
  | .tup ds => (pys ds).map .tuple
  | .list ds => (pys ds).map .list
  | .loc _ => none
  | .val _ => none
noncomputable def pys : List D → Option (List PyData)
  | [] => some []
  | d :: ds => match D.py d, pys ds with
    | some x, some xs => some (x :: xs)
    | _, _ => none
end

noncomputable def pyD (st : St) : Nat → D → Option PyData
  | 0, d => d.py
  | k + 1, d => match d with
    | .loc n => (match st.cs n with
      | some (.list ds) => (ds.mapM (pyD st k)).map .list
      | _ => none)
    | .tup ds => (match D.py (.tup ds) with
      | some x => some x
      | none => (ds.mapM (pyD st k)).map .tuple)
    | .list ds => (match D.py (.list ds) with
      | some x => some x
      | none => (ds.mapM (pyD st k)).map .list)
    | d => d.py

/-- freeze: cells made since `hi` become plain data -/
noncomputable def frz (hi : Nat) (st : St) : Nat → D → Option D
  | 0, d => if d.undr hi then some d else none
  | k + 1, d => match d with
    | .loc n => if n < hi then some (.loc n) else (match st.cs n with
      | some (.list ds) => (ds.mapM (frz hi st k)).map .list
      | _ => none)
    | .tup ds => if undrAll hi ds then some (.tup ds) else (ds.mapM (frz hi st k)).map .tup
    | .list ds => if undrAll hi ds then some (.list ds) else (ds.mapM (frz hi st k)).map .list
    | d => some d

noncomputable def St.cut (st : St) (hi : Nat) : St := ⟨hi, fun n => if n < hi then (match st.cs n with
  | some c => if c.undr hi then some c else none
  | none => none) else none⟩

noncomputable def seqD (st : St) : D → Option (List D)
  | .tup ds => some ds
  | .list ds => some ds
  | .loc n => (match st.cs n with
    | some (.list ds) => some ds
    | _ => none)
  | _ => none
noncomputable def lstD (st : St) : D → Option (List D)
  | .list ds => some ds
  | .loc n => (match st.cs n with
    | some (.list ds) => some ds
    | _ => none)
  | _ => none

noncomputable abbrev Loc := Str → Option D
noncomputable def upd (m : Loc) (x : Str) (d : D) : Loc := fun y => if y = x then some d else m y
noncomputable abbrev Kd := Str → Option NameKind
noncomputable abbrev FSpec := List D → St → (D → St → Prop) → Prop

structure Ctx where
  fn : Str → Option FSpec
  gl : Str → Option D

inductive Fl where
  | next | brk | cont
  | ret (d : D)

noncomputable def mkList (trk : Bool) (ds : List D) (st : St) (Q : D → St → Prop) : Prop :=
  ds.length ≤ lim ∧ (if trk then Q (.loc st.hi) (st.alloc (.list ds)) else Q (.list ds) st)

noncomputable def wAdd (trk : Bool) (a b : D) (st : St) (Q : D → St → Prop) : Prop := match a, b with
  | .int i, .int j => Q (.int (i + j)) st
  | .tup xs, .tup ys => xs.length + ys.length ≤ lim ∧ Q (.tup (xs ++ ys)) st
  | a, b => ∃ xs ys, lstD st a = some xs ∧ lstD st b = some ys ∧ mkList trk (xs ++ ys) st Q

noncomputable def wMul (trk : Bool) (a b : D) (st : St) (Q : D → St → Prop) : Prop := match a, b with
  | .int i, .int j => IntMulOk i j ∧ Q (.int (i * j)) st
  | a, .int n => ∃ xs, lstD st a = some xs ∧ -lim ≤ n ∧ n < lim ∧ xs.length ≤ 1 ∧ mkList trk (List.replicate n.toNat xs).flatten st Q
  | _, _ => False

noncomputable def wBin (trk : Bool) (op : Operator) (a b : D) (st : St) (Q : D → St → Prop) : Prop := match op with
  | .Add => wAdd trk a b st Q
  | .Mult => wMul trk a b st Q
  | .Sub => (match a, b with
    | .int i, .int j => Q (.int (i - j)) st
    | _, _ => False)
  | .FloorDiv => (match a, b with
    | .int i, .int j => 0 < j ∧ j < 2 ^ 30 ∧ Q (.int (i / j)) st
    | _, _ => False)
  | .Mod => (match a, b with
    | .int i, .int j => 0 < j ∧ Q (.int (i % j)) st
    | _, _ => False)
  | .Pow => (match a, b with
    | .int i, .int j => i = 10 ∧ j = 20 ∧ Q (.int (10 ^ 20)) st
    | _, _ => False)
  | _ => False

noncomputable def truth : D → Option Bool
  | .bool b => some b
  | _ => none

noncomputable def deepOk (x y : PyData) : Prop := min x.depth y.depth ≤ 1000

noncomputable def wEq (a b : D) (st : St) (K : Bool → Prop) : Prop := match a, b with
  | .int i, .int j => K (i == j)
  | .str x, .str y => K (x == y)
  | a, b => ∃ x y, pyD st 3 a = some x ∧ pyD st 3 b = some y ∧ deepOk x y ∧ K (PyData.eqv x y)

noncomputable def isNoneD : D → Bool
  | .none => true
  | _ => false
noncomputable def isValD : D → Bool
  | .val _ => true
  | _ => false
noncomputable def wIs (a b : D) (K : Bool → Prop) : Prop := isNoneD b = true ∧ isValD a = false ∧ K (isNoneD a)

noncomputable def wIn (a b : D) (st : St) (K : Bool → Prop) : Prop :=
  ∃ ys x ps, seqD st b = some ys ∧ pyD st 3 a = some x ∧ ys.mapM (pyD st 3) = some ps ∧ x.depth ≤ 1000 ∧ K (ps.any fun y => PyData.eqv y x)

noncomputable def wCmp1 (op : CmpOp) (a b : D) (st : St) (K : Bool → Prop) : Prop := match op with
  | .Eq => wEq a b st K
  | .NotEq => wEq a b st fun r => K (!r)
  | .Lt => (match a, b with
    | .int i, .int j => K (decide (i < j))
    | _, _ => False)
  | .LtE => (match a, b with
    | .int i, .int j => K (decide (i ≤ j))
    | _, _ => False)
  | .Gt => (match a, b with
    | .int i, .int j => K (decide (i > j))
    | _, _ => False)
  | .GtE => (match a, b with
    | .int i, .int j => K (decide (i ≥ j))
    | _, _ => False)
  | .Is => wIs a b K
  | .IsNot => wIs a b fun r => K (!r)
  | .In => wIn a b st K
  | .NotIn => wIn a b st fun r => K (!r)

noncomputable def typeIs : D → String → Option Bool
  | .none, T => if T ∈ ["int", "bool", "tuple", "list", "str"] then some false else none
  | .bool _, T => if T ∈ ["int", "bool"] then some true else if T ∈ ["tuple", "list", "str"] then some false else none
  | .int _, T => if T = "int" then some true else if T ∈ ["bool", "tuple", "list", "str"] then some false else none
  | .str _, T => if T = "str" then some true else if T ∈ ["bool", "tuple", "list", "int"] then some false else none
  | .tup _, T => if T = "tuple" then some true else if T ∈ ["bool", "str", "list", "int"] then some false else none
  | .list _, T => if T = "list" then some true else if T ∈ ["bool", "str", "tuple", "int"] then some false else none
  | _, _ => none

noncomputable def intsD : List D → Option (List Int)
  | [] => some []
  | .int i :: ds => (intsD ds).map (i :: ·)
  | _ => none

noncomputable def wBuiltin (trk : Bool) (f : Str) (ds : List D) (st : St) (Q : D → St → Prop) : Prop :=
  if f = "len" then ∃ d xs, ds = [d] ∧ seqD st d = some xs ∧ xs.length ≤ lim ∧ Q (.int xs.length) st
  else if f = "isinstance" then ∃ d T b, ds = [d, .val (.type T)] ∧ typeIs d T = some b ∧ Q (.bool b) st
  else if f = "list" then ∃ d xs, ds = [d] ∧ seqD st d = some xs ∧ mkList trk xs st Q
  else if f = "tuple" then ∃ d xs, ds = [d] ∧ lstD st d = some xs ∧ xs.length ≤ lim ∧ Q (.tup xs) st
  else if f = "min" then (∃ i j, ds = [.int i, .int j] ∧ Q (.int (min i j)) st) ∨ (∃ d xs is i, ds = [d] ∧ lstD st d = some xs ∧ intsD xs = some is ∧ i ∈ is ∧ (∀ a ∈ is, i ≤ a) ∧ Q (.int i) st)
  else if f = "max" then ∃ d xs is i, ds = [d] ∧ lstD st d = some xs ∧ intsD xs = some is ∧ i ∈ is ∧ (∀ a ∈ is, a ≤ i) ∧ Q (.int i) st
  else if f = "sum" then ∃ d xs is, ds = [d] ∧ lstD st d = some xs ∧ intsD xs = some is ∧ Q (.int is.sum) st
  else False

noncomputable def wMeth (nm : Str) (d : D) (ds : List D) (st : St) (Q : D → St → Prop) : Prop :=
  if nm = "append" then ∃ n x xs, d = .loc n ∧ ds = [x] ∧ st.cs n = some (.list xs) ∧ xs.length ≤ lim ∧ Q .none (st.put n (.list (xs ++ [x])))
  else if nm = "clear" then ∃ n xs, d = .loc n ∧ ds = [] ∧ st.cs n = some (.list xs) ∧ xs.length ≤ lim ∧ Q .none (st.put n (.list []))
  else if nm = "extend" then ∃ n y xs ys, d = .loc n ∧ ds = [y] ∧ st.cs n = some (.list xs) ∧ lstD st y = some ys ∧ xs.length + ys.length ≤ lim ∧ Q .none (st.put n (.list (xs ++ ys)))
  else if nm = "index" then ∃ i xs is, ds = [.int i] ∧ lstD st d = some xs ∧ intsD xs = some is ∧ i ∈ is ∧ xs.length ≤ lim ∧ Q (.int (is.idxOf i)) st
  else False

noncomputable def wItem (d i : D) (st : St) (Q : D → St → Prop) : Prop := match i with
  | .int k => -(2 ^ 62) ≤ k ∧ k < 2 ^ 62 ∧ ∃ xs j x, seqD st d = some xs ∧ (0 ≤ k ∨ lstD st d = none) ∧ seqIndex? k xs.length = some j ∧ xs[j]? = some x ∧ Q x st
  | _ => False

noncomputable def pickL {α : Type} (xs : List α) (lo hi st : Option Int) : List α :=
  (sliceRange (sliceBounds lo hi st xs.length).1 (sliceBounds lo hi st xs.length).2.1 (sliceBounds lo hi st xs.length).2.2).filterMap (xs[·]?)

noncomputable def part : D → Option (Option Int)
  | .none => some none
  | .int i => some (some i)
  | _ => none

noncomputable def wSlice (trk : Bool) (d l u s : D) (st : St) (Q : D → St → Prop) : Prop :=
  ∃ lo hi sp, part l = some lo ∧ part u = some hi ∧ part s = some sp ∧ sp ≠ some 0 ∧
    (match d with
    | .tup xs => sp = none ∧ xs.length ≤ lim ∧ ((∃ a : Nat, lo = some (a : Int) ∧ hi = none ∧ 1 ≤ a ∧ a ≤ xs.length ∧ Q (.tup (xs.drop a)) st) ∨ (∃ b : Nat, lo = none ∧ hi = some (b : Int) ∧ b < xs.length ∧ Q (.tup (xs.take b)) st))
    | d => ∃ xs, lstD st d = some xs ∧ xs.length ≤ lim ∧ mkList trk (pickL xs lo hi sp) st Q)

noncomputable def rangeL (a b : Int) : List D := (List.range (b - a).toNat).map fun i : Nat => .int (a + (i : Int))

/-- what an iterable yields, and the cells it leans on -/
noncomputable def wIterD (d : D) (st : St) (K : List D → (Nat → Bool) → Prop) : Prop := match d with
  | .loc n => ∃ xs, st.cs n = some (.list xs) ∧ K xs (fun k => k == n)
  | d => ∃ xs, seqD st d = some xs ∧ K xs (fun _ => false)
noncomputable def zipL (xs ys : List D) : List D := (xs.zip ys).map fun p => .tup [p.1, p.2]
noncomputable def enumL (xs : List D) : List D := xs.zipIdx.map fun p => .tup [.int (p.2 : Nat), p.1]

noncomputable def wFor (step : D → Loc → St → (Fl → Loc → St → Prop) → Prop) : List D → Loc → St → (Fl → Loc → St → Prop) → Prop
  | [], m, st, Q => Q .next m st
  | d :: ds, m, st, Q => step d m st fun fl m' st' => match fl with
    | .next => wFor step ds m' st' Q
    | .cont => wFor step ds m' st' Q
    | .brk => Q .next m' st'
    | .ret d => Q (.ret d) m' st'

noncomputable def wComp (step : D → St → (Option D → St → Prop) → Prop) : List D → List D → St → (List D → St → Prop) → Prop
  | [], acc, st, Q => Q acc st
  | d :: ds, acc, st, Q => step d st fun r st' => match r with
    | some x => wComp step ds (acc ++ [x]) st' Q
    | none => wComp step ds acc st' Q

noncomputable def isOwn (kd : Kd) (x : Str) : Bool := kd x == some .local || kd x == some .cell
noncomputable def isGl (kd : Kd) (x : Str) : Bool := kd x == some .globalImplicit

/-- plain targets: a name, or a tuple of names -/
noncomputable def tgNames : List Expr → Option (List Str)
  | [] => some []
  | .Name x _ :: r => (tgNames r).map (x :: ·)
  | _ => none
noncomputable def updAll (m : Loc) : List Str → List D → Loc
  | x :: xs, d :: ds => updAll (upd m x d) xs ds
  | _, _ => m
noncomputable def wTarget (kd : Kd) (t : Expr) (d : D) (m : Loc) (K : Loc → Prop) : Prop := match t with
  | .Name x _ => isOwn kd x = true ∧ K (upd m x d)
  | .Tuple es _ _ => ∃ xs ds, tgNames es = some xs ∧ xs.all (isOwn kd) = true ∧ d = .tup ds ∧ ds.length = xs.length ∧ K (updAll m xs ds)
  | _ => False

noncomputable def wUn (op : UnaryOp) (a : D) (st : St) (Q : D → St → Prop) : Prop := match op with
  | .USub => (match a with
    | .int i => Q (.int (-i)) st
    | _ => False)
  | .Not => ∃ b, truth a = some b ∧ Q (.bool (!b)) st
  | _ => False

noncomputable def wSetItem (d i v : D) (st : St) (K : St → Prop) : Prop := match i with
  | .int k => ∃ n xs, d = .loc n ∧ st.cs n = some (.list xs) ∧ 0 ≤ k ∧ k < xs.length ∧ xs.length ≤ lim ∧ K (st.put n (.list (xs.set k.toNat v)))
  | _ => False

noncomputable def pinOf : D → Nat → Bool
  | .loc n => fun k => k == n
  | _ => fun _ => false

noncomputable def isTupE : Expr → Bool
  | .Tuple .. => true
  | _ => false
noncomputable def isMeth1 (nm : Str) : Prop := nm = "append" ∨ nm = "extend" ∨ nm = "index"
noncomputable def isCallE : Expr → Bool
  | .Call .. => true
  | _ => false
noncomputable def isSliceE : Expr → Bool
  | .Slice .. => true
  | _ => false

noncomputable def isBltP (f : Str) : Prop := f = "len" ∨ f = "isinstance" ∨ f = "list" ∨ f = "tuple" ∨ f = "min" ∨ f = "max" ∨ f = "sum"
noncomputable def isStarE : Expr → Bool
  | .Starred .. => true
  | _ => false
noncomputable def noStars (es : List Expr) : Bool := es.all fun e => !isStarE e

noncomputable def stopsAnd (op : BoolOp) (b : Bool) : Bool := match op, b with
  | .And, false => true
  | .Or, true => true
  | _, _ => false

noncomputable def ScopeOk (kd : Kd) (scope : Scope) : Prop := scope.kind = .function ∧ (scope.names.map (·.1)).Nodup ∧
  ∀ p ∈ scope.names, p.1 ≠ "__debug__" ∧ p.1 ≠ "__classdict__" ∧ (p.2 = .free → kd p.1 = some .cell ∨ kd p.1 = some .free)

section
variable (Γ : Ctx) (mt : Str → Bool)

noncomputable def wName (kd : Kd) (x : Str) (m : Loc) (st : St) (Q : D → St → Prop) : Prop :=
  if isGl kd x then ∃ d, Γ.gl x = some d ∧ Q d st else ∃ d, m x = some d ∧ Q d st

noncomputable def wCallN (trk : Bool) (x : Str) (ds : List D) (st : St) (Q : D → St → Prop) : Prop := match Γ.fn x with
  | some S => S ds st Q
  | none => wBuiltin trk x ds st Q

noncomputable def iterCall (t : Expr) (f : Str) (ds : List D) (st : St) (K : List D → (Nat → Bool) → Prop) : Prop :=
  if f = "zip" then isTupE t = true ∧ ∃ a b xs ys, ds = [a, b] ∧ seqD st a = some xs ∧ seqD st b = some ys ∧ xs.length ≤ lim ∧ ys.length ≤ lim ∧ K (zipL xs ys) (fun k => pinOf a k || pinOf b k)
  else if f = "enumerate" then isTupE t = true ∧ ∃ a xs, ds = [a] ∧ lstD st a = some xs ∧ xs.length ≤ lim ∧ K (enumL xs) (pinOf a)
  else if f = "range" then (∃ i, ds = [.int i] ∧ i ≤ lim ∧ -lim ≤ i ∧ K (rangeL 0 i) fun _ => false) ∨ (∃ i j, ds = [.int i, .int j] ∧ i ≤ lim ∧ -lim ≤ i ∧ j ≤ lim ∧ -lim ≤ j ∧ K (rangeL i j) fun _ => false)
  else False

mutual
noncomputable def wE : Nat → Bool → Kd → Expr → Loc → St → (D → St → Prop) → Prop
  | 0, _, _, _, _, _, _ => False
  | n + 1, trk, kd, e, m, st, Q => match e with
    | .Constant c _ _ => (match c with
      | .none => Q .none st
      | .bool b => Q (.bool b) st
      | .int i => Q (.int i) st
      | .str x => Q (.str x) st
      | _ => False)
    | .Name x _ => wName Γ kd x m st Q
    | .BoolOp op es _ => wBool n op kd es m st Q
    | .BinOp l op r _ => wE n false kd l m st fun a st1 => wE n false kd r m st1 fun b st2 => wBin trk op a b st2 Q
    | .UnaryOp op x _ => wE n false kd x m st fun a st1 => wUn op a st1 Q
    | .Compare l ops rs _ => wE n false kd l m st fun a st1 => wChain n kd a ops rs m st1 fun b st2 => Q (.bool b) st2
    | .Call f args [] pos => (match f with
      | .Name x _ => isGl kd x = true ∧ noStars args = true ∧ (Γ.fn x = none → isBltP x) ∧ wEs n false kd args m st fun ds st1 => wCallN Γ trk x ds st1 Q
      | .Attribute o nm apos => isCallE o = false ∧ (apos.endLine == pos.line) = true ∧ (match args with
        | [] => wE n false kd o m st fun d st1 => wMeth nm d [] st1 Q
        | [e] => isMeth1 nm ∧ noStars [e] = true ∧ wE n false kd o m st fun d st1 => (lstD st1 d).isSome = true ∧ wE n false kd e m st1 fun x st2 => wMeth nm d [x] st2 Q
        | _ => False)
      | _ => False)
    | .Subscript v s _ => (match s with
      | .Slice l u sp _ => wE n false kd v m st fun d st1 => wOpt n kd l m st1 fun a st2 => wOpt n kd u m st2 fun b st3 => wOpt n kd sp m st3 fun c st4 => wSlice trk d a b c st4 Q
      | s => wE n false kd v m st fun d st1 => wE n false kd s m st1 fun i st2 => wItem d i st2 Q)
    | .Tuple es _ _ => wEs n trk kd es m st fun ds st1 => ds.length ≤ lim ∧ Q (.tup ds) st1
    | .List es _ => wEs n trk kd es m st fun ds st1 => mkList trk ds st1 Q
    | .ListComp elt [⟨t, it, ifs, 0⟩] scope _ => ScopeOk kd scope ∧ wIter n kd t it m st fun items p st1 =>
        wComp (fun d st2 k => wTarget (fun x => scope.names.lookup x) t d (fun x => if scope.names.lookup x = some .free then m x else none) fun m1 =>
          match ifs with
          | [] => wE n trk (fun x => scope.names.lookup x) elt m1 st2 fun x st4 => k (some x) st4
          | [c] => wT n (fun x => scope.names.lookup x) c m1 st2 fun b st3 => if b then wE n trk (fun x => scope.names.lookup x) elt m1 st3 fun x st4 => k (some x) st4 else k none st3
          | _ => False)
          items [] (st1.hide p) fun acc st5 => mkList trk acc (st5.back st1 p) Q
    | _ => False
noncomputable def wEs : Nat → Bool → Kd → List Expr → Loc → St → (List D → St → Prop) → Prop
  | 0, _, _, _, _, _, _ => False
  | n + 1, trk, kd, es, m, st, Q => match es with
    | [] => Q [] st
    | e :: r => wE n trk kd e m st fun d st1 => wEs n trk kd r m st1 fun ds st2 => Q (d :: ds) st2
noncomputable def wOpt : Nat → Kd → Option Expr → Loc → St → (D → St → Prop) → Prop
  | 0, _, _, _, _, _ => False
  | n + 1, kd, e, m, st, Q => match e with
    | none => Q .none st
    | some e => wE n false kd e m st Q
noncomputable def wBool : Nat → BoolOp → Kd → List Expr → Loc → St → (D → St → Prop) → Prop
  | 0, _, _, _, _, _, _ => False
  | n + 1, op, kd, es, m, st, Q => match es with
    | [] => False
    | [x] => wE n false kd x m st Q
    | x :: y :: r => wE n false kd x m st fun d st1 => ∃ b, truth d = some b ∧ (if stopsAnd op b then Q d st1 else wBool n op kd (y :: r) m st1 Q)
noncomputable def wChain : Nat → Kd → D → List CmpOp → List Expr → Loc → St → (Bool → St → Prop) → Prop
  | 0, _, _, _, _, _, _, _ => False
  | n + 1, kd, a, ops, rs, m, st, K => match ops, rs with
    | [op], [r] => wE n false kd r m st fun b st1 => wCmp1 op a b st1 fun v => K v st1
    | op :: o2 :: ops, r :: r2 :: rs => wE n false kd r m st fun b st1 => wCmp1 op a b st1 fun v => if v then wChain n kd b (o2 :: ops) (r2 :: rs) m st1 K else K false st1
    | _, _ => False
noncomputable def wT : Nat → Kd → Expr → Loc → St → (Bool → St → Prop) → Prop
  | 0, _, _, _, _, _ => False
  | n + 1, kd, e, m, st, K => match e with
    | .UnaryOp .Not x _ => wT n kd x m st fun b st1 => K (!b) st1
    | .BoolOp op es _ => wAll n op kd es m st K
    | .Compare l ops rs _ => wE n false kd l m st fun a st1 => wChain n kd a ops rs m st1 K
    | .IfExp .. => False
    | e => wE n false kd e m st fun d st1 => ∃ b, truth d = some b ∧ K b st1
noncomputable def wAll : Nat → BoolOp → Kd → List Expr → Loc → St → (Bool → St → Prop) → Prop
  | 0, _, _, _, _, _, _ => False
  | n + 1, op, kd, es, m, st, K => match es with
    | [] => K (op == .And) st
    | x :: r => wT n kd x m st fun b st1 => if stopsAnd op b then K b st1 else wAll n op kd r m st1 K
noncomputable def wIter : Nat → Kd → Expr → Expr → Loc → St → (List D → (Nat → Bool) → St → Prop) → Prop
  | 0, _, _, _, _, _, _ => False
  | n + 1, kd, t, it, m, st, K => match it with
    | .Set .. => False
    | .Call (.Name f fp) args [] pos => if f = "zip" ∨ f = "range" ∨ f = "enumerate" then isGl kd f = true ∧ noStars args = true ∧ Γ.fn f = none ∧ wEs n false kd args m st fun ds st1 => iterCall t f ds st1 fun xs p => K xs p st1
        else wE n false kd (.Call (.Name f fp) args [] pos) m st fun d st1 => wIterD d st1 fun xs p => xs.length ≤ lim ∧ K xs p st1
    | it => wE n false kd it m st fun d st1 => wIterD d st1 fun xs p => xs.length ≤ lim ∧ K xs p st1
end

mutual
noncomputable def wS : Nat → Kd → Stmt → Loc → St → (Fl → Loc → St → Prop) → Prop
  | 0, _, _, _, _, _ => False
  | n + 1, kd, s, m, st, K => match s with
    | .Expr v _ => isCallE v = true ∧ wE Γ n false kd v m st fun d st1 => (match d with
      | .none => K .next m st1
      | _ => False)
    | .Assign [t] v _ => (match t with
      | .Name x _ => isOwn kd x = true ∧ wE Γ n (mt x) kd v m st fun d st1 => K .next (upd m x d) st1
      | .Tuple es k p => isTupE v = false ∧ wE Γ n false kd v m st fun d st1 => wTarget kd (.Tuple es k p) d m fun m1 => K .next m1 st1
      | .Subscript o i _ => isSliceE i = false ∧ wE Γ n false kd v m st fun d st1 => wE Γ n false kd o m st1 fun od st2 => wE Γ n false kd i m st2 fun id st3 => wSetItem od id d st3 fun st4 => K .next m st4
      | _ => False)
    | .If c a b _ => wT Γ n kd c m st fun r st1 => if r then wSs n kd a m st1 K else wSs n kd b m st1 K
    | .For t it body [] _ => wIter Γ n kd t it m st fun items p st1 =>
        wFor (fun d m st k => wTarget kd t d m fun m1 => wSs n kd body m1 st k) items m (st1.hide p) fun fl m2 st2 => K fl m2 (st2.back st1 p)
    | .Return (some e) _ => wE Γ n false kd e m st fun d st1 => K (.ret d) m st1
    | .Return none _ => K (.ret .none) m st
    | .Pass _ => K .next m st
    | _ => False
noncomputable def wSs : Nat → Kd → List Stmt → Loc → St → (Fl → Loc → St → Prop) → Prop
  | 0, _, _, _, _, _ => False
  | n + 1, kd, ss, m, st, K => match ss with
    | [] => K .next m st
    | s :: r => wS n kd s m st fun fl m1 st1 => (match fl with
      | .next => wSs n kd r m1 st1 K
      | fl => K fl m1 st1)
end

noncomputable def bindM : List Str → List D → Loc
  | x :: xs, d :: ds => upd (bindM xs ds) x d
  | _, _ => fun _ => none

/-- a def's call -/
noncomputable def wFn (n : Nat) (kd : Kd) (params : List Str) (body : List Stmt) : FSpec := fun ds st Q =>
  ds.length = params.length ∧ wSs Γ mt n kd body (bindM params ds) st fun fl _ st' =>
    (match fl with
    | .ret d => if st'.hi = st.hi then Q d st' else ∃ d', frz st.hi st' 3 d = some d' ∧ Q d' (st'.cut st.hi)
    | .next => if st'.hi = st.hi then Q .none st' else Q .none (st'.cut st.hi)
    | _ => False)
end

end Mine
end

section
set_option autoImplicit false
namespace Mine
open PySem

structure Wd where
  R : Addr → Option Obj
  ρ : Nat → Option Addr
  st : St

noncomputable abbrev tupO (vs : List Value) (n : Nat) : Obj := { cls := .type "tuple", dict := none, data := .seq vs.toArray n, slots := #[] }
noncomputable abbrev lstO (vs : List Value) (n : Nat) : Obj := { cls := .type "list", dict := none, data := .seq vs.toArray n, slots := #[] }

mutual
noncomputable def Rep (R : Addr → Option Obj) (ρ : Nat → Option Addr) : D → Value → Prop
  | .none, v => v = .none
  | .bool b, v => v = .bool b
  | .int i, v => ∃ t, v = .int i t
  | .str x, v => ∃ t, v = .str x t
  | .tup ds, v => ∃ a vs n, v = .ref a ∧ R a = some (tupO vs n) ∧ RepAll R ρ ds vs
  | .list ds, v => ∃ a vs n, v = .ref a ∧ R a = some (lstO vs n) ∧ RepAll R ρ ds vs
  | .loc n, v => ∃ a, ρ n = some a ∧ v = .ref a
  | .val u, v => v = u
noncomputable def RepAll (R : Addr → Option Obj) (ρ : Nat → Option Addr) : List D → List Value → Prop
  | [], vs => vs = []
  | d :: ds, vs => ∃ v ws, vs = v :: ws ∧ Rep R ρ d v ∧ RepAll R ρ ds ws
end

section
variable {R R' : Addr → Option Obj} {ρ ρ' : Nat → Option Addr}
mutual
theorem Rep.mono (hR : ∀ a o, R a = some o → R' a = some o) (hρ : ∀ n a, ρ n = some a → ρ' n = some a) : ∀ (d : D) (v : Value), Rep R ρ d v → Rep R' ρ' d v
  | .none, _, h => h
  | .bool _, _, h => h
  | .int _, _, h => h
  | .str _, _, h => h
  | .val _, _, h => h
  | .loc _, _, ⟨a, h, e⟩ => ⟨a, hρ _ _ h, e⟩
  | .tup ds, _, ⟨a, vs, n, e, h, r⟩ => ⟨a, vs, n, e, hR _ _ h, RepAll.mono hR hρ ds vs r⟩
  | .list ds, _, ⟨a, vs, n, e, h, r⟩ => ⟨a, vs, n, e, hR _ _ h, RepAll.mono hR hρ ds vs r⟩
theorem RepAll.mono (hR : ∀ a o, R a = some o → R' a = some o) (hρ : ∀ n a, ρ n = some a → ρ' n = some a) : ∀ (ds : List D) (vs : List Value), RepAll R ρ ds vs → RepAll R' ρ' ds vs
  | [], _, h => h
  | d :: ds, _, ⟨v, ws, e, h, r⟩ => ⟨v, ws, e, Rep.mono hR hρ d v h, RepAll.mono hR hρ ds ws r⟩
end
theorem RepAll.length : ∀ {ds : List D} {vs : List Value}, RepAll R ρ ds vs → vs.length = ds.length
  | [], _, h => by have h' : _ = [] := h; rw [h']; rfl
  | _ :: _, _, ⟨_, _, e, _, r⟩ => by rw [e]; simp [RepAll.length r]
theorem RepAll.get : ∀ {ds : List D} {vs : List Value}, RepAll R ρ ds vs → ∀ (i : Nat) (d : D), ds[i]? = some d → ∃ v, vs[i]? = some v ∧ Rep R ρ d v
  | [], _, _, _, _, h => by simp at h
  | d :: ds, _, ⟨v, ws, e, h, r⟩, 0, d', hd => by subst e; simp at hd; subst hd; exact ⟨v, rfl, h⟩
  | d :: ds, _, ⟨v, ws, e, h, r⟩, i + 1, d', hd => by subst e; simp at hd; obtain ⟨u, hu, hr⟩ := r.get i d' hd; exact ⟨u, by simpa using hu, hr⟩
theorem RepAll.get' : ∀ {ds : List D} {vs : List Value}, RepAll R ρ ds vs → ∀ (i : Nat) (v : Value), vs[i]? = some v → ∃ d, ds[i]? = some d ∧ Rep R ρ d v := by
  intro ds vs h i v hv
  have hl := h.length
  have hi : i < ds.length := by rw [← hl]; exact (List.getElem?_eq_some_iff.mp hv).1
  obtain ⟨u, hu, hr⟩ := h.get i _ (List.getElem?_eq_getElem hi)
  rw [hv] at hu; cases hu
  exact ⟨_, List.getElem?_eq_getElem hi, hr⟩
theorem RepAll.append : ∀ {ds es : List D} {vs ws : List Value}, RepAll R ρ ds vs → RepAll R ρ es ws → RepAll R ρ (ds ++ es) (vs ++ ws)
  | [], _, _, _, h, k => by have h' : _ = [] := h; rw [h']; exact k
  | _ :: _, _, _, _, ⟨v, us, e, h, r⟩, k => by subst e; exact ⟨v, _, rfl, h, r.append k⟩
theorem RepAll.one {d : D} {v : Value} (h : Rep R ρ d v) : RepAll R ρ [d] [v] := ⟨v, [], rfl, h, rfl⟩
theorem RepAll.mk' : ∀ {ds : List D} {vs : List Value}, vs.length = ds.length → (∀ (i : Nat) (d : D) (v : Value), ds[i]? = some d → vs[i]? = some v → Rep R ρ d v) → RepAll R ρ ds vs
  | [], vs, hl, _ => by cases vs with
    | nil => rfl
    | cons _ _ => simp at hl
  | d :: ds, vs, hl, h => by
    cases vs with
    | nil => simp at hl
    | cons v vs => exact ⟨v, vs, rfl, h 0 d v rfl rfl, RepAll.mk' (by simpa using hl) fun i d' v' a b => h (i + 1) d' v' (by simpa using a) (by simpa using b)⟩
theorem RepAll.set {ds : List D} {vs : List Value} (h : RepAll R ρ ds vs) (i : Nat) {d : D} {v : Value} (hd : Rep R ρ d v) : RepAll R ρ (ds.set i d) (vs.set i v) := by
  refine RepAll.mk' (by simp [h.length]) fun j d' v' a b => ?_
  rw [List.getElem?_set] at a b
  by_cases e : i = j
  · subst e
    simp only [if_true] at a b
    split at a
    · split at b
      · cases a; cases b; exact hd
      · cases b
    · cases a
  · simp only [if_neg e] at a b
    obtain ⟨u, hu, hr⟩ := h.get j d' a
    rw [hu] at b; cases b; exact hr
theorem RepAll.nth {ds : List D} {vs : List Value} (h : RepAll R ρ ds vs) {α : Type} (l : List α) (f : α → Nat) : RepAll R ρ (l.filterMap fun a => ds[f a]?) (l.filterMap fun a => vs[f a]?) := by
  induction l with
  | nil => rfl
  | cons a l ih =>
    simp only [List.filterMap_cons]
    cases hd : ds[f a]? with
    | none =>
      have hv : vs[f a]? = none := by
        rw [List.getElem?_eq_none_iff] at hd ⊢; rw [h.length]; exact hd
      rw [hv]; exact ih
    | some d =>
      obtain ⟨v, hv, hr⟩ := h.get _ _ hd
      rw [hv]; exact ⟨v, _, rfl, hr, ih⟩
theorem RepAll.inv {d : D} {ds : List D} {vs : List Value} (h : RepAll R ρ (d :: ds) vs) : ∃ v ws, vs = v :: ws ∧ Rep R ρ d v ∧ RepAll R ρ ds ws := h
end

noncomputable def CellIs (R : Addr → Option Obj) (ρ : Nat → Option Addr) (h : Heap) (a : Addr) : Cell → Prop
  | .list ds => ∃ vs k, h.get? a = some (lstO vs k) ∧ RepAll R ρ ds vs
  | .dict _ => False

structure Sim (h₀ : Heap) (W : Wd) (s : Shared) : Prop where
  base : ∀ b o, h₀.get? b = some o → W.R b = some o
  frz : ∀ b o, W.R b = some o → s.heap.get? b = some o
  cel : ∀ n c, W.st.cs n = some c → ∃ a, W.ρ n = some a ∧ CellIs W.R W.ρ s.heap a c
  dis : ∀ n a, W.ρ n = some a → W.R a = none ∧ ∃ o, s.heap.get? a = some o
  inj : ∀ n k a, W.ρ n = some a → W.ρ k = some a → n = k
  dom : ∀ n a, W.ρ n = some a → n < W.st.hi

structure Step (own : Addr → Prop) (s : Shared) (W : Wd) (s' : Shared) (W' : Wd) : Prop where
  rest : s'.gens = s.gens ∧ s'.os = s.os ∧ s'.drawn = s.drawn
  keep : ∀ b o, s.heap.get? b = some o → (∀ n, W.ρ n = some b → W.st.cs n = none) → ¬ own b → s'.heap.get? b = some o
  live : ∀ b o, s.heap.get? b = some o → ∃ o', s'.heap.get? b = some o'
  extR : ∀ b o, s.heap.get? b = some o → W'.R b = W.R b
  rho : ∀ n a, W.ρ n = some a → W'.ρ n = some a
  new : ∀ n a, W'.ρ n = some a → W.ρ n = some a ∨ s.heap.get? a = none
  hi : W.st.hi ≤ W'.st.hi
  hid : ∀ n, n < W.st.hi → W.st.cs n = none → W'.st.cs n = none

noncomputable def noOwn : Addr → Prop := fun _ => False

theorem Step.refl {own : Addr → Prop} (s : Shared) (W : Wd) : Step own s W s W where
  rest := ⟨rfl, rfl, rfl⟩
  keep := fun _ _ e _ _ => e
  live := fun _ o e => ⟨o, e⟩
  extR := fun _ _ _ => rfl
  rho := fun _ _ e => e
  new := fun _ _ e => .inl e
  hi := Nat.le_refl _
  hid := fun _ _ e => e

theorem Step.trans {own : Addr → Prop} {h₀ : Heap} {s s1 s2 : Shared} {W W1 W2 : Wd} (S : Sim h₀ W s) (x : Step own s W s1 W1) (y : Step own s1 W1 s2 W2) : Step own s W s2 W2 where
  rest := ⟨y.rest.1.trans x.rest.1, y.rest.2.1.trans x.rest.2.1, y.rest.2.2.trans x.rest.2.2⟩
  keep := fun b o e hm ho => y.keep b o (x.keep b o e hm ho) (fun n hn => by
    rcases x.new n b hn with h | h
    · exact x.hid n (S.dom n b h) (hm n h)
    · rw [h] at e; cases e) ho
  live := fun b o e => let ⟨o', e'⟩ := x.live b o e; y.live b o' e'
  extR := fun b o e => let ⟨o', e'⟩ := x.live b o e; (y.extR b o' e').trans (x.extR b o e)
  rho := fun n a e => y.rho n a (x.rho n a e)
  new := fun n a e => by
    rcases y.new n a e with h | h
    · exact x.new n a h
    · right
      cases q : s.heap.get? a with
      | none => rfl
      | some o => obtain ⟨o', e'⟩ := x.live a o q; rw [h] at e'; cases e'
  hi := Nat.le_trans x.hi y.hi
  hid := fun n hn e => y.hid n (Nat.lt_of_lt_of_le hn x.hi) (x.hid n hn e)

theorem Step.wide {own own' : Addr → Prop} {s s' : Shared} {W W' : Wd} (x : Step own s W s' W') (h : ∀ b o, s.heap.get? b = some o → own b → own' b) : Step own' s W s' W' :=
  ⟨x.rest, fun b o e hm ho => x.keep b o e hm fun q => ho (h b o e q), x.live, x.extR, x.rho, x.new, x.hi, x.hid⟩

section
variable {own : Addr → Prop} {h₀ : Heap} {s s' : Shared} {W W' : Wd}
theorem Step.repR (S : Sim h₀ W s) (x : Step own s W s' W') : ∀ a o, W.R a = some o → W'.R a = some o := fun a o e => (x.extR a o (S.frz a o e)).trans e
theorem Step.rep (S : Sim h₀ W s) (x : Step own s W s' W') {d : D} {v : Value} (h : Rep W.R W.ρ d v) : Rep W'.R W'.ρ d v := Rep.mono (x.repR S) x.rho d v h
theorem Step.repAll (S : Sim h₀ W s) (x : Step own s W s' W') {ds : List D} {vs : List Value} (h : RepAll W.R W.ρ ds vs) : RepAll W'.R W'.ρ ds vs := RepAll.mono (x.repR S) x.rho ds vs h

theorem Sim.toks (S : Sim h₀ W s) (t : Nat) : Sim h₀ W { s with toks := t } := ⟨S.base, S.frz, S.cel, S.dis, S.inj, S.dom⟩
theorem Step.toks (s : Shared) (W : Wd) (t : Nat) : Step own s W { s with toks := t } W :=
  ⟨⟨rfl, rfl, rfl⟩, fun _ _ e _ _ => e, fun _ o e => ⟨o, e⟩, fun _ _ _ => rfl, fun _ _ e => e, fun _ _ e => .inl e, Nat.le_refl _, fun _ _ e => e⟩

/-- new objects, some of them frozen -/
theorem Sim.ext (S : Sim h₀ W s) {h' : Heap} {tk : Nat} (hk : ∀ b o, s.heap.get? b = some o → h'.get? b = some o) (Rn : Addr → Option Obj)
    (hn : ∀ b o, Rn b = some o → s.heap.get? b = none ∧ h'.get? b = some o) :
    Step own s W { s with heap := h', toks := tk } { W with R := fun b => (Rn b).or (W.R b) } ∧ Sim h₀ { W with R := fun b => (Rn b).or (W.R b) } { s with heap := h', toks := tk } := by
  have none_of : ∀ b o, s.heap.get? b = some o → Rn b = none := fun b o e => by
    cases q : Rn b with
    | none => rfl
    | some o' => rw [(hn b o' q).1] at e; cases e
  have mono : ∀ a o, W.R a = some o → (Rn a).or (W.R a) = some o := fun a o e => by rw [none_of a o (S.frz a o e)]; exact e
  refine ⟨⟨⟨rfl, rfl, rfl⟩, fun b o e _ _ => hk b o e, fun b o e => ⟨o, hk b o e⟩, fun b o e => ?_, fun _ _ e => e, fun _ _ e => .inl e, Nat.le_refl _, fun _ _ e => e⟩, ⟨fun b o e => mono b o (S.base b o e), fun b o e => ?_, fun n c e => ?_, fun n a e => ?_, S.inj, S.dom⟩⟩
  · show (Rn b).or (W.R b) = W.R b
    rw [none_of b o e]; rfl
  · have e1 : (Rn b).or (W.R b) = some o := e
    cases q : Rn b with
    | none => rw [q] at e1; exact hk b o (S.frz b o e1)
    | some o' =>
      rw [q] at e1
      have e2 : some o' = some o := e1
      cases e2
      exact (hn b _ q).2
  · obtain ⟨a, ha, hc⟩ := S.cel n c e
    refine ⟨a, ha, ?_⟩
    cases c with
    | list ds => obtain ⟨vs, k, hg, hr⟩ := hc; exact ⟨vs, k, hk _ _ hg, RepAll.mono mono (fun _ _ e => e) ds vs hr⟩
    | dict es => exact hc
  · obtain ⟨h1, o, h2⟩ := S.dis n a e
    refine ⟨?_, o, hk a o h2⟩
    show (Rn a).or (W.R a) = none
    rw [none_of a o h2, h1]; rfl

theorem Sim.grow (S : Sim h₀ W s) {h' : Heap} {tk : Nat} (hk : ∀ b o, s.heap.get? b = some o → h'.get? b = some o) :
    Step own s W { s with heap := h', toks := tk } W ∧ Sim h₀ W { s with heap := h', toks := tk } := S.ext hk (fun _ => none) (fun _ _ e => by cases e)

/-- a new tracked list -/
theorem Sim.track (S : Sim h₀ W s) {h' : Heap} {tk : Nat} (hk : ∀ b o, s.heap.get? b = some o → h'.get? b = some o) {a : Addr} {vs : List Value} {k : Nat} {ds : List D}
    (ha : s.heap.get? a = none) (hg : h'.get? a = some (lstO vs k)) (hr : RepAll W.R W.ρ ds vs) :
    let W' : Wd := { W with ρ := fun n => if n = W.st.hi then some a else W.ρ n, st := W.st.alloc (.list ds) }
    Step own s W { s with heap := h', toks := tk } W' ∧ Sim h₀ W' { s with heap := h', toks := tk } ∧ W'.ρ W.st.hi = some a := by
  intro W'
  have old : ∀ n b, W.ρ n = some b → W'.ρ n = some b := fun n b e => by
    show (if n = W.st.hi then some a else W.ρ n) = some b
    rw [if_neg (Nat.ne_of_lt (S.dom n b e))]; exact e
  have cases' : ∀ n b, W'.ρ n = some b → (n = W.st.hi ∧ b = a) ∨ W.ρ n = some b := fun n b e => by
    by_cases q : n = W.st.hi
    · left; refine ⟨q, ?_⟩
      have : (if n = W.st.hi then some a else W.ρ n) = some b := e
      rw [if_pos q] at this; exact (Option.some.inj this).symm
    · right
      have : (if n = W.st.hi then some a else W.ρ n) = some b := e
      rwa [if_neg q] at this
  have na : ∀ n, W.ρ n ≠ some a := fun n e => by obtain ⟨_, o, h2⟩ := S.dis n a e; rw [ha] at h2; cases h2
  refine ⟨⟨⟨rfl, rfl, rfl⟩, fun b o e _ _ => hk b o e, fun b o e => ⟨o, hk b o e⟩, fun _ _ _ => rfl, old, fun n b e => ?_, Nat.le_succ _, fun n hn e => ?_⟩, ⟨S.base, fun b o e => hk b o (S.frz b o e), fun n c e => ?_, fun n b e => ?_, fun n k' b e1 e2 => ?_, fun n b e => ?_⟩, ?_⟩
  · rcases cases' n b e with ⟨_, rfl⟩ | h
    · exact .inr ha
    · exact .inl h
  · show (if n = W.st.hi then some _ else W.st.cs n) = none
    rw [if_neg (Nat.ne_of_lt hn)]; exact e
  · have e' : (if n = W.st.hi then some (Cell.list ds) else W.st.cs n) = some c := e
    by_cases q : n = W.st.hi
    · rw [if_pos q] at e'; cases e'
      exact ⟨a, by show (if n = W.st.hi then some a else W.ρ n) = some a; rw [if_pos q], vs, k, hg, RepAll.mono (fun _ _ e => e) old ds vs hr⟩
    · rw [if_neg q] at e'
      obtain ⟨b, hb, hc⟩ := S.cel n c e'
      refine ⟨b, old n b hb, ?_⟩
      cases c with
      | list ds' => obtain ⟨vs', k', hg', hr'⟩ := hc; exact ⟨vs', k', hk _ _ hg', RepAll.mono (fun _ _ e => e) old ds' vs' hr'⟩
      | dict es => exact hc
  · rcases cases' n b e with ⟨_, rfl⟩ | h
    · refine ⟨?_, _, hg⟩
      cases q : W.R b with
      | none => rfl
      | some o => have := S.frz b o q; rw [ha] at this; cases this
    · obtain ⟨h1, o, h2⟩ := S.dis n b h; exact ⟨h1, o, hk b o h2⟩
  · rcases cases' n b e1 with ⟨q1, r1⟩ | h1
    · rcases cases' k' b e2 with ⟨q2, _⟩ | h2
      · rw [q1, q2]
      · exact absurd (r1 ▸ h2) (na k')
    · rcases cases' k' b e2 with ⟨_, r2⟩ | h2
      · exact absurd (r2 ▸ h1) (na n)
      · exact S.inj n k' b h1 h2
  · rcases cases' n b e with ⟨q, _⟩ | h
    · rw [q]; exact Nat.lt_succ_self _
    · exact Nat.lt_succ_of_lt (S.dom n b h)
  · show (if W.st.hi = W.st.hi then some a else W.ρ W.st.hi) = some a
    rw [if_pos rfl]

/-- a tracked list is changed -/
theorem Sim.put (S : Sim h₀ W s) {h' : Heap} {tk n : Nat} {a : Addr} {c : Cell} {vs : List Value} {k : Nat} {ds : List D} (hρ : W.ρ n = some a) (hc : W.st.cs n = some c)
    (hs : ∀ b o, b ≠ a → s.heap.get? b = some o → h'.get? b = some o) (hg : h'.get? a = some (lstO vs k)) (hr : RepAll W.R W.ρ ds vs) :
    let W' : Wd := { W with st := W.st.put n (.list ds) }
    Step own s W { s with heap := h', toks := tk } W' ∧ Sim h₀ W' { s with heap := h', toks := tk } := by
  intro W'
  have Ra : W.R a = none := (S.dis n a hρ).1
  refine ⟨⟨⟨rfl, rfl, rfl⟩, fun b o e hm _ => hs b o (fun q => ?_) e, fun b o e => ?_, fun _ _ _ => rfl, fun _ _ e => e, fun _ _ e => .inl e, Nat.le_refl _, fun j hj e => ?_⟩, ⟨S.base, fun b o e => hs b o (fun q => ?_) (S.frz b o e), fun j c' e => ?_, fun j b e => ?_, S.inj, S.dom⟩⟩
  · rw [q] at hm; have := hm n hρ; rw [hc] at this; cases this
  · by_cases q : b = a
    · exact ⟨_, q ▸ hg⟩
    · exact ⟨o, hs b o q e⟩
  · show (if j = n then some _ else W.st.cs j) = none
    by_cases q : j = n
    · rw [q, hc] at e; cases e
    · rw [if_neg q]; exact e
  · rw [q, Ra] at e; cases e
  · have e' : (if j = n then some (Cell.list ds) else W.st.cs j) = some c' := e
    by_cases q : j = n
    · rw [if_pos q] at e'; cases e'
      exact ⟨a, q ▸ hρ, vs, k, hg, hr⟩
    · rw [if_neg q] at e'
      obtain ⟨b, hb, hc'⟩ := S.cel j c' e'
      refine ⟨b, hb, ?_⟩
      have nb : b ≠ a := fun x => q (S.inj j n a (x ▸ hb) hρ)
      cases c' with
      | list ds' => obtain ⟨vs', k', hg', hr'⟩ := hc'; exact ⟨vs', k', hs _ _ nb hg', hr'⟩
      | dict es => exact hc'
  · obtain ⟨h1, o, h2⟩ := S.dis j b e
    refine ⟨h1, ?_⟩
    by_cases q : b = a
    · exact ⟨_, q ▸ hg⟩
    · exact ⟨o, hs b o q h2⟩
end

/-- own objects change (a frame's names) -/
theorem Sim.ownStep {own : Addr → Prop} {h₀ : Heap} {s : Shared} {W : Wd} (S : Sim h₀ W s) {h' : Heap} {tk : Nat} {a : Addr} (ha : own a) (hR : W.R a = none) (hρ : ∀ n, W.ρ n ≠ some a)
    (hs : ∀ b o, b ≠ a → s.heap.get? b = some o → h'.get? b = some o) (hl : ∃ o, h'.get? a = some o) :
    Step own s W { s with heap := h', toks := tk } W ∧ Sim h₀ W { s with heap := h', toks := tk } := by
  refine ⟨⟨⟨rfl, rfl, rfl⟩, fun b o e _ no => hs b o (fun q => no (q ▸ ha)) e, fun b o e => ?_, fun _ _ _ => rfl, fun _ _ e => e, fun _ _ e => .inl e, Nat.le_refl _, fun _ _ e => e⟩, ⟨S.base, fun b o e => hs b o (fun q => ?_) (S.frz b o e), fun n c e => ?_, fun n b e => ?_, S.inj, S.dom⟩⟩
  · by_cases q : b = a
    · exact q ▸ hl
    · exact ⟨o, hs b o q e⟩
  · rw [q, hR] at e; cases e
  · obtain ⟨b, hb, hc⟩ := S.cel n c e
    refine ⟨b, hb, ?_⟩
    cases c with
    | list ds => obtain ⟨vs, k, hg, hr⟩ := hc; exact ⟨vs, k, hs _ _ (fun q => hρ n (q ▸ hb)) hg, hr⟩
    | dict es => exact hc
  · obtain ⟨h1, o, h2⟩ := S.dis n b e
    exact ⟨h1, o, hs _ _ (fun q => hρ n (q ▸ e)) h2⟩

/-- fewer cells are looked at -/
theorem Sim.hide {h₀ : Heap} {s : Shared} {W : Wd} (S : Sim h₀ W s) (p : Nat → Bool) : Sim h₀ { W with st := W.st.hide p } s where
  base := S.base
  frz := S.frz
  cel := fun n c e => by
    have e' : (if p n then none else W.st.cs n) = some c := e
    cases q : p n with
    | true => rw [q] at e'; cases e'
    | false => rw [q] at e'; exact S.cel n c e'
  dis := S.dis
  inj := S.inj
  dom := S.dom

end Mine
end

section
set_option autoImplicit false
namespace Mine
open PySem

noncomputable def E0 : Value → Shared → Prop := fun _ _ => False

section
variable (prog : Program) (w : World) (A : Around) (h₀ : Heap)
noncomputable def Fin' (own : Addr → Prop) {α : Type} (s : Shared) (W : Wd) (post : α → Wd → Shared → Prop) : α → Shared → Prop :=
  fun v s' => ∃ W', Step own s W s' W' ∧ Sim h₀ W' s' ∧ post v W' s'
noncomputable def OK (own : Addr → Prop) {α : Type} (t : Sem α) (W : Wd) (s : Shared) (post : α → Wd → Shared → Prop) : Prop :=
  wpAny (model prog w) A t (Fin' h₀ own s W post) E0 s
end

noncomputable def VP (Q : D → St → Prop) : Value → Wd → Shared → Prop := fun v W _ => ∃ d, Rep W.R W.ρ d v ∧ Q d W.st
noncomputable def VPs (Q : List D → St → Prop) : List Value → Wd → Shared → Prop := fun vs W _ => ∃ ds, RepAll W.R W.ρ ds vs ∧ Q ds W.st
noncomputable def BP (K : Bool → St → Prop) : Bool → Wd → Shared → Prop := fun b W _ => K b W.st

section
variable {prog : Program} {w : World} {A : Around} {h₀ : Heap} {own : Addr → Prop} {α β : Type} {W : Wd} {s : Shared}

theorem OK.pure {a : α} {post : α → Wd → Shared → Prop} (S : Sim h₀ W s) (h : post a W s) : OK prog w A h₀ own (Pure.pure a) W s post :=
  wpAny_pure ⟨W, Step.refl s W, S, h⟩
theorem OK.mono {t : Sem α} {P P' : α → Wd → Shared → Prop} (h : OK prog w A h₀ own t W s P) (k : ∀ v W' s', Step own s W s' W' → Sim h₀ W' s' → P v W' s' → P' v W' s') : OK prog w A h₀ own t W s P' :=
  wpAny_mono h (fun v s' ⟨W', a, b, c⟩ => ⟨W', a, b, k v W' s' a b c⟩) fun _ _ e => e
theorem OK.bind {t : Sem α} {f : α → Sem β} {P : α → Wd → Shared → Prop} {post : β → Wd → Shared → Prop} (S : Sim h₀ W s) (h : OK prog w A h₀ own t W s P)
    (k : ∀ v W1 s1, Step own s W s1 W1 → Sim h₀ W1 s1 → P v W1 s1 → OK prog w A h₀ own (f v) W1 s1 post) : OK prog w A h₀ own (t >>= f) W s post :=
  wpAny_bind (wpAny_mono h (fun v s1 ⟨W1, a, b, c⟩ => wpAny_mono (k v W1 s1 a b c) (fun r s' ⟨W', a', b', c'⟩ => ⟨W', a.trans S a', b', c'⟩) fun _ _ e => e) fun _ _ e => e)
theorem OK.after {t : Sem α} {s1 : Shared} {W1 : Wd} {post : α → Wd → Shared → Prop} (S : Sim h₀ W s) (x : Step own s W s1 W1)
    (h : OK prog w A h₀ own t W1 s1 post) : wpAny (model prog w) A t (Fin' h₀ own s W post) E0 s1 :=
  wpAny_mono h (fun r s' ⟨W', a', b', c'⟩ => ⟨W', x.trans S a', b', c'⟩) fun _ _ e => e
theorem OK.wide {own' : Addr → Prop} {t : Sem α} {post : α → Wd → Shared → Prop} (h : OK prog w A h₀ own t W s post) (k : ∀ b o, s.heap.get? b = some o → own b → own' b) : OK prog w A h₀ own' t W s post :=
  wpAny_mono h (fun v s' ⟨W', a, b, c⟩ => ⟨W', a.wide k, b, c⟩) fun _ _ e => e
theorem OK.holding {vs : List Value} {t : Sem α} {post : α → Wd → Shared → Prop} (h : OK prog w A h₀ own t W s post) : OK prog w A h₀ own (holding vs t) W s post := wpAny_holding h
theorem OK.stand {pos : Pos} {f : Unit → Sem β} {post : β → Wd → Shared → Prop} (h : OK prog w A h₀ own (f ()) W s post) : OK prog w A h₀ own (standAt pos >>= f) W s post := wpAny_bind (wpAny_standAt h)
theorem OK.operate {vs : List Value} {t : Sem Value} {post : Value → Wd → Shared → Prop} (h : OK prog w A h₀ own t W s post) : OK prog w A h₀ own (operate vs t) W s post :=
  fun Γ p hΓ => by rw [Sem.wp_operate]; exact h Γ p hΓ
theorem OK.ite {c : Prop} [Decidable c] {a b : Sem α} {post : α → Wd → Shared → Prop} (h1 : c → OK prog w A h₀ own a W s post) (h2 : ¬ c → OK prog w A h₀ own b W s post) : OK prog w A h₀ own (if c then a else b) W s post := by
  by_cases q : c
  · rw [if_pos q]; exact h1 q
  · rw [if_neg q]; exact h2 q
/-- nested form, as the library's rules want it -/
theorem OK.nest {t : Sem α} {T : α → Sem β} {P : α → Wd → Shared → Prop} {post : β → Wd → Shared → Prop} (S : Sim h₀ W s) (h : OK prog w A h₀ own t W s P)
    (k : ∀ v W1 s1, Step own s W s1 W1 → Sim h₀ W1 s1 → P v W1 s1 → OK prog w A h₀ own (T v) W1 s1 post) :
    wpAny (model prog w) A t (fun v s1 => wpAny (model prog w) A (T v) (Fin' h₀ own s W post) E0 s1) E0 s :=
  wpAny_mono h (fun v s1 ⟨W1, a, b, c⟩ => OK.after S a (k v W1 s1 a b c)) fun _ _ e => e
end

/-- the value of a name in a frame -/
noncomputable def NameH (h : Heap) (env : Env) (x : Str) (v : Value) : Prop :=
  (env.kindOf x = some .local ∧ ∃ mv, h.Ns env.locals mv ∧ mv x = some v) ∨
  ((env.kindOf x = some .cell ∨ env.kindOf x = some .free) ∧ ∃ c, env.cells.lookup x = some c ∧ h.IsCell c (some v))

structure Fram (own : Addr → Prop) (env : Env) (kd : Kd) (m : Loc) (W : Wd) (s : Shared) : Prop where
  fn : env.scope.kind = .function
  gl : env.globals = mainGlobals
  bi : env.builtins = builtinsNs
  kE : ∀ x k, kd x = some k → k ≠ .free → env.kindOf x = some k
  dbg : kd "__debug__" = none ∧ kd "__classdict__" = none
  nm : ∀ x d, m x = some d → kd x ≠ none ∧ ∃ v, NameH s.heap env x v ∧ Rep W.R W.ρ d v
  ns : ∃ mv, s.heap.Ns env.locals mv
  cl : ∀ x c, env.cells.lookup x = some c → (∃ v, s.heap.IsCell c v) ∧ c ≠ env.locals ∧ ∀ n, W.ρ n ≠ some c
  ci : ∀ x y c, env.cells.lookup x = some c → env.cells.lookup y = some c → x = y
  lo : own env.locals ∧ W.R env.locals = none ∧ ∀ n, W.ρ n ≠ some env.locals
  co : ∀ x, kd x = some .cell → ∃ c, env.cells.lookup x = some c ∧ own c ∧ W.R c = none
  kF : ∀ x, kd x = some .free → (env.kindOf x = some .cell ∨ env.kindOf x = some .free) ∧ ∃ c, env.cells.lookup x = some c

section
variable {own : Addr → Prop} {env : Env} {kd : Kd} {m : Loc} {W W' : Wd} {s s' : Shared} {h₀ : Heap}

theorem NameH.at {h h' : Heap} {x : Str} {v : Value} (H : NameH h env x v) (hl : ∀ o, h.get? env.locals = some o → h'.get? env.locals = some o)
    (hc : ∀ c o, env.cells.lookup x = some c → h.get? c = some o → h'.get? c = some o) : NameH h' env x v := by
  rcases H with ⟨k, mv, ⟨o, es, ep, ho, r⟩, hx⟩ | ⟨k, c, hx, o, ho, r⟩
  · exact .inl ⟨k, mv, ⟨o, es, ep, hl o ho, r⟩, hx⟩
  · exact .inr ⟨k, c, hx, o, hc c o hx ho, r⟩

/-- a frame that nobody touches -/
theorem Fram.step {own' : Addr → Prop} (S : Sim h₀ W s) (F : Fram own env kd m W s) (x : Step own' s W s' W') (hd : ¬ own' env.locals ∧ ∀ y c, env.cells.lookup y = some c → ¬ own' c) : Fram own env kd m W' s' := by
  obtain ⟨mv, o, es, ep, ho, r⟩ := F.ns
  have kl : ∀ o, s.heap.get? env.locals = some o → s'.heap.get? env.locals = some o := fun o e => x.keep _ o e (fun n q => absurd q (F.lo.2.2 n)) hd.1
  have kc : ∀ y c o, env.cells.lookup y = some c → s.heap.get? c = some o → s'.heap.get? c = some o := fun y c o q e => x.keep _ o e (fun n q' => absurd q' ((F.cl y c q).2.2 n)) (hd.2 y c q)
  have lv : ∀ y c, env.cells.lookup y = some c → ∃ o, s.heap.get? c = some o := fun y c q => by obtain ⟨⟨v, o, e, _⟩, _⟩ := F.cl y c q; exact ⟨o, e⟩
  refine ⟨F.fn, F.gl, F.bi, F.kE, F.dbg, fun y d e => ?_, ⟨mv, o, es, ep, kl o ho, r⟩, fun y c q => ?_, F.ci, ⟨F.lo.1, ?_, fun n q => ?_⟩, fun y e => ?_, F.kF⟩
  · obtain ⟨h1, v, h2, h3⟩ := F.nm y d e
    exact ⟨h1, v, h2.at kl (fun c o q e => kc y c o q e), x.rep S h3⟩
  · obtain ⟨⟨v, o', e', r'⟩, h2, h3⟩ := F.cl y c q
    refine ⟨⟨v, o', kc y c o' q e', r'⟩, h2, fun n q' => ?_⟩
    rcases x.new n c q' with h | h
    · exact h3 n h
    · rw [e'] at h; cases h
  · rw [x.extR _ o ho]; exact F.lo.2.1
  · rcases x.new n _ q with h | h
    · exact F.lo.2.2 n h
    · rw [ho] at h; cases h
  · obtain ⟨c, h1, h2, h3⟩ := F.co y e
    obtain ⟨o', e'⟩ := lv y c h1
    exact ⟨c, h1, h2, by rw [x.extR _ o' e']; exact h3⟩

theorem Fram.step0 (S : Sim h₀ W s) (F : Fram own env kd m W s) (x : Step noOwn s W s' W') : Fram own env kd m W' s' := F.step S x ⟨id, fun _ _ _ => id⟩

theorem Fram.forget (F : Fram own env kd m W s) {m' : Loc} (h : ∀ x d, m' x = some d → m x = some d) : Fram own env kd m' W s :=
  ⟨F.fn, F.gl, F.bi, F.kE, F.dbg, fun x d e => F.nm x d (h x d e), F.ns, F.cl, F.ci, F.lo, F.co, F.kF⟩
theorem Fram.st (F : Fram own env kd m W s) (st' : St) : Fram own env kd m { W with st := st' } s :=
  ⟨F.fn, F.gl, F.bi, F.kE, F.dbg, F.nm, F.ns, F.cl, F.ci, F.lo, F.co, F.kF⟩
end

section
variable {prog : Program} {w : World} {A : Around} {h₀ : Heap} {own : Addr → Prop} {env : Env} {kd : Kd} {m : Loc} {W : Wd} {s : Shared}

theorem ok_load {x : Str} {d : D} {Q : D → St → Prop} (S : Sim h₀ W s) (F : Fram own env kd m W s) (hx : m x = some d) (h : Q d W.st) :
    OK prog w A h₀ noOwn (loadName env x) W s (VP Q) := by
  obtain ⟨hk, v, H, hr⟩ := F.nm x d hx
  have fin : Fin' h₀ noOwn s W (VP Q) v s := ⟨W, Step.refl s W, S, d, hr, h⟩
  rcases H with ⟨k, mv, hns, hv⟩ | ⟨k, c, hc, hv⟩
  · exact wpAny_loadName_local F.fn k hns hv fin
  · rcases k with k | k
    · exact wpAny_loadName_cell F.fn k hc hv fin
    · refine wpAny_loadName_free F.fn k hc hv fin ?_
      cases q : x == ("__classdict__" : Str) with
      | false => rfl
      | true => rw [beq_iff_eq.mp q] at hk; exact absurd F.dbg.2 hk

theorem ok_store {x : Str} {d : D} {v : Value} (S : Sim h₀ W s) (F : Fram own env kd m W s) (hx : isOwn kd x = true) (hr : Rep W.R W.ρ d v) :
    OK prog w A h₀ own (storeName env x v) W s (fun _ W' s' => W' = W ∧ Fram own env kd (upd m x d) W s') := by
  have hx' : kd x = some .local ∨ kd x = some .cell := by
    unfold isOwn at hx
    rcases Bool.or_eq_true_iff.mp hx with q | q
    · exact .inl (beq_iff_eq.mp q)
    · exact .inr (beq_iff_eq.mp q)
  have hkn : kd x ≠ none := by rcases hx' with q | q <;> rw [q] <;> exact fun z => nomatch z
  rcases hx' with hk | hk
  · have hkE := F.kE x _ hk (by intro z; cases z)
    obtain ⟨mv, hns⟩ := F.ns
    refine wpAny_storeName_local hkE hns (fun h' hn' hs' => ?_) (by rw [F.fn]; rfl)
    have ext : ∀ b o, b ≠ env.locals → s.heap.get? b = some o → h'.get? b = some o := fun b o q e => (hs'.2 b q).trans e
    have lv : ∃ o, h'.get? env.locals = some o := let ⟨o, _, _, ho, _⟩ := hn'; ⟨o, ho⟩
    obtain ⟨st, sm⟩ := S.ownStep (own := own) (tk := s.toks + 1) F.lo.1 F.lo.2.1 F.lo.2.2 ext lv
    refine ⟨W, st, sm, rfl, F.fn, F.gl, F.bi, F.kE, F.dbg, fun y e he => ?_, ⟨_, hn'⟩, fun y c q => ?_, F.ci, F.lo, F.co, F.kF⟩
    · by_cases q : y = x
      · subst q
        have he' : some d = some e := by have : (if y = y then some d else m y) = some e := he; rwa [if_pos rfl] at this
        cases he'
        exact ⟨hkn, v, .inl ⟨hkE, _, hn', by simp⟩, hr⟩
      · have he' : m y = some e := by have : (if y = x then some d else m y) = some e := he; rwa [if_neg q] at this
        obtain ⟨h1, u, H, hu⟩ := F.nm y e he'
        refine ⟨h1, u, ?_, hu⟩
        rcases H with ⟨k, mv', hns', hv'⟩ | ⟨k, c, hc, o, ho, r⟩
        · refine .inl ⟨k, _, hn', ?_⟩
          show (if y = x then some v else mv y) = some u
          rw [if_neg q]
          have : mv' = mv := by
            obtain ⟨o1, es1, ep1, ho1, hd1, _, hf1⟩ := hns'
            obtain ⟨o2, es2, ep2, ho2, hd2, _, hf2⟩ := hns
            rw [ho1] at ho2; cases ho2
            rw [hd1] at hd2; cases hd2
            funext z; rw [← hf1 z, hf2 z]
          rw [← this]; exact hv'
        · exact .inr ⟨k, c, hc, o, ext c o (F.cl y c hc).2.1 ho, r⟩
    · obtain ⟨⟨u, o, ho, r⟩, h2, h3⟩ := F.cl y c q
      exact ⟨⟨u, o, ext c o h2 ho, r⟩, h2, h3⟩
  · have hkE := F.kE x _ hk (by intro z; cases z)
    obtain ⟨c, hc, hoc, hRc⟩ := F.co x hk
    obtain ⟨⟨v0, hcell⟩, hcl, hcr⟩ := F.cl x c hc
    refine wpAny_storeName_cell F.fn hkE hc hcell (fun h' hn' hs' => ?_)
    have ext : ∀ b o, b ≠ c → s.heap.get? b = some o → h'.get? b = some o := fun b o q e => (hs'.2 b q).trans e
    have lv : ∃ o, h'.get? c = some o := let ⟨o, ho, _⟩ := hn'; ⟨o, ho⟩
    obtain ⟨st, sm⟩ := S.ownStep (own := own) (tk := s.toks) hoc hRc hcr ext lv
    obtain ⟨mv, o0, es0, ep0, ho0, r0⟩ := F.ns
    refine ⟨W, st, sm, rfl, F.fn, F.gl, F.bi, F.kE, F.dbg, fun y e he => ?_, ⟨mv, o0, es0, ep0, ext _ _ hcl.symm ho0, r0⟩, fun y c' q => ?_, F.ci, F.lo, F.co, F.kF⟩
    · by_cases q : y = x
      · subst q
        have he' : some d = some e := by have : (if y = y then some d else m y) = some e := he; rwa [if_pos rfl] at this
        cases he'
        exact ⟨hkn, v, .inr ⟨.inl hkE, c, hc, hn'⟩, hr⟩
      · have he' : m y = some e := by have : (if y = x then some d else m y) = some e := he; rwa [if_neg q] at this
        obtain ⟨h1, u, H, hu⟩ := F.nm y e he'
        refine ⟨h1, u, ?_, hu⟩
        refine H.at (fun o e => ext _ o hcl.symm e) (fun c' o q' e => ext _ o (fun z => q (F.ci y x c (z ▸ q') hc)) e)
    · obtain ⟨⟨u, o, ho, r⟩, h2, h3⟩ := F.cl y c' q
      refine ⟨?_, h2, h3⟩
      by_cases z : c' = c
      · exact ⟨_, z ▸ hn'⟩
      · exact ⟨u, o, ext c' o z ho, r⟩

theorem ok_bind_name {x : Str} {d : D} {v : Value} (S : Sim h₀ W s) (F : Fram own env kd m W s) (hx : isOwn kd x = true) (hr : Rep W.R W.ρ d v) :
    OK prog w A h₀ own (bindName env x v) W s (fun _ W' s' => W' = W ∧ Fram own env kd (upd m x d) W s') := wpAny_bindName (ok_store S F hx hr)
end

end Mine
end

section
set_option autoImplicit false
set_option linter.unusedVariables false
namespace Mine
open PySem

theorem lim_line : lim ≤ sizeLine := by decide
theorem le_line {n : Nat} (h : n ≤ lim) : n ≤ sizeLine := Nat.le_trans h lim_line

section
variable {R : Addr → Option Obj} {ρ : Nat → Option Addr}
theorem ints_rep : ∀ {ds : List D} {is : List Int} {vs : List Value}, intsD ds = some is → RepAll R ρ ds vs → ds = is.map .int
  | [], is, _, h, _ => by simp [intsD] at h; subst h; rfl
  | d :: ds, is, vs, h, ⟨v, ws, _, hd, hr⟩ => by
    cases d with
    | int i =>
      simp only [intsD, Option.map_eq_some_iff] at h
      obtain ⟨js, hj, rfl⟩ := h
      rw [ints_rep hj hr]; rfl
    | _ => simp [intsD] at h
end

section
variable {h₀ : Heap} {W : Wd} {s : Shared}
/-- a tuple's object -/
theorem Sim.tup (S : Sim h₀ W s) {ds : List D} {v : Value} (h : Rep W.R W.ρ (.tup ds) v) : ∃ a vs n, v = .ref a ∧ s.heap.get? a = some (tupO vs n) ∧ RepAll W.R W.ρ ds vs := by
  obtain ⟨a, vs, n, e, hR, hr⟩ := h
  exact ⟨a, vs, n, e, S.frz _ _ hR, hr⟩
/-- a list's object, frozen or tracked -/
theorem Sim.lst (S : Sim h₀ W s) {d : D} {ds : List D} {v : Value} (h : Rep W.R W.ρ d v) (hd : lstD W.st d = some ds) : ∃ a vs n, v = .ref a ∧ s.heap.get? a = some (lstO vs n) ∧ RepAll W.R W.ρ ds vs := by
  cases d with
  | list es =>
    simp only [lstD, Option.some.injEq] at hd; subst hd
    obtain ⟨a, vs, n, e, hR, hr⟩ := h
    exact ⟨a, vs, n, e, S.frz _ _ hR, hr⟩
  | loc n =>
    obtain ⟨a, ha, e⟩ := h
    simp only [lstD] at hd
    cases hc : W.st.cs n with
    | none => rw [hc] at hd; cases hd
    | some c =>
      rw [hc] at hd
      cases c with
      | dict es => cases hd
      | list es =>
        cases hd
        obtain ⟨b, hb, hcell⟩ := S.cel n _ hc
        obtain ⟨vs, k, hg, hr⟩ := hcell
        rw [ha] at hb; cases hb
        exact ⟨a, vs, k, e, hg, hr⟩
  | _ => simp [lstD] at hd
theorem seqD_cases {st : St} {d : D} {ds : List D} (h : seqD st d = some ds) : d = .tup ds ∨ lstD st d = some ds := by
  cases d with
  | tup es => simp only [seqD, Option.some.injEq] at h; subst h; exact .inl rfl
  | list es => exact .inr h
  | loc n => exact .inr h
  | _ => simp [seqD] at h
theorem Sim.seq (S : Sim h₀ W s) {d : D} {ds : List D} {v : Value} (h : Rep W.R W.ρ d v) (hd : seqD W.st d = some ds) :
    ∃ a vs n T, v = .ref a ∧ (T = "list" ∨ T = "tuple") ∧ s.heap.get? a = some { cls := .type T, dict := none, data := .seq vs.toArray n, slots := #[] } ∧ RepAll W.R W.ρ ds vs := by
  rcases seqD_cases hd with rfl | hd
  · obtain ⟨a, vs, n, e, hg, hr⟩ := S.tup h; exact ⟨a, vs, n, "tuple", e, .inr rfl, hg, hr⟩
  · obtain ⟨a, vs, n, e, hg, hr⟩ := S.lst h hd; exact ⟨a, vs, n, "list", e, .inl rfl, hg, hr⟩
end

theorem mapM_some_cons {α β : Type} {f : α → Option β} {a : α} {l : List α} {ys : List β} (h : (a :: l).mapM f = some ys) : ∃ y zs, f a = some y ∧ l.mapM f = some zs ∧ ys = y :: zs := by
  rw [List.mapM_cons] at h
  cases hf : f a with
  | none => rw [hf] at h; cases h
  | some y =>
    rw [hf] at h
    cases hm : l.mapM f with
    | none => rw [hm] at h; cases h
    | some zs => rw [hm] at h; cases h; exact ⟨y, zs, rfl, rfl, rfl⟩

section
variable {h₀ : Heap} {W : Wd} {s : Shared}
mutual
theorem py_reads (S : Sim h₀ W s) : ∀ (d : D) (v : Value) (x : PyData), Rep W.R W.ρ d v → d.py = some x → (∃ as, Reads s.heap v x as) ∧ x.canLay0 = true
  | .none, v, x, h, e => by simp only [D.py, Option.some.injEq] at e; subst e; have h' : v = .none := h; subst h'; exact ⟨⟨_, .none⟩, rfl⟩
  | .bool b, v, x, h, e => by simp only [D.py, Option.some.injEq] at e; subst e; have h' : v = .bool b := h; subst h'; exact ⟨⟨_, .bool b⟩, rfl⟩
  | .int i, v, x, h, e => by simp only [D.py, Option.some.injEq] at e; subst e; obtain ⟨t, rfl⟩ := h; exact ⟨⟨_, .int i t⟩, rfl⟩
  | .str y, v, x, h, e => by
    simp only [D.py] at e
    split at e
    · rename_i hs; cases e; obtain ⟨t, rfl⟩ := h; exact ⟨⟨_, .str y t⟩, by simpa [PyData.canLay0] using hs⟩
    · cases e
  | .loc _, _, _, _, e => by simp [D.py] at e
  | .val _, _, _, _, e => by simp [D.py] at e
  | .tup ds, v, x, h, e => by
    simp only [D.py, Option.map_eq_some_iff] at e
    obtain ⟨xs, hx, rfl⟩ := e
    obtain ⟨a, vs, n, rfl, hg, hr⟩ := S.tup h
    obtain ⟨⟨as, ra⟩, hl⟩ := pys_reads S ds vs xs hr hx
    exact ⟨⟨_, .tuple hg rfl rfl (by simpa using ra)⟩, by simpa [PyData.canLay0] using hl⟩
  | .list ds, v, x, h, e => by
    simp only [D.py, Option.map_eq_some_iff] at e
    obtain ⟨xs, hx, rfl⟩ := e
    obtain ⟨a, vs, n, rfl, hg, hr⟩ := S.lst h rfl
    obtain ⟨⟨as, ra⟩, hl⟩ := pys_reads S ds vs xs hr hx
    exact ⟨⟨_, .list hg rfl rfl (by simpa using ra)⟩, by simpa [PyData.canLay0] using hl⟩
theorem pys_reads (S : Sim h₀ W s) : ∀ (ds : List D) (vs : List Value) (xs : List PyData), RepAll W.R W.ρ ds vs → pys ds = some xs → (∃ as, ReadsAll s.heap vs xs as) ∧ PyData.canLayAll0 xs = true
  | [], vs, xs, h, e => by simp only [pys, Option.some.injEq] at e; subst e; have h' : vs = [] := h; subst h'; exact ⟨⟨_, .nil⟩, rfl⟩
  | d :: ds, vs, xs, h, e => by
    obtain ⟨v, ws, rfl, hd, hr⟩ := h
    simp only [pys] at e
    split at e
    · rename_i y ys hy hys
      cases e
      obtain ⟨⟨as, ra⟩, l1⟩ := py_reads S d v y hd hy
      obtain ⟨⟨bs, rb⟩, l2⟩ := pys_reads S ds ws ys hr hys
      exact ⟨⟨_, .cons ra rb⟩, by simp [PyData.canLayAll0, l1, l2]⟩
    · cases e
end
theorem pyD_reads (S : Sim h₀ W s) : ∀ (k : Nat) (d : D) (v : Value) (x : PyData), Rep W.R W.ρ d v → pyD W.st k d = some x → (∃ as, Reads s.heap v x as) ∧ x.canLay0 = true := by
  intro k
  induction k with
  | zero => intro d v x h e; exact py_reads S d v x h e
  | succ k ih =>
    have all : ∀ (ds : List D) (vs : List Value) (xs : List PyData), RepAll W.R W.ρ ds vs → ds.mapM (pyD W.st k) = some xs → (∃ as, ReadsAll s.heap vs xs as) ∧ PyData.canLayAll0 xs = true := by
      intro ds
      induction ds with
      | nil => intro vs xs h e; simp at e; subst e; have h' : vs = [] := h; subst h'; exact ⟨⟨_, .nil⟩, rfl⟩
      | cons d ds ih2 =>
        intro vs xs h e
        obtain ⟨v, ws, rfl, hd, hr⟩ := h
        obtain ⟨y, ys, hy, hys, rfl⟩ := mapM_some_cons e
        obtain ⟨⟨as, ra⟩, l1⟩ := ih d v y hd hy
        obtain ⟨⟨bs, rb⟩, l2⟩ := ih2 ws ys hr hys
        exact ⟨⟨_, .cons ra rb⟩, by simp [PyData.canLayAll0, l1, l2]⟩
    intro d v x h e
    cases d with
    | loc n =>
      simp only [pyD] at e
      cases hc : W.st.cs n with
      | none => rw [hc] at e; cases e
      | some c =>
        rw [hc] at e
        cases c with
        | dict es => cases e
        | list ds =>
          simp only [Option.map_eq_some_iff] at e
          obtain ⟨xs, hx, rfl⟩ := e
          obtain ⟨a, vs, n', rfl, hg, hr⟩ := S.lst (d := .loc n) (ds := ds) h (by simp [lstD, hc])
          obtain ⟨⟨as, ra⟩, hl⟩ := all ds vs xs hr hx
          exact ⟨⟨_, .list hg rfl rfl (by simpa using ra)⟩, by simpa [PyData.canLay0] using hl⟩
    | tup ds =>
      simp only [pyD] at e
      cases hp : D.py (.tup ds) with
      | some y => rw [hp] at e; cases e; exact py_reads S _ v _ h hp
      | none =>
        rw [hp] at e
        simp only [Option.map_eq_some_iff] at e
        obtain ⟨xs, hx, rfl⟩ := e
        obtain ⟨a, vs, n, rfl, hg, hr⟩ := S.tup h
        obtain ⟨⟨as, ra⟩, hl⟩ := all ds vs xs hr hx
        exact ⟨⟨_, .tuple hg rfl rfl (by simpa using ra)⟩, by simpa [PyData.canLay0] using hl⟩
    | list ds =>
      simp only [pyD] at e
      cases hp : D.py (.list ds) with
      | some y => rw [hp] at e; cases e; exact py_reads S _ v _ h hp
      | none =>
        rw [hp] at e
        simp only [Option.map_eq_some_iff] at e
        obtain ⟨xs, hx, rfl⟩ := e
        obtain ⟨a, vs, n, rfl, hg, hr⟩ := S.lst h rfl
        obtain ⟨⟨as, ra⟩, hl⟩ := all ds vs xs hr hx
        exact ⟨⟨_, .list hg rfl rfl (by simpa using ra)⟩, by simpa [PyData.canLay0] using hl⟩
    | none => exact py_reads S _ v x h e
    | bool b => exact py_reads S _ v x h e
    | int i => exact py_reads S _ v x h e
    | str y => exact py_reads S _ v x h e
    | val u => exact py_reads S _ v x h e
end

section
variable {prog : Program} {w : World} {A : Around} {h₀ : Heap} {W : Wd} {s : Shared} {Q : D → St → Prop}

theorem done_val {d : D} {v : Value} (S : Sim h₀ W s) (hr : Rep W.R W.ρ d v) (h : Q d W.st) (t : Nat) : Fin' h₀ noOwn s W (VP Q) v { s with toks := t } :=
  ⟨W, Step.toks s W t, S.toks t, d, hr, h⟩
theorem done_val' {d : D} {v : Value} (S : Sim h₀ W s) (hr : Rep W.R W.ρ d v) (h : Q d W.st) : Fin' h₀ noOwn s W (VP Q) v s := ⟨W, Step.refl s W, S, d, hr, h⟩

/-- a new frozen object -/
theorem done_new {h' : Heap} {tk : Nat} {a : Addr} {o : Obj} {d : D} (S : Sim h₀ W s) (hk : ∀ b o, s.heap.get? b = some o → h'.get? b = some o) (ha : s.heap.get? a = none) (hg : h'.get? a = some o)
    (hr : ∀ R', R' a = some o → (∀ b o, W.R b = some o → R' b = some o) → Rep R' W.ρ d (.ref a)) (h : Q d W.st) :
    Fin' h₀ noOwn s W (VP Q) (.ref a) { s with heap := h', toks := tk } := by
  obtain ⟨st, sm⟩ := S.ext (own := noOwn) (tk := tk) hk (fun b => if b = a then some o else none) (fun b o' e => by
    by_cases q : b = a
    · rw [if_pos q] at e; cases e; subst q; exact ⟨ha, hg⟩
    · rw [if_neg q] at e; cases e)
  refine ⟨_, st, sm, d, hr _ ?_ ?_, h⟩
  · show ((if a = a then some o else none).or (W.R a)) = some o
    rw [if_pos rfl]; rfl
  · intro b o' e
    show ((if b = a then some o else none).or (W.R b)) = some o'
    rw [if_neg (fun q => by subst q; rw [S.frz _ _ e] at ha; cases ha)]; exact e
theorem get_size (h : Heap) : h.get? h.objs.size = none := by
  cases q : h.get? h.objs.size with
  | none => rfl
  | some o => exact absurd (Heap.lt_size q) (Nat.lt_irrefl _)

theorem done_tup {h' : Heap} {tk : Nat} {a : Addr} {n : Nat} {ds : List D} {vs : List Value} (S : Sim h₀ W s) (hk : ∀ b o, s.heap.get? b = some o → h'.get? b = some o) (ha : s.heap.get? a = none)
    (hg : h'.get? a = some (tupO vs n)) (hr : RepAll W.R W.ρ ds vs) (h : Q (.tup ds) W.st) : Fin' h₀ noOwn s W (VP Q) (.ref a) { s with heap := h', toks := tk } :=
  done_new (d := .tup ds) S hk ha hg (fun R' h1 h2 => ⟨a, vs, n, rfl, h1, RepAll.mono h2 (fun _ _ e => e) ds vs hr⟩) h
theorem done_list {trk : Bool} {h' : Heap} {tk : Nat} {a : Addr} {n : Nat} {ds : List D} {vs : List Value} (S : Sim h₀ W s) (hk : ∀ b o, s.heap.get? b = some o → h'.get? b = some o) (ha : s.heap.get? a = none)
    (hg : h'.get? a = some (lstO vs n)) (hr : RepAll W.R W.ρ ds vs) (h : mkList trk ds W.st Q) : Fin' h₀ noOwn s W (VP Q) (.ref a) { s with heap := h', toks := tk } := by
  obtain ⟨_, h⟩ := h
  cases trk with
  | false => exact done_new (d := .list ds) S hk ha hg (fun R' h1 h2 => ⟨a, vs, n, rfl, h1, RepAll.mono h2 (fun _ _ e => e) ds vs hr⟩) h
  | true =>
    obtain ⟨st, sm, e⟩ := S.track (own := noOwn) (tk := tk) hk ha hg hr
    exact ⟨_, st, sm, .loc W.st.hi, ⟨a, e, rfl⟩, h⟩

theorem ok_newTuple {ds : List D} {vs : List Value} (S : Sim h₀ W s) (hr : RepAll W.R W.ρ ds vs) (hl : ds.length ≤ lim) (h : Q (.tup ds) W.st) : OK prog w A h₀ noOwn (newTuple vs) W s (VP Q) :=
  wpAny_newTuple (done_tup (n := 0) (tk := s.toks) S (fun b o e => Heap.get?_push_of_some _ e) (get_size _) (Heap.get?_push_size _ rfl) hr h) (by rw [hr.length]; exact le_line hl)
theorem ok_newList {trk : Bool} {ds : List D} {vs : List Value} (S : Sim h₀ W s) (hr : RepAll W.R W.ρ ds vs) (h : mkList trk ds W.st Q) : OK prog w A h₀ noOwn (newList vs) W s (VP Q) :=
  wpAny_newList (done_list (n := 0) (tk := s.toks) S (fun b o e => Heap.get?_push_of_some _ e) (get_size _) (Heap.get?_push_size _ rfl) hr h) (by rw [hr.length]; exact le_line h.1)

theorem ok_const {env : Env} {c : Const} (S : Sim h₀ W s) (h : match c with
      | .none => Q .none W.st
      | .bool b => Q (.bool b) W.st
      | .int i => Q (.int i) W.st
      | .str x => Q (.str x) W.st
      | _ => False) : OK prog w A h₀ noOwn (constValue env c) W s (VP Q) := by
  cases c with
  | none => exact OK.pure S ⟨.none, rfl, h⟩
  | bool b => exact OK.pure S ⟨.bool b, rfl, h⟩
  | int i => exact wpAny_mkInt (done_val (d := .int i) S ⟨_, rfl⟩ h _)
  | str x => exact wpAny_mkText (done_val (d := .str x) S ⟨_, rfl⟩ h _)
  | _ => exact h.elim

theorem fmod_eq {i j : Int} (h : 0 < j) : i.fmod j = i % j := by rw [Int.fmod_eq_emod_of_nonneg _ (Int.le_of_lt h)]
theorem fdiv_eq {i j : Int} (h : 0 < j) : i.fdiv j = i / j := by rw [Int.fdiv_eq_ediv_of_nonneg _ (Int.le_of_lt h)]
theorem noPylong {i j : Int} (h0 : 0 < j) (h : j < 2 ^ 30) : Builtin.divisionGoesByPylong i j = false := by
  unfold Builtin.divisionGoesByPylong
  have h1 : ¬ (j == 0) = true := by simp; omega
  have h2 : j.natAbs < 2 ^ 30 := by omega
  have h3 : j.natAbs.log2 < 30 := (Nat.log2_lt (by omega)).mpr h2
  have h4 : j.natAbs.log2 / 30 = 0 := Nat.div_eq_of_lt h3
  simp [h1, h4]
end
end Mine
end

section
set_option autoImplicit false
set_option linter.unusedVariables false
namespace Mine
open PySem

structure AOk (k : Nat) (A : Around) : Prop where
  hn : A.handled = none
  dp : A.depth + k < 990
  un : A.units + 8 * k < 8000

section
variable {prog : Program} {w : World} {A : Around} {h₀ : Heap} {W : Wd} {s : Shared} {Q : D → St → Prop}

theorem mul_any {E : Value → Shared → Prop} {l : Addr} {items : Array Value} {k : Nat} {x : Int} {u : Tok} {Q : Value → Shared → Prop} (hl : IsL s.heap l items k)
    (hlo : -(2 ^ 63 : Int) ≤ x) (hhi : x < 2 ^ 63) (hsz : items.size * x.toNat ≤ 2 ^ 24)
    (h : Q (.ref s.heap.objs.size) { s with heap := s.heap.push { cls := .type "list", data := .seq (List.foldl (fun x1 x2 => x1 ++ x2) #[] (List.replicate (if items.isEmpty = true then 0 else x.toNat) items)) } }) :
    wpAny (model prog w) A (binaryOp .Mult (.ref l) (.int x u)) Q E s :=
  wpAny_binaryOp_repeat_ref (T := "list") (U := "int") (by decide) ⟨_, hl, rfl⟩ (fun s' => typeIs_int s' x u) noFill_list_mul F.fills_int_mul F.slot_int_rmul repeat_list F.slot_int_index.lookup
    (call_meets F.slot_int_rmul (typeIs_int s x u) F.entry_int_rmul (F.args_int_rmul_2 _ _) (int___rmul___int_list x u l items k)
      ⟨hl, rfl, ⟨_, hl, rfl⟩, call_meets F.slot_list_mul ⟨_, hl, rfl⟩ F.entry_list_mul (F.args_list_mul_2 _ _)
        (AutoListH.list___mul___list_int_3 l items k x u (by simp [Builtin.List.listFitsIndex]; omega) (by omega) (by simp [Builtin.List.listTooLong, sizeLine]; omega)) ⟨hl, h⟩⟩)

theorem fold_toList (n : Nat) (items : Array Value) : (List.foldl (fun x1 x2 => x1 ++ x2) #[] (List.replicate n items)).toList = (List.replicate n items.toList).flatten := by
  have gen : ∀ (n : Nat) (acc : Array Value), (List.foldl (fun x1 x2 => x1 ++ x2) acc (List.replicate n items)).toList = acc.toList ++ (List.replicate n items.toList).flatten := by
    intro n
    induction n with
    | zero => intro acc; simp
    | succ n ih => intro acc; rw [List.replicate_succ, List.foldl_cons, ih]; simp [List.replicate_succ]
  rw [gen]; simp
theorem repAll_rep {R : Addr → Option Obj} {ρ : Nat → Option Addr} {ds : List D} {vs : List Value} (h : RepAll R ρ ds vs) (n : Nat) : RepAll R ρ (List.replicate n ds).flatten (List.replicate n vs).flatten := by
  induction n with
  | zero => rfl
  | succ n ih => simp only [List.replicate_succ, List.flatten_cons]; exact h.append ih

theorem ok_add {trk : Bool} {a b : D} {va vb : Value} (S : Sim h₀ W s) (ra : Rep W.R W.ρ a va) (rb : Rep W.R W.ρ b vb) (h : wAdd trk a b W.st Q) : OK prog w A h₀ noOwn (binaryOp .Add va vb) W s (VP Q) := by
  have lists : (∃ xs ys, lstD W.st a = some xs ∧ lstD W.st b = some ys ∧ mkList trk (xs ++ ys) W.st Q) → OK prog w A h₀ noOwn (binaryOp .Add va vb) W s (VP Q) := by
    rintro ⟨xs, ys, hx, hy, h⟩
    obtain ⟨l, vs, n, rfl, hg, hr⟩ := S.lst ra hx
    obtain ⟨l2, vs2, n2, rfl, hg2, hr2⟩ := S.lst rb hy
    refine P.add_list hg hg2 ?_ (by have h1 := hr.length; have h2 := hr2.length; have h3 := h.1; simp only [List.length_append, List.size_toArray] at *; rw [h1, h2]; exact le_line h3)
    refine done_list (n := 0) (tk := s.toks) S (fun b o e => Heap.get?_push_of_some _ e) (get_size _) (vs := vs ++ vs2) ?_ (hr.append hr2) h
    have := Heap.get?_push_size s.heap (o := { cls := .type "list", data := .seq (vs.toArray ++ vs2.toArray) }) rfl
    simpa using this
  unfold wAdd at h
  split at h
  · obtain ⟨t, rfl⟩ := ra; obtain ⟨u, rfl⟩ := rb
    exact P.add_int (done_val (d := .int _) S ⟨_, rfl⟩ h _)
  · rename_i xs ys
    obtain ⟨hl, h⟩ := h
    obtain ⟨t1, vs, n, rfl, hg, hr⟩ := S.tup ra
    obtain ⟨t2, vs2, n2, rfl, hg2, hr2⟩ := S.tup rb
    have hl1 := hr.length; have hl2 := hr2.length
    have sz : vs.toArray.size + vs2.toArray.size ≤ sizeLine := by simp only [List.size_toArray]; rw [hl1, hl2]; exact le_line hl
    by_cases e1 : vs.toArray.isEmpty = true
    · have e0 : vs = [] := by simpa using e1
      have e1' : xs = [] := List.length_eq_zero_iff.mp (by rw [← hl1, e0]; rfl)
      subst e1'
      exact concat_meets ⟨_, hg, rfl⟩ ⟨_, hg2, rfl⟩ noFill_tuple_add seq_tuple_add F.slot_tuple_add F.entry_tuple_add (F.args_tuple_add_2 _ _) (AutoSeq1.tuple___add___tuple_tuple_0 t1 _ n t2 _ n2 e1)
        ⟨hg, hg2, done_val' (d := .tup ([] ++ ys)) S rb h⟩
    · by_cases e2 : vs2.toArray.isEmpty = true
      · have e0 : vs2 = [] := by simpa using e2
        have e2' : ys = [] := List.length_eq_zero_iff.mp (by rw [← hl2, e0]; rfl)
        subst e2'
        refine concat_meets ⟨_, hg, rfl⟩ ⟨_, hg2, rfl⟩ noFill_tuple_add seq_tuple_add F.slot_tuple_add F.entry_tuple_add (F.args_tuple_add_2 _ _) (AutoSeq1.tuple___add___tuple_tuple_1 t1 _ n t2 _ n2 e1 e2) ⟨hg, hg2, done_val' (d := .tup (xs ++ [])) S (by rw [List.append_nil]; exact ra) h⟩
      · refine P.add_tuple hg hg2 e1 e2 ?_ sz
        refine done_tup (n := 0) (tk := s.toks) S (fun b o e => Heap.get?_push_of_some _ e) (get_size _) (vs := vs ++ vs2) ?_ (hr.append hr2) h
        have := Heap.get?_push_size s.heap (o := { cls := .type "tuple", data := .seq (vs.toArray ++ vs2.toArray) }) rfl
        simpa using this
  · exact lists h

theorem ok_mul {trk : Bool} {a b : D} {va vb : Value} (S : Sim h₀ W s) (ra : Rep W.R W.ρ a va) (rb : Rep W.R W.ρ b vb) (h : wMul trk a b W.st Q) : OK prog w A h₀ noOwn (binaryOp .Mult va vb) W s (VP Q) := by
  unfold wMul at h
  split at h
  · obtain ⟨t, rfl⟩ := ra; obtain ⟨u, rfl⟩ := rb
    exact P.mul_int (done_val (d := .int _) S ⟨_, rfl⟩ h.2 _) h.1
  · rename_i n _
    obtain ⟨u, rfl⟩ := rb
    obtain ⟨xs, hx, hm, hn, h1, h⟩ := h
    obtain ⟨l, vs, k, rfl, hg, hr⟩ := S.lst ra hx
    have hl := hr.length
    have hlo : -(2 ^ 63 : Int) ≤ n := by have : -(1000000 : Int) ≤ n := hm; omega
    · have hn' : n < 1000000 := hn
      refine mul_any hg hlo (by omega) ?_ ?_
      · have : vs.toArray.size ≤ 1 := by rw [List.size_toArray, hl]; exact h1
        have h2 : n.toNat ≤ 1000000 := by omega
        calc vs.toArray.size * n.toNat ≤ 1 * 1000000 := Nat.mul_le_mul this h2
          _ ≤ 2 ^ 24 := by decide
      · refine done_list (n := 0) (tk := s.toks) S (fun b o e => Heap.get?_push_of_some _ e) (get_size _) (vs := (List.replicate n.toNat vs).flatten) ?_ (repAll_rep hr _) h
        have e := fold_toList (if vs.toArray.isEmpty = true then 0 else n.toNat) vs.toArray
        have e2 : (List.replicate (if vs.toArray.isEmpty = true then 0 else n.toNat) vs).flatten = (List.replicate n.toNat vs).flatten := by
          by_cases q : vs.toArray.isEmpty = true
          · have q' : vs = [] := by simpa using q
            subst q'; simp
          · rw [if_neg q]
        have := Heap.get?_push_size s.heap (o := { cls := .type "list", data := .seq (List.foldl (fun x1 x2 => x1 ++ x2) #[] (List.replicate (if vs.toArray.isEmpty = true then 0 else n.toNat) vs.toArray)) }) rfl
        rw [this]
        show some _ = some (lstO _ 0)
        have e3 : (List.foldl (fun x1 x2 => x1 ++ x2) #[] (List.replicate (if vs.toArray.isEmpty = true then 0 else n.toNat) vs.toArray)) = ((List.replicate n.toNat vs).flatten).toArray := by
          rw [← e2]
          have : (List.replicate (if vs.toArray.isEmpty = true then 0 else n.toNat) vs).flatten = (List.replicate (if vs.toArray.isEmpty = true then 0 else n.toNat) vs.toArray.toList).flatten := by simp
          rw [this, ← e]
        rw [e3]
  · exact h.elim

theorem ok_bin {trk : Bool} {op : Operator} {a b : D} {va vb : Value} (S : Sim h₀ W s) (ra : Rep W.R W.ρ a va) (rb : Rep W.R W.ρ b vb) (h : wBin trk op a b W.st Q) : OK prog w A h₀ noOwn (binaryOp op va vb) W s (VP Q) := by
  cases op with
  | Add => exact ok_add S ra rb h
  | Mult => exact ok_mul S ra rb h
  | Sub =>
    simp only [wBin] at h
    split at h
    · obtain ⟨t, rfl⟩ := ra; obtain ⟨u, rfl⟩ := rb
      exact P.sub_int (done_val (d := .int _) S ⟨_, rfl⟩ h _)
    · exact h.elim
  | FloorDiv =>
    simp only [wBin] at h
    split at h
    · obtain ⟨t, rfl⟩ := ra; obtain ⟨u, rfl⟩ := rb
      obtain ⟨h0, h1, h⟩ := h
      refine AutoIntOpsIf.floordiv ?_
      rw [if_neg (by simp; omega), if_neg (by rw [noPylong h0 h1]; exact Bool.false_ne_true), fdiv_eq h0]
      exact done_val (d := .int _) S ⟨_, rfl⟩ h _
    · exact h.elim
  | Mod =>
    simp only [wBin] at h
    split at h
    · obtain ⟨t, rfl⟩ := ra; obtain ⟨u, rfl⟩ := rb
      obtain ⟨h0, h⟩ := h
      refine AutoIntOpsIf.mod ?_
      rw [if_neg (by simp; omega), fmod_eq h0]
      exact done_val (d := .int _) S ⟨_, rfl⟩ h _
    · exact h.elim
  | Pow =>
    simp only [wBin] at h
    split at h
    · obtain ⟨t, rfl⟩ := ra; obtain ⟨u, rfl⟩ := rb
      obtain ⟨rfl, rfl, h⟩ := h
      refine AutoIntOpsIf.pow ?_
      rw [if_pos (by decide), if_neg (by decide), if_neg (by decide), if_neg (by decide), if_neg (by decide)]
      exact done_val (d := .int _) S ⟨_, rfl⟩ h _
    · exact h.elim
  | _ => exact h.elim

theorem ok_truthy {d : D} {v : Value} {b : Bool} {K : Bool → St → Prop} (S : Sim h₀ W s) (hr : Rep W.R W.ρ d v) (ht : truth d = some b) (h : K b W.st) : OK prog w A h₀ noOwn (truthy v) W s (BP K) := by
  cases d with
  | bool c => simp only [truth, Option.some.injEq] at ht; subst ht; have hv : v = .bool c := hr; subst hv; exact wpAny_truthy_bool ⟨W, Step.refl s W, S, h⟩
  | _ => simp [truth] at ht

theorem ok_un {op : UnaryOp} {a : D} {va : Value} (S : Sim h₀ W s) (ra : Rep W.R W.ρ a va) (h : wUn op a W.st Q) : OK prog w A h₀ noOwn (unaryOp op va) W s (VP Q) := by
  cases op with
  | USub =>
    cases a with
    | int i => obtain ⟨t, rfl⟩ := ra; exact P.neg_int (done_val (d := .int _) S ⟨_, rfl⟩ h _)
    | _ => exact h.elim
  | Not =>
    obtain ⟨b, ht, h⟩ := h
    refine PyProof.Rows.not_of ?_
    exact wpAny_mono (ok_truthy (prog := prog) (w := w) (A := A) (K := fun b st => Q (.bool (!b)) st) S ra ht h) (fun b s' ⟨W', x, y, z⟩ => ⟨W', x, y, .bool (!b), rfl, z⟩) fun _ _ e => e
  | _ => exact h.elim
end
end Mine
end

section
set_option autoImplicit false
set_option linter.unusedVariables false
namespace Mine
open PySem

section
variable {prog : Program} {w : World} {A : Around} {h₀ : Heap} {W : Wd} {s : Shared} {Q : D → St → Prop}

noncomputable def CP (W : Wd) (K : Bool → Prop) : Value → Wd → Shared → Prop := fun v W' _ => W' = W ∧ ∃ r, v = .bool r ∧ K r

theorem cmp_done {r : Bool} {K : Bool → Prop} (S : Sim h₀ W s) (h : K r) : Fin' h₀ noOwn s W (CP W K) (.bool r) s := ⟨W, Step.refl s W, S, rfl, r, rfl, h⟩
theorem room_ok {k : Nat} (a : AOk k A) {x y : PyData} (h : deepOk x y) : A.units + min x.depth y.depth < cLine := by
  have h1 := a.un
  have h2 : min x.depth y.depth ≤ 1000 := h
  show A.units + min x.depth y.depth < 9900
  omega

theorem ok_eq {k : Nat} {a b : D} {va vb : Value} {K : Bool → Prop} (a1 : AOk k A) (S : Sim h₀ W s) (ra : Rep W.R W.ρ a va) (rb : Rep W.R W.ρ b vb) (h : wEq a b W.st K) :
    OK prog w A h₀ noOwn (compareOp .Eq va vb) W s (CP W K) := by
  unfold wEq at h
  split at h
  · obtain ⟨t, rfl⟩ := ra; obtain ⟨u, rfl⟩ := rb
    exact P.eq_int (cmp_done S h)
  · obtain ⟨t, rfl⟩ := ra; obtain ⟨u, rfl⟩ := rb
    exact PyProof.Rows.eq_str (cmp_done S h)
  · obtain ⟨x, y, hx, hy, hd, h⟩ := h
    obtain ⟨⟨as, r1⟩, l1⟩ := pyD_reads S 3 a va x ra hx
    obtain ⟨⟨bs, r2⟩, l2⟩ := pyD_reads S 3 b vb y rb hy
    exact SeqAt.compareEq_reads r1 r2 l1 l2 (room_ok a1 hd) (cmp_done S h)
theorem ok_ne {k : Nat} {a b : D} {va vb : Value} {K : Bool → Prop} (a1 : AOk k A) (S : Sim h₀ W s) (ra : Rep W.R W.ρ a va) (rb : Rep W.R W.ρ b vb) (h : wEq a b W.st fun r => K (!r)) :
    OK prog w A h₀ noOwn (compareOp .NotEq va vb) W s (CP W K) := by
  unfold wEq at h
  split at h
  · obtain ⟨t, rfl⟩ := ra; obtain ⟨u, rfl⟩ := rb
    exact P.ne_int (cmp_done S h)
  · obtain ⟨t, rfl⟩ := ra; obtain ⟨u, rfl⟩ := rb
    exact PyProof.Rows.ne_str (cmp_done S h)
  · obtain ⟨x, y, hx, hy, hd, h⟩ := h
    obtain ⟨⟨as, r1⟩, l1⟩ := pyD_reads S 3 a va x ra hx
    obtain ⟨⟨bs, r2⟩, l2⟩ := pyD_reads S 3 b vb y rb hy
    exact SeqAt.compareNe_reads r1 r2 l1 l2 (room_ok a1 hd) (cmp_done S h)

theorem is_plain {a : D} {va : Value} (ra : Rep W.R W.ρ a va) (hv : isValD a = false) : plainIs va .none = true ∧ (va == .none) = isNoneD a := by
  cases a with
  | none => have h : va = .none := ra; subst h; exact ⟨rfl, rfl⟩
  | bool b => have h : va = .bool b := ra; subst h; exact ⟨rfl, rfl⟩
  | int i => obtain ⟨t, rfl⟩ := ra; exact ⟨rfl, rfl⟩
  | str x => obtain ⟨t, rfl⟩ := ra; exact ⟨rfl, rfl⟩
  | tup ds => obtain ⟨a, _, _, rfl, _⟩ := ra; exact ⟨rfl, rfl⟩
  | list ds => obtain ⟨a, _, _, rfl, _⟩ := ra; exact ⟨rfl, rfl⟩
  | loc n => obtain ⟨a, _, rfl⟩ := ra; exact ⟨rfl, rfl⟩
  | val u => cases hv

theorem wIs_inv {a b : D} {K : Bool → Prop} (h : wIs a b K) : b = .none ∧ isValD a = false ∧ K (isNoneD a) := by
  obtain ⟨h1, h2, h3⟩ := h
  refine ⟨?_, h2, h3⟩
  cases b with
  | none => rfl
  | _ => cases h1

theorem mapM_get {α β : Type} {f : α → Option β} : ∀ {l : List α} {ys : List β}, l.mapM f = some ys → ys.length = l.length ∧ ∀ (i : Nat) (a : α), l[i]? = some a → ∃ y, ys[i]? = some y ∧ f a = some y
  | [], ys, h => by simp at h; subst h; exact ⟨rfl, fun i a e => by simp at e⟩
  | a :: l, ys, h => by
    obtain ⟨y, zs, h1, h2, rfl⟩ := mapM_some_cons h
    obtain ⟨h3, h4⟩ := mapM_get h2
    refine ⟨by simp [h3], fun i b e => ?_⟩
    cases i with
    | zero => simp at e; subst e; exact ⟨y, rfl, h1⟩
    | succ i => simpa using h4 i b (by simpa using e)

open Classical in
theorem in_facts {k : Nat} {a b : D} {va : Value} {K : Bool → Prop} (a1 : AOk k A) (S : Sim h₀ W s) (ra : Rep W.R W.ρ a va) (h : wIn a b W.st K) :
    ∃ ys, seqD W.st b = some ys ∧ ∀ vs, RepAll W.R W.ρ ys vs → ∃ e : Value → Bool, (∀ y, y ∈ vs.toArray → SeqAt.EqAt A.in1 s y va (e y)) ∧ K (vs.toArray.any e) := by
  obtain ⟨ys, x, ps, hb, ha, hp, hd, h⟩ := h
  obtain ⟨⟨as, r1⟩, l1⟩ := pyD_reads S 3 a va x ra ha
  refine ⟨ys, hb, fun vs hr => ?_⟩
  obtain ⟨hl, hg⟩ := mapM_get hp
  have each : ∀ (i : Nat) (v : Value), vs[i]? = some v → ∃ p bs, ps[i]? = some p ∧ Reads s.heap v p bs ∧ p.canLay0 = true := by
    intro i v hv
    obtain ⟨d, hd', hrd⟩ := hr.get' i v hv
    obtain ⟨p, hp1, hp2⟩ := hg i d hd'
    obtain ⟨⟨bs, r2⟩, l2⟩ := pyD_reads S 3 d v p hrd hp2
    exact ⟨p, bs, hp1, r2, l2⟩
  let e : Value → Bool := fun v => decide (∃ p bs, Reads s.heap v p bs ∧ p.canLay0 = true ∧ PyData.eqv p x = true)
  have ev : ∀ v p bs, Reads s.heap v p bs → p.canLay0 = true → e v = PyData.eqv p x := by
    intro v p bs r l
    cases q : PyData.eqv p x with
    | true => exact decide_eq_true ⟨p, bs, r, l, q⟩
    | false =>
      refine decide_eq_false ?_
      rintro ⟨p', bs', r', l', q'⟩
      have : p' = p := SeqAt.Reads.unique p' p v bs' bs l' r' r
      rw [this, q] at q'; cases q'
  refine ⟨e, fun y hy => ?_, ?_⟩
  · have hy' : y ∈ vs := by simpa using hy
    obtain ⟨i, hi, hv⟩ := List.getElem_of_mem hy'
    obtain ⟨p, bs, _, r, l⟩ := each i y (by rw [List.getElem?_eq_getElem hi, hv])
    rw [ev y p bs r l]
    refine SeqAt.eqAt_reads p x A.in1 s y va bs as r r1 l l1 ?_
    have h1 := a1.un
    have : min p.depth x.depth ≤ 1000 := Nat.le_trans (Nat.min_le_right _ _) hd
    show A.units + 1 + min p.depth x.depth < 9900
    omega
  · have : vs.toArray.any e = ps.any fun y => PyData.eqv y x := by
      have hlen : vs.length = ps.length := by rw [hl]; exact hr.length
      rw [List.any_toArray]
      have : vs.map e = ps.map fun y => PyData.eqv y x := by
        refine List.ext_getElem (by simp [hlen]) fun i h1 h2 => ?_
        simp only [List.length_map] at h1 h2
        obtain ⟨p, bs, hp', r, l⟩ := each i vs[i] (List.getElem?_eq_getElem h1)
        simp only [List.getElem_map]
        rw [ev _ p bs r l]
        rw [List.getElem?_eq_getElem h2] at hp'
        cases hp'; rfl
      have h3 : ∀ {α : Type} (l : List α) (f : α → Bool), l.any f = (l.map f).any id := by intro α l f; simp [List.any_map]
      rw [h3 vs e, this, ← h3]
    rw [this]; exact h

theorem ok_in {k : Nat} {a b : D} {va vb : Value} {K : Bool → Prop} (a1 : AOk k A) (S : Sim h₀ W s) (ra : Rep W.R W.ρ a va) (rb : Rep W.R W.ρ b vb) (h : wIn a b W.st K) :
    OK prog w A h₀ noOwn (compareOp .In va vb) W s (CP W K) := by
  obtain ⟨ys, hb, f⟩ := in_facts a1 S ra h
  rcases seqD_cases hb with rfl | hb'
  · obtain ⟨l, vs, n, rfl, hg, hr⟩ := S.tup rb
    obtain ⟨e, he, hk⟩ := f vs hr
    exact SeqAt.in_tupleAt e ⟨_, hg, rfl, n, rfl⟩ he (cmp_done S hk)
  · obtain ⟨l, vs, n, rfl, hg, hr⟩ := S.lst rb hb'
    obtain ⟨e, he, hk⟩ := f vs hr
    exact SeqAt.in_listAt e ⟨_, hg, rfl, n, rfl⟩ he (cmp_done S hk)
theorem ok_notIn {k : Nat} {a b : D} {va vb : Value} {K : Bool → Prop} (a1 : AOk k A) (S : Sim h₀ W s) (ra : Rep W.R W.ρ a va) (rb : Rep W.R W.ρ b vb) (h : wIn a b W.st fun r => K (!r)) :
    OK prog w A h₀ noOwn (compareOp .NotIn va vb) W s (CP W K) := by
  obtain ⟨ys, hb, f⟩ := in_facts a1 S ra h
  rcases seqD_cases hb with rfl | hb'
  · obtain ⟨l, vs, n, rfl, hg, hr⟩ := S.tup rb
    obtain ⟨e, he, hk⟩ := f vs hr
    exact SeqAt.notIn_tupleAt e ⟨_, hg, rfl, n, rfl⟩ he (cmp_done S hk)
  · obtain ⟨l, vs, n, rfl, hg, hr⟩ := S.lst rb hb'
    obtain ⟨e, he, hk⟩ := f vs hr
    exact SeqAt.notIn_listAt e ⟨_, hg, rfl, n, rfl⟩ he (cmp_done S hk)

theorem ok_cmp {k : Nat} {op : CmpOp} {a b : D} {va vb : Value} {K : Bool → Prop} (a1 : AOk k A) (S : Sim h₀ W s) (ra : Rep W.R W.ρ a va) (rb : Rep W.R W.ρ b vb) (h : wCmp1 op a b W.st K) :
    OK prog w A h₀ noOwn (compareOp op va vb) W s (CP W K) := by
  cases op with
  | Eq => exact ok_eq a1 S ra rb h
  | NotEq => exact ok_ne a1 S ra rb h
  | Lt =>
    simp only [wCmp1] at h
    split at h
    · obtain ⟨t, rfl⟩ := ra; obtain ⟨u, rfl⟩ := rb; exact P.lt_int (cmp_done S h)
    · exact h.elim
  | LtE =>
    simp only [wCmp1] at h
    split at h
    · obtain ⟨t, rfl⟩ := ra; obtain ⟨u, rfl⟩ := rb; exact P.le_int (cmp_done S h)
    · exact h.elim
  | Gt =>
    simp only [wCmp1] at h
    split at h
    · obtain ⟨t, rfl⟩ := ra; obtain ⟨u, rfl⟩ := rb; exact P.gt_int (cmp_done S h)
    · exact h.elim
  | GtE =>
    simp only [wCmp1] at h
    split at h
    · obtain ⟨t, rfl⟩ := ra; obtain ⟨u, rfl⟩ := rb; exact P.ge_int (cmp_done S h)
    · exact h.elim
  | Is =>
    obtain ⟨rfl, hv, hk⟩ := wIs_inv h
    have hb : vb = .none := rb
    subst hb
    obtain ⟨p, e⟩ := is_plain ra hv
    exact wpAny_is_plain p (by rw [e]; exact cmp_done S hk)
  | IsNot =>
    obtain ⟨rfl, hv, hk⟩ := wIs_inv (show wIs a b (fun r => K (!r)) from h)
    have hb : vb = .none := rb
    subst hb
    obtain ⟨p, e⟩ := is_plain ra hv
    exact wpAny_isNot_plain p (by rw [e]; exact cmp_done S hk)
  | In => exact ok_in a1 S ra rb h
  | NotIn => exact ok_notIn a1 S ra rb h
end
end Mine
end

section
set_option autoImplicit false
set_option linter.unusedVariables false
namespace Mine
open PySem

section
variable {prog : Program} {w : World} {A : Around} {h₀ : Heap} {W : Wd} {s : Shared} {Q : D → St → Prop}

theorem sub_plain {e : Expr} (h : isSliceE e = false) (o i : Value) : subscripted e false o i = operate [o, i] (getItem o i) := by
  cases e <;> first | rfl | cases h

theorem ok_item {value slice : Expr} {d i : D} {vd vi : Value} (hs : isSliceE slice = false) (S : Sim h₀ W s) (rd : Rep W.R W.ρ d vd) (ri : Rep W.R W.ρ i vi) (h : wItem d i W.st Q) :
    OK prog w A h₀ noOwn (PyProof.Rows.subscriptTail value slice vd vi) W s (VP Q) := by
  unfold wItem at h
  split at h
  · rename_i k
    obtain ⟨t, rfl⟩ := ri
    obtain ⟨hlo, hhi, xs, j, x, hx, hk, hj, hxj, h⟩ := h
    rcases seqD_cases hx with rfl | hx'
    · obtain ⟨a, vs, n, rfl, hg, hr⟩ := S.tup rd
      obtain ⟨v, hv, hrv⟩ := hr.get j x hxj
      have hT : PyProof.Rows.IsTup s.heap a vs.toArray := ⟨_, hg, rfl, n, rfl⟩
      exact PyProof.Rows.item_tupleT hT (by omega) (by omega) (by rw [hr.length]; exact hj) hv (done_val' S hrv h) (sub_plain hs _ _)
    · obtain ⟨a, vs, n, rfl, hg, hr⟩ := S.lst rd hx'
      obtain ⟨v, hv, hrv⟩ := hr.get j x hxj
      have hL : s.heap.IsList a vs.toArray := ⟨_, hg, rfl, n, rfl⟩
      have h0 : 0 ≤ k := by rcases hk with q | q; exact q; rw [hx'] at q; cases q
      have hj' : k.toNat = j := by
        unfold seqIndex? at hj
        have q : ¬ k < 0 := by omega
        simp only [if_neg q] at hj
        split at hj
        · exact Option.some.inj hj
        · cases hj
      refine PyProof.Rows.tail_any hL.typeIs slot_list_getitem.lookup (wpAny_getItem_list hL h0 (by omega) ?_ (done_val' S hrv h)) (sub_plain hs _ _)
      rw [hj']; simpa using hv
  · exact h.elim

/-- a list cell's item is set: what stands there after is the same list object with that item turned -/
theorem setItem_cell {E : Value → Shared → Prop} {a : Addr} {vs : List Value} {n j : Nat} {k : Int} {t : Tok} {v x : Value} {R : Unit → Shared → Prop} (hg : s.heap.get? a = some (lstO vs n)) (hk : k = (j : Int)) (fit : Builtin.List.listFitsIndex k = true) (hx : vs.toArray[j]? = some x)
    (hR : R () { s with heap := s.heap.update a (Obj.mapSeq (·.setIfInBounds j v)) }) : wpAny (model prog w) A (setItem (.ref a) (.int k t) v) R E s := by
  have hT : s.heap.IsList a vs.toArray := ⟨_, hg, rfl, n, rfl⟩
  have cell : wpAny (model prog w) A.in1 (setSeqItemAt a j v) (fun _ s' => R () s') E s := wpAny_setSeqItemAt hg rfl hR
  unfold setItem
  with_reducible refine wpAny_holding ?_
  refine wpAny_bind (wpAny_sequenceKey hT.typeIs (by decide) ?_)
  refine wpAny_bind (wpAny_callSpecial?_slot (name := Str.ofString "__setitem__") hT.typeIs slot_list_setitem (wpAny_call_entry slot_list_setitem hT.typeIs entry_list_setitem ?_ (args_list_setitem _ _ _)))
  show wpAny _ _ (Builtin.List.listSubscript? (.int k t) >>= _) _ _ s
  refine wpAny_bind (wpAny_listSubscript_int fit ?_)
  clear fit
  subst hk
  show wpAny _ _ ((seqItemAt a j >>= fun r => pure (r.map (j, ·))) >>= _) _ _ s
  refine wpAny_bind (wpAny_bind (wpAny_seqItemAt hg rfl (wpAny_pure ?_)))
  rw [hx]
  refine wpAny_bind (wpAny_mono cell (fun _ s' h => ?_) fun _ _ e => e)
  exact wpAny_pure ⟨.none, rfl, wpAny_pure h⟩
theorem ok_setItem {d i v : D} {vd vi vv : Value} {K : St → Prop} (S : Sim h₀ W s) (rd : Rep W.R W.ρ d vd) (ri : Rep W.R W.ρ i vi) (rv : Rep W.R W.ρ v vv) (h : wSetItem d i v W.st K) :
    OK prog w A h₀ noOwn (setItem vd vi vv) W s (fun _ W' _ => K W'.st) := by
  unfold wSetItem at h
  split at h
  · rename_i k
    obtain ⟨t, rfl⟩ := ri
    obtain ⟨n, xs, rfl, hc, h0, h1, hl, h⟩ := h
    obtain ⟨a, ha, rfl⟩ := rd
    obtain ⟨b, hb, vs, k', hg, hr⟩ := S.cel n _ hc
    rw [ha] at hb; cases hb
    have hL : s.heap.IsList a vs.toArray := ⟨_, hg, rfl, k', rfl⟩
    have hlen := hr.length
    have hl' : xs.length ≤ 1000000 := hl
    obtain ⟨j, rfl⟩ := Int.eq_ofNat_of_zero_le h0
    rw [Int.toNat_natCast] at h
    have hj : j < vs.length := by rw [hlen]; omega
    refine setItem_cell (n := k') (x := vs[j]) hg rfl (fitsIndex_of (Int.natCast_nonneg j) (by omega)) (by simp [hj]) ?_
    have key : (s.heap.update a (Obj.mapSeq (·.setIfInBounds j vv))).get? a = some (lstO (vs.set j vv) k') := by
      rw [Heap.get?_update_self _ hg rfl]; simp [Obj.mapSeq]
    obtain ⟨st, sm⟩ := S.put (own := noOwn) (tk := s.toks) (k := k') ha hc (fun b o q e => (Heap.get?_update_other s.heap _ (Ne.symm q)).trans e) (vs := vs.set j vv) key (hr.set j rv)
    exact ⟨_, st, sm, h⟩
  · exact h.elim

theorem done_bool {b : Bool} (S : Sim h₀ W s) (h : Q (.bool b) W.st) : Fin' h₀ noOwn s W (VP Q) (.bool b) s := done_val' (d := .bool b) S rfl h
theorem done_boolT {b : Bool} (S : Sim h₀ W s) (h : Q (.bool b) W.st) (t : Nat) : Fin' h₀ noOwn s W (VP Q) (.bool b) { s with toks := t } := done_val (d := .bool b) S rfl h t

theorem ok_isinstance {d : D} {vd : Value} {T : String} {b : Bool} (S : Sim h₀ W s) (rd : Rep W.R W.ρ d vd) (ht : typeIs d T = some b) (h : Q (.bool b) W.st) :
    OK prog w A h₀ noOwn (call (.builtin "isinstance") [vd, .type T]) W s (VP Q) := by
  cases d with
  | none =>
    have e : vd = .none := rd
    subst e
    simp only [typeIs] at ht
    split at ht
    · rename_i hm
      cases ht
      simp only [List.mem_cons, List.not_mem_nil, or_false] at hm
      rcases hm with rfl | rfl | rfl | rfl | rfl
      · exact IsiPair.NoneType_int (done_boolT S h _)
      · exact IsiPair.NoneType_bool (done_boolT S h _)
      · exact IsiPair.NoneType_tuple (done_boolT S h _)
      · exact IsiPair.NoneType_list (done_boolT S h _)
      · exact IsiPair.NoneType_str (done_boolT S h _)
    · cases ht
  | bool c =>
    have e : vd = .bool c := rd
    subst e
    simp only [typeIs] at ht
    split at ht
    · rename_i hm
      cases ht
      simp only [List.mem_cons, List.not_mem_nil, or_false] at hm
      rcases hm with rfl | rfl
      · exact IsiPair.bool_int (done_bool S h)
      · exact IsiPair.bool_bool (done_bool S h)
    · split at ht
      · rename_i hm
        cases ht
        simp only [List.mem_cons, List.not_mem_nil, or_false] at hm
        rcases hm with rfl | rfl | rfl
        · exact IsiPair.bool_tuple (done_boolT S h _)
        · exact IsiPair.bool_list (done_boolT S h _)
        · exact IsiPair.bool_str (done_boolT S h _)
      · cases ht
  | int i =>
    obtain ⟨t, rfl⟩ := rd
    simp only [typeIs] at ht
    split at ht
    · rename_i hm; cases ht; subst hm; exact IsiPair.int_int (done_bool S h)
    · split at ht
      · rename_i hm
        cases ht
        simp only [List.mem_cons, List.not_mem_nil, or_false] at hm
        rcases hm with rfl | rfl | rfl | rfl
        · exact IsiPair.int_bool (done_boolT S h _)
        · exact IsiPair.int_tuple (done_boolT S h _)
        · exact IsiPair.int_list (done_boolT S h _)
        · exact IsiPair.int_str (done_boolT S h _)
      · cases ht
  | str x =>
    obtain ⟨t, rfl⟩ := rd
    simp only [typeIs] at ht
    split at ht
    · rename_i hm; cases ht; subst hm; exact IsiPair.str_str (done_bool S h)
    · split at ht
      · rename_i hm
        cases ht
        simp only [List.mem_cons, List.not_mem_nil, or_false] at hm
        rcases hm with rfl | rfl | rfl | rfl
        · exact IsiPair.str_bool (done_boolT S h _)
        · exact IsiPair.str_tuple (done_boolT S h _)
        · exact IsiPair.str_list (done_boolT S h _)
        · exact IsiPair.str_int (done_boolT S h _)
      · cases ht
  | tup ds =>
    obtain ⟨a, vs, n, rfl, hg, _⟩ := S.tup rd
    simp only [typeIs] at ht
    split at ht
    · rename_i hm; cases ht; subst hm; exact IsiPair.tuple_tuple hg rfl (done_bool S h)
    · split at ht
      · rename_i hm
        cases ht
        simp only [List.mem_cons, List.not_mem_nil, or_false] at hm
        rcases hm with rfl | rfl | rfl | rfl
        · exact IsiPair.tuple_bool hg rfl (done_boolT S h _)
        · exact IsiPair.tuple_str hg rfl (done_boolT S h _)
        · exact IsiPair.tuple_list hg rfl (done_boolT S h _)
        · exact IsiPair.tuple_int hg rfl (done_boolT S h _)
      · cases ht
  | list ds =>
    obtain ⟨a, vs, n, rfl, hg, _⟩ := S.lst rd rfl
    simp only [typeIs] at ht
    split at ht
    · rename_i hm; cases ht; subst hm; exact IsiPair.list_list hg rfl (done_bool S h)
    · split at ht
      · rename_i hm
        cases ht
        simp only [List.mem_cons, List.not_mem_nil, or_false] at hm
        rcases hm with rfl | rfl | rfl | rfl
        · exact IsiPair.list_bool hg rfl (done_boolT S h _)
        · exact IsiPair.list_str hg rfl (done_boolT S h _)
        · exact IsiPair.list_tuple hg rfl (done_boolT S h _)
        · exact IsiPair.list_int hg rfl (done_boolT S h _)
      · cases ht
  | loc n => simp [typeIs] at ht
  | val u => simp [typeIs] at ht

theorem int_items {R : Addr → Option Obj} {ρ : Nat → Option Addr} : ∀ {is : List Int} {vs : List Value}, RepAll R ρ (is.map .int) vs → ∃ ps : List (Int × Tok), vs = ps.map (fun p => .int p.1 p.2) ∧ ps.map (·.1) = is
  | [], vs, h => by have e : vs = [] := h; subst e; exact ⟨[], rfl, rfl⟩
  | i :: is, vs, h => by
    obtain ⟨v, ws, rfl, ⟨t, rfl⟩, hr⟩ := h
    obtain ⟨ps, rfl, rfl⟩ := int_items hr
    exact ⟨(i, t) :: ps, rfl, rfl⟩

noncomputable def bltV (f : Str) : Option Value :=
  if f = "len" then some (.builtin "len")
  else if f = "isinstance" then some (.builtin "isinstance")
  else if f = "list" then some (.type "list")
  else if f = "tuple" then some (.type "tuple")
  else if f = "min" then some (.builtin "min")
  else if f = "max" then some (.builtin "max")
  else if f = "sum" then some (.builtin "sum")
  else if f = "zip" then some (.type "zip")
  else if f = "enumerate" then some (.type "enumerate")
  else if f = "range" then some (.type "range")
  else none

theorem reps1 {R : Addr → Option Obj} {ρ : Nat → Option Addr} {d : D} {vs : List Value} (h : RepAll R ρ [d] vs) : ∃ v, vs = [v] ∧ Rep R ρ d v := by
  obtain ⟨v, ws, rfl, hr, e⟩ := h; have e' : ws = [] := e; subst e'; exact ⟨v, rfl, hr⟩
theorem reps2 {R : Addr → Option Obj} {ρ : Nat → Option Addr} {d e : D} {vs : List Value} (h : RepAll R ρ [d, e] vs) : ∃ v u, vs = [v, u] ∧ Rep R ρ d v ∧ Rep R ρ e u := by
  obtain ⟨v, ws, rfl, hr, h2⟩ := h; obtain ⟨u, rfl, hu⟩ := reps1 h2; exact ⟨v, u, rfl, hr, hu⟩

theorem done_grow {d : D} {v : Value} {h' : Heap} {tk : Nat} (S : Sim h₀ W s) (hk : ∀ b o, s.heap.get? b = some o → h'.get? b = some o) (hr : Rep W.R W.ρ d v) (h : Q d W.st) : Fin' h₀ noOwn s W (VP Q) v { s with heap := h', toks := tk } := by
  obtain ⟨st, sm⟩ := S.grow (own := noOwn) (tk := tk) hk
  exact ⟨W, st, sm, d, hr, h⟩

theorem ok_builtin {k : Nat} {trk : Bool} {f : Str} {fv : Value} {ds : List D} {vs : List Value} (a1 : AOk k A) (S : Sim h₀ W s) (hf : bltV f = some fv) (hr : RepAll W.R W.ρ ds vs) (h : wBuiltin trk f ds W.st Q) :
    OK prog w A h₀ noOwn (call fv vs) W s (VP Q) := by
  unfold wBuiltin at h
  unfold bltV at hf
  by_cases e : f = "len"
  · rw [if_pos e] at h hf; cases hf
    obtain ⟨d, xs, rfl, hx, hl, h⟩ := h
    obtain ⟨v, rfl, hd⟩ := reps1 hr
    have hl' : xs.length ≤ 1000000 := hl
    rcases seqD_cases hx with rfl | hx'
    · obtain ⟨a, us, n, rfl, hg, hu⟩ := S.tup hd
      have e1 := hu.length
      refine PyProof.Rows.len_tuple (items := us.toArray) ⟨_, hg, rfl, n, rfl⟩ (by rw [List.size_toArray]; omega) ?_
      rw [List.size_toArray, e1]
      exact done_val (d := .int xs.length) S ⟨_, rfl⟩ h _
    · obtain ⟨a, us, n, rfl, hg, hu⟩ := S.lst hd hx'
      have e1 := hu.length
      refine Calls.call_len_list (items := us.toArray) ⟨_, hg, rfl, n, rfl⟩ (by rw [List.size_toArray]; omega) ?_
      rw [List.size_toArray, e1]
      exact done_val (d := .int xs.length) S ⟨_, rfl⟩ h _
  rw [if_neg e] at h hf
  by_cases e : f = "isinstance"
  · rw [if_pos e] at h hf; cases hf
    obtain ⟨d, T, b, rfl, ht, h⟩ := h
    obtain ⟨v, u, rfl, hd, hu⟩ := reps2 hr
    have hu' : u = .type T := hu
    subst hu'
    exact ok_isinstance S hd ht h
  rw [if_neg e] at h hf
  by_cases e : f = "list"
  · rw [if_pos e] at h hf; cases hf
    obtain ⟨d, xs, rfl, hx, h⟩ := h
    obtain ⟨v, rfl, hd⟩ := reps1 hr
    obtain ⟨a, us, n, T, rfl, hT, hg, hu⟩ := S.seq hd hx
    refine call_list_seq a hT hg rfl rfl (fun h' c' hk hg' => ?_) (by rw [List.size_toArray, hu.length]; exact le_line h.1)
    exact done_list (n := c') (tk := s.toks) S hk (get_size _) (vs := us) hg' hu h
  rw [if_neg e] at h hf
  by_cases e : f = "tuple"
  · rw [if_pos e] at h hf; cases hf
    obtain ⟨d, xs, rfl, hx, hl, h⟩ := h
    obtain ⟨v, rfl, hd⟩ := reps1 hr
    obtain ⟨a, us, n, rfl, hg, hu⟩ := S.lst hd hx
    refine call_tuple_list (items := us.toArray) ⟨_, hg, rfl, n, rfl⟩ (fun h' hk => ?_) (by rw [List.size_toArray, hu.length]; exact le_line hl)
    have dead : s.heap.get? h'.objs.size = none := by
      cases q : s.heap.get? h'.objs.size with
      | none => rfl
      | some o => have := hk _ _ q; rw [get_size] at this; cases this
    exact done_tup (n := 0) (tk := s.toks) S (fun b o e => Heap.get?_push_of_some _ (hk b o e)) dead (vs := us) (Heap.get?_push_size _ rfl) hu h
  rw [if_neg e] at h hf
  by_cases e : f = "min"
  · rw [if_pos e] at h hf; cases hf
    rcases h with ⟨i, j, rfl, h⟩ | ⟨d, xs, is, i, rfl, hx, hi, hm, hle, h⟩
    · obtain ⟨v, u, rfl, ⟨t, rfl⟩, ⟨t', rfl⟩⟩ := reps2 hr
      refine min_two_ints a1.hn fun h' tk hk => ?_
      by_cases q : j < i
      · rw [if_pos q]
        rw [Int.min_eq_right (by omega)] at h
        exact done_grow (d := .int j) S hk ⟨_, rfl⟩ h
      · rw [if_neg q]
        rw [Int.min_eq_left (by omega)] at h
        exact done_grow (d := .int i) S hk ⟨_, rfl⟩ h
    · obtain ⟨v, rfl, hd⟩ := reps1 hr
      obtain ⟨a, us, n, rfl, hg, hu⟩ := S.lst hd hx
      have := ints_rep hi hu
      subst this
      obtain ⟨ps, rfl, rfl⟩ := int_items hu
      have hL : s.heap.IsList a (intItems ps.toArray) := ⟨_, hg, rfl, n, by simp [intItems]⟩
      have hne : 0 < ps.toArray.size := by
        cases ps with
        | nil => simp at hm
        | cons p ps => simp
      refine min_intList a1.hn hL hne fun v h' tk hv hk => ?_
      obtain ⟨t, rfl⟩ := intItems_at hv
      obtain ⟨h1, h2⟩ := argBest_lt (numAt ps.toArray) (ps.toArray.size - 1)
      have hmem : numAt ps.toArray (argBest (fun i j => decide (numAt ps.toArray i < numAt ps.toArray j)) (ps.toArray.size - 1)) ∈ ps.map (·.1) := by
        rw [numAt_eq]; exact getD_mem (by simp at hne h1 ⊢; omega)
      have heq : numAt ps.toArray (argBest (fun i j => decide (numAt ps.toArray i < numAt ps.toArray j)) (ps.toArray.size - 1)) = i := by
        refine Int.le_antisymm ?_ (hle _ hmem)
        obtain ⟨q, hq, hq2⟩ := List.getElem_of_mem hm
        have := h2 q (by simp at hq ⊢; omega)
        rw [numAt_eq ps.toArray q] at this
        simp only [List.getD_eq_getElem?_getD, List.getElem?_eq_getElem hq, hq2, Option.getD_some] at this
        exact this
      rw [heq]
      exact done_grow (d := .int i) S hk ⟨_, rfl⟩ h
  rw [if_neg e] at h hf
  by_cases e : f = "max"
  · rw [if_pos e] at h hf; cases hf
    obtain ⟨d, xs, is, i, rfl, hx, hi, hm, hle, h⟩ := h
    obtain ⟨v, rfl, hd⟩ := reps1 hr
    obtain ⟨a, us, n, rfl, hg, hu⟩ := S.lst hd hx
    have := ints_rep hi hu
    subst this
    obtain ⟨ps, rfl, rfl⟩ := int_items hu
    have hL : s.heap.IsList a (intItems ps.toArray) := ⟨_, hg, rfl, n, by simp [intItems]⟩
    have hne : 0 < ps.toArray.size := by
      cases ps with
      | nil => simp at hm
      | cons p ps => simp
    refine max_intList a1.hn hL hne fun v h' tk hv hk => ?_
    obtain ⟨t, rfl⟩ := intItems_at hv
    obtain ⟨h1, h2⟩ := argBest_gt (numAt ps.toArray) (ps.toArray.size - 1)
    have hmem : numAt ps.toArray (argBest (fun i j => decide (numAt ps.toArray i > numAt ps.toArray j)) (ps.toArray.size - 1)) ∈ ps.map (·.1) := by
      rw [numAt_eq]; exact getD_mem (by simp at hne h1 ⊢; omega)
    have heq : numAt ps.toArray (argBest (fun i j => decide (numAt ps.toArray i > numAt ps.toArray j)) (ps.toArray.size - 1)) = i := by
      refine Int.le_antisymm (hle _ hmem) ?_
      obtain ⟨q, hq, hq2⟩ := List.getElem_of_mem hm
      have := h2 q (by simp at hq ⊢; omega)
      rw [numAt_eq ps.toArray q] at this
      simp only [List.getD_eq_getElem?_getD, List.getElem?_eq_getElem hq, hq2, Option.getD_some] at this
      exact this
    rw [heq]
    exact done_grow (d := .int i) S hk ⟨_, rfl⟩ h
  rw [if_neg e] at h hf
  by_cases e : f = "sum"
  · rw [if_pos e] at h hf; cases hf
    obtain ⟨d, xs, is, rfl, hx, hi, h⟩ := h
    obtain ⟨v, rfl, hd⟩ := reps1 hr
    obtain ⟨a, us, n, rfl, hg, hu⟩ := S.lst hd hx
    have := ints_rep hi hu
    subst this
    obtain ⟨ps, rfl, rfl⟩ := int_items hu
    have hL : s.heap.IsList a (intItems ps.toArray) := ⟨_, hg, rfl, n, by simp [intItems]⟩
    refine sum_intListG a1.hn hL fun h' tk t' hk => ?_
    rw [preSum_eq, List.take_of_length_le (by simp)]
    exact done_grow (d := .int _) S hk ⟨_, rfl⟩ h
  rw [if_neg e] at h
  exact h.elim
end
end Mine
end

section
set_option autoImplicit false
set_option linter.unusedVariables false
namespace Mine
open PySem

section
variable {prog : Program} {w : World} {A : Around} {h₀ : Heap} {W : Wd} {s : Shared} {Q : D → St → Prop} {env : Env}

theorem base_plain {o : Expr} (h : isCallE o = false) (nm : Str) (t : Sem Value) : attributeBase o nm env t = t := by
  cases o <;> first | rfl | cases h

theorem not_star {n : Nat} {Γ : Ctx} {trk : Bool} {kd : Kd} {e : Expr} {m : Loc} {st : St} (h : wE Γ n trk kd e m st Q) : ∀ x p, e ≠ .Starred x p := by
  intro x p q
  subst q
  cases n with
  | zero => exact h
  | succ n => exact h
theorem star_cons {e : Expr} {r : List Expr} (h : ∀ x p, e ≠ .Starred x p) : starEach (e :: r) env = (false, eval e env) :: starEach r env := by
  cases e <;> first | rfl | exact absurd rfl (h _ _)

theorem back_cons {e : Expr} {r : List Expr} {pos : Pos} (h : ∀ x p, e ≠ .Starred x p) : backTo pos (starEach (e :: r) env) = (false, eval e env) :: backTo pos (starEach r env) := by
  rw [star_cons h]; rfl
theorem back_one {e : Expr} {pos : Pos} (h : ∀ x p, e ≠ .Starred x p) : backTo pos (starEach [e] env) = [(false, eval e env)] := back_cons h

theorem upd_seq {h : Heap} {l : Addr} {vs ws : List Value} {n : Nat} {f : Array Value → Array Value} (hg : h.get? l = some (lstO vs n)) (hf : f vs.toArray = ws.toArray) :
    ∃ k, (h.update l (Obj.mapSeq f)).get? l = some (lstO ws k) := by
  refine ⟨if (ws.toArray.size == vs.toArray.size) = true then n else n + 1, ?_⟩
  rw [Heap.get?_update_self _ hg rfl]
  simp only [Obj.mapSeq, hf]

theorem ok_put {n : Nat} {l : Addr} {xs ys : List D} {vs ws : List Value} {k : Nat} {f : Array Value → Array Value} (S : Sim h₀ W s) (ha : W.ρ n = some l) (hc : W.st.cs n = some (.list xs)) (hg : s.heap.get? l = some (lstO vs k))
    (hf : f vs.toArray = ws.toArray) (hr : RepAll W.R W.ρ ys ws) (h : Q .none (W.st.put n (.list ys))) :
    Fin' h₀ noOwn s W (VP Q) .none { s with heap := s.heap.update l (Obj.mapSeq f) } := by
  obtain ⟨k', hg'⟩ := upd_seq hg hf
  obtain ⟨st, sm⟩ := S.put (own := noOwn) (tk := s.toks) (k := k') ha hc (fun b o q e => (Heap.get?_update_other s.heap _ (Ne.symm q)).trans e) hg' hr
  exact ⟨_, st, sm, .none, rfl, h⟩

theorem cel_at (S : Sim h₀ W s) {n : Nat} {xs : List D} {v : Value} (rd : Rep W.R W.ρ (.loc n) v) (hc : W.st.cs n = some (.list xs)) :
    ∃ l vs k, v = .ref l ∧ W.ρ n = some l ∧ s.heap.get? l = some (lstO vs k) ∧ RepAll W.R W.ρ xs vs := by
  obtain ⟨l, ha, rfl⟩ := rd
  obtain ⟨b, hb, vs, k, hg, hr⟩ := S.cel n _ hc
  rw [ha] at hb; cases hb
  exact ⟨l, vs, k, rfl, ha, hg, hr⟩

theorem seq_pre (S : Sim h₀ W s) {d : D} {xs : List D} {v : Value} (rd : Rep W.R W.ρ d v) (hx : lstD W.st d = some xs) : s.TypeIs v "list" ∧ (∀ a, v = .ref a → ∃ ob, s.heap.get? a = some ob ∧ ob.dict = none) := by
  obtain ⟨l, vs, k, rfl, hg, _⟩ := S.lst rd hx
  exact ⟨⟨_, hg, rfl⟩, fun a e => by cases e; exact ⟨_, hg, rfl⟩⟩

theorem fews {pos : Pos} {es : List Expr} (hl : es.length ≤ 1) (hs : ∀ e ∈ es, ∀ x p, e ≠ .Starred x p) :
    ((backTo pos (starEach es env)).all (fun x => !x.1) && (backToKw pos (keywordEach [] env)).all (fun x => x.1.isSome)
      && decide (es.length + ([] : List Keyword).length + (if ([] : List Keyword).isEmpty then 0 else 1) < 30)) = true := by
  cases es with
  | nil => rfl
  | cons e r =>
    cases r with
    | nil => rw [back_one (hs e (.head _))]; rfl
    | cons _ _ => simp at hl

theorem ok_absurd {k : Nat} {o : Expr} {nm : Str} {apos pos : Pos} {es : List Expr} {Pr : D → St → Prop} (hb : isCallE o = false)
    (ho : OK prog w A h₀ noOwn (eval o env) W s (VP Pr)) (hm : ∀ d st, ¬ Pr d st) :
    OK prog w A h₀ noOwn (eval (.Call (.Attribute o nm apos) es [] pos) env) W s (VP Q) := by
  show wpAny _ _ (eval (.Call (.Attribute o nm apos) es [] pos) env) _ _ _
  rw [arm_eval_Call, base_plain hb]
  exact wpAny_bind (wpAny_mono ho (fun ov s₁ ⟨W1, x, S1, d, rd, p⟩ => (hm d _ p).elim) fun _ _ e => e)

/-- a method of a list, no argument -/
theorem ok_meth0 {o : Expr} {nm : Str} {apos pos : Pos} {Pr : D → St → Prop} (S : Sim h₀ W s) (hb : isCallE o = false) (hln : (apos.endLine == pos.line) = true)
    (ho : OK prog w A h₀ noOwn (eval o env) W s (VP Pr)) (hm : ∀ d st, Pr d st → wMeth nm d [] st Q) :
    OK prog w A h₀ noOwn (eval (.Call (.Attribute o nm apos) [] [] pos) env) W s (VP Q) := by
  by_cases e : nm = "clear"
  · subst e
    refine wpAny_Call_method (base_plain hb _ _) (fews (by simp) (by simp)) hln F.plainAttrs_list F.slot_list_clear F.type_list_clear ?_
    refine wpAny_mono ho ?_ fun _ _ e => e
    rintro ov s₁ ⟨W1, x, S1, d, rd, p⟩
    have h := hm d _ p
    unfold wMeth at h
    rw [if_neg (by decide +kernel), if_pos rfl] at h
    obtain ⟨n, xs, rfl, _, hc, hl, h⟩ := h
    obtain ⟨l, vs, k', rfl, ha, hg, hr⟩ := cel_at S1 rd hc
    refine ⟨⟨_, hg, rfl⟩, fun a e => by cases e; exact ⟨_, hg, rfl⟩, ?_⟩
    refine P.clear_list hg ?_ (by rw [List.size_toArray, hr.length]; exact le_line hl)
    obtain ⟨W2, y, S2, z⟩ := ok_put (f := fun _ => #[]) (ws := []) (ys := []) S1 ha hc hg rfl rfl h
    exact ⟨W2, x.trans S y, S2, z⟩
  · refine ok_absurd (k := 0) hb ho fun d st p => ?_
    have h := hm d st p
    unfold wMeth at h
    rw [if_neg e] at h
    split at h
    · obtain ⟨_, _, _, _, h, _⟩ := h; cases h
    · split at h
      · obtain ⟨_, _, _, _, _, h, _⟩ := h; cases h
      · split at h
        · obtain ⟨_, _, _, h, _⟩ := h; cases h
        · exact h

/-- a method of a list, one argument -/
theorem ok_meth1 {o e : Expr} {nm : Str} {apos pos : Pos} {Pr : D → St → Prop} (S : Sim h₀ W s) (hb : isCallE o = false) (hln : (apos.endLine == pos.line) = true) (hnm : isMeth1 nm) (hse : ∀ x p, e ≠ .Starred x p)
    (ho : OK prog w A h₀ noOwn (eval o env) W s (VP Pr))
    (he : ∀ d v W1 s1, Step noOwn s W s1 W1 → Sim h₀ W1 s1 → Rep W1.R W1.ρ d v → Pr d W1.st → OK prog w A h₀ noOwn (eval e env) W1 s1 (VP fun x st2 => wMeth nm d [x] st2 Q))
    (hl : ∀ d v W1 s1, Step noOwn s W s1 W1 → Sim h₀ W1 s1 → Rep W1.R W1.ρ d v → Pr d W1.st → ∃ xs, lstD W1.st d = some xs) :
    OK prog w A h₀ noOwn (eval (.Call (.Attribute o nm apos) [e] [] pos) env) W s (VP Q) := by
  have hfew := fews (env := env) (pos := pos) (es := [e]) (by simp) (by intro e' h; simp at h; subst h; exact hse)
  by_cases e1 : nm = "append"
  · subst e1
    refine wpAny_Call_method (base_plain hb _ _) hfew hln F.plainAttrs_list F.slot_list_append F.type_list_append ?_
    refine wpAny_mono ho ?_ fun _ _ e => e
    rintro ov s₁ ⟨W1, x, S1, d, rd, p⟩
    obtain ⟨xs0, hl0⟩ := hl d ov W1 s₁ x S1 rd p
    obtain ⟨pt, pd⟩ := seq_pre S1 rd hl0
    refine ⟨pt, pd, ?_⟩
    obtain ⟨l0, _, _, hv0, _, _⟩ := S1.lst rd hl0
    subst hv0
    rw [back_one hse]
    refine P.append_list (wpAny_mono (he d _ W1 s₁ x S1 rd p) ?_ fun _ _ e => e)
    rintro v s2 ⟨W2, y, S2, x2, r2, h0⟩
    have h : wMeth _ d [x2] W2.st Q := h0
    unfold wMeth at h
    rw [if_pos rfl] at h
    obtain ⟨n, x', xs, rfl, e', hc, hlen, h⟩ := h
    cases e'
    obtain ⟨l, vs, k', e2, ha, hg, hr⟩ := cel_at S2 (y.rep S1 rd) hc
    cases e2
    refine ⟨vs.toArray, k', by rw [List.size_toArray, hr.length]; exact le_line hlen, hg, ?_⟩
    obtain ⟨W3, z, S3, q⟩ := ok_put (f := fun xs => xs.push v) (ws := vs ++ [v]) S2 ha hc hg (by simp) (hr.append (RepAll.one r2)) h
    exact ⟨W3, x.trans S (y.trans S1 z), S3, q⟩
  by_cases e2 : nm = "extend"
  · subst e2
    refine wpAny_Call_method (base_plain hb _ _) hfew hln F.plainAttrs_list F.slot_list_extend F.type_list_extend ?_
    refine wpAny_mono ho ?_ fun _ _ e => e
    rintro ov s₁ ⟨W1, x, S1, d, rd, p⟩
    obtain ⟨xs0, hl0⟩ := hl d ov W1 s₁ x S1 rd p
    obtain ⟨pt, pd⟩ := seq_pre S1 rd hl0
    refine ⟨pt, pd, ?_⟩
    obtain ⟨l0, _, _, hv0, _, _⟩ := S1.lst rd hl0
    subst hv0
    rw [back_one hse]
    refine P.extend_list (wpAny_mono (he d _ W1 s₁ x S1 rd p) ?_ fun _ _ e => e)
    rintro v s2 ⟨W2, y, S2, x2, r2, h0⟩
    have h : wMeth _ d [x2] W2.st Q := h0
    unfold wMeth at h
    rw [if_neg (by decide +kernel), if_neg (by decide +kernel), if_pos rfl] at h
    obtain ⟨n, y', xs, ys, rfl, e', hc, hy, hlen, h⟩ := h
    cases e'
    obtain ⟨l, vs, k', e2, ha, hg, hr⟩ := cel_at S2 (y.rep S1 rd) hc
    cases e2
    obtain ⟨b, us, kb, rfl, hgb, hrb⟩ := S2.lst r2 hy
    have q1 := hr.length
    have q2 := hrb.length
    have q3 : xs.length + ys.length ≤ 1000000 := hlen
    refine ⟨b, vs.toArray, us.toArray, k', kb, by rw [List.size_toArray, q1]; exact le_line (by omega), ?_, ?_, rfl, hg, hgb, ?_⟩
    · simp only [List.size_toArray, q1, q2]; have := lim_line; show _ ≤ sizeLine + 1; have : lim = 1000000 := rfl; omega
    · simp only [Builtin.List.listTooLong, List.size_toArray, q1, q2, sizeLine]
      intro z
      simp at z
      omega
    · obtain ⟨W3, z, S3, q⟩ := ok_put (f := fun xs => xs ++ us.toArray) (ws := vs ++ us) S2 ha hc hg (by simp) (hr.append hrb) h
      exact ⟨W3, x.trans S (y.trans S1 z), S3, q⟩
  by_cases e3 : nm = "index"
  · subst e3
    refine wpAny_Call_method (base_plain hb _ _) hfew hln F.plainAttrs_list F.slot_list_index F.type_list_index ?_
    refine wpAny_mono ho ?_ fun _ _ e => e
    rintro ov s₁ ⟨W1, x, S1, d, rd, p⟩
    obtain ⟨xs0, hl0⟩ := hl d ov W1 s₁ x S1 rd p
    obtain ⟨pt, pd⟩ := seq_pre S1 rd hl0
    refine ⟨pt, pd, ?_⟩
    obtain ⟨l0, _, _, hv0, _, _⟩ := S1.lst rd hl0
    subst hv0
    rw [back_one hse]
    refine P.index_list (wpAny_mono (he d _ W1 s₁ x S1 rd p) ?_ fun _ _ e => e)
    rintro v s2 ⟨W2, y, S2, x2, r2, h0⟩
    have h : wMeth _ d [x2] W2.st Q := h0
    unfold wMeth at h
    rw [if_neg (by decide +kernel), if_neg (by decide +kernel), if_neg (by decide +kernel), if_pos rfl] at h
    obtain ⟨i, xs, is, e', hx, hi, hmem, hlen, h⟩ := h
    cases e'
    obtain ⟨t, rfl⟩ := r2
    obtain ⟨l, vs, k', e2, hg, hr⟩ := S2.lst (y.rep S1 rd) hx
    cases e2
    have := ints_rep hi hr
    subst this
    obtain ⟨ps, rfl, rfl⟩ := int_items hr
    have hlen' : ps.length ≤ 1000000 := by have : ps.length ≤ lim := by simpa using hlen
                                           exact this
    have hj : (ps.map (·.1)).idxOf i < ps.length := by simpa using List.idxOf_lt_length_of_mem hmem
    let e : Value → Bool := fun v => match v with
      | .int k _ => k == i
      | _ => false
    refine ⟨((ps.map fun p => Value.int p.1 p.2)).toArray, k', e, (ps.map (·.1)).idxOf i, by simpa using hj, hg, ?_, by omega, ?_, ?_, ?_⟩
    · intro y hy
      simp at hy
      obtain ⟨a, b, _, rfl⟩ := hy
      exact MeetsSeq.EqGives.int _ _ _ _
    · have : (ps.map (·.1))[(ps.map (·.1)).idxOf i]'(by simpa using hj) = i := List.getElem_idxOf (by simpa using hj)
      simp only [List.getElem_map] at this
      simp [e, this]
    · intro q hq hlt
      have : (ps.map (·.1))[q]'(by simpa using hq) ≠ i := by
        intro z
        have h1 : (ps.map (·.1)).idxOf i ≤ q := by
          have h2 : i ∈ (ps.map (·.1)).take (q + 1) := by
            rw [← z]
            refine List.mem_take_iff_getElem.mpr ⟨q, by simp at hq ⊢; omega, rfl⟩
          have h3 := List.idxOf_lt_length_of_mem h2
          have h4 : (ps.map (·.1)).idxOf i = ((ps.map (·.1)).take (q + 1)).idxOf i := by
            conv => lhs; rw [← List.take_append_drop (q + 1) (ps.map (·.1))]
            rw [List.idxOf_append, if_pos h2]
          rw [h4]
          have h5 : ((ps.map (·.1)).take (q + 1)).length ≤ q + 1 := by simp; omega
          omega
        omega
      simp only [List.getElem_map] at this
      simp [e, this]
    · exact ⟨W2, x.trans S (y.trans S1 (Step.toks _ _ _)), S2.toks _, .int _, ⟨_, rfl⟩, h⟩
  · exfalso; rcases hnm with q | q | q; exact e1 q; exact e2 q; exact e3 q
end
end Mine
end

section
set_option autoImplicit false
set_option linter.unusedVariables false
namespace Mine
open PySem

/-- a sequence and an iterator over it: a tuple (true) or a list (false) -/
noncomputable def IsS (k : Bool) (h : Heap) (l : Addr) (items : Array Value) : Prop := match k with
  | true => h.IsTuple l items
  | false => h.IsList l items
noncomputable def IsIt (k : Bool) (h : Heap) (i l : Addr) (n : Nat) : Prop := match k with
  | true => h.IsTupleIter i l n
  | false => h.IsListIter i l n
noncomputable def itN (k : Bool) : String := if k then "tuple_iterator" else "list_iterator"
noncomputable abbrev itO (k : Bool) (l : Addr) : Obj := { cls := .type (itN k), data := .fields #[.ref l, .int 0 0] }

theorem IsS.at {k : Bool} {h h' : Heap} {l : Addr} {items : Array Value} (x : IsS k h l items) (hk : ∀ o, h.get? l = some o → h'.get? l = some o) : IsS k h' l items := by
  cases k with
  | true => obtain ⟨o, ho, r⟩ := x; exact ⟨o, hk o ho, r⟩
  | false => obtain ⟨o, ho, r⟩ := x; exact ⟨o, hk o ho, r⟩
theorem IsIt.at {k : Bool} {h h' : Heap} {i l : Addr} {n : Nat} (x : IsIt k h i l n) (hk : ∀ o, h.get? i = some o → h'.get? i = some o) : IsIt k h' i l n := by
  cases k with
  | true => obtain ⟨o, ho, r⟩ := x; exact ⟨o, hk o ho, r⟩
  | false => obtain ⟨o, ho, r⟩ := x; exact ⟨o, hk o ho, r⟩
theorem IsIt.new (k : Bool) {h : Heap} {i l : Addr} (hg : h.get? i = some (itO k l)) : IsIt k h i l 0 := by
  cases k with
  | true => exact ⟨_, hg, rfl, rfl⟩
  | false => exact ⟨_, hg, rfl, rfl⟩
theorem IsIt.alive {k : Bool} {h : Heap} {i l : Addr} {n : Nat} (x : IsIt k h i l n) : ∃ o, h.get? i = some o := by
  cases k with
  | true => obtain ⟨o, ho, _⟩ := x; exact ⟨o, ho⟩
  | false => obtain ⟨o, ho, _⟩ := x; exact ⟨o, ho⟩
theorem IsS.alive {k : Bool} {h : Heap} {l : Addr} {items : Array Value} (x : IsS k h l items) : ∃ o, h.get? l = some o := by
  cases k with
  | true => obtain ⟨o, ho, _⟩ := x; exact ⟨o, ho⟩
  | false => obtain ⟨o, ho, _⟩ := x; exact ⟨o, ho⟩

section
variable {prog : Program} {w : World} {A : Around} {E : Value → Shared → Prop} {s : Shared}

theorem pyIter_S {k : Bool} {l : Addr} {items : Array Value} {Q : Value → Shared → Prop} (hl : IsS k s.heap l items) (h : Q (.ref s.heap.objs.size) { s with heap := s.heap.push (itO k l) }) :
    wpAny (model prog w) A (pyIter (.ref l)) Q E s := by
  cases k with
  | true => exact wpAny_pyIter_tuple hl h
  | false => exact wpAny_pyIter_list hl h

theorem pyNext_S {k : Bool} {it l : Addr} {i : Nat} {items : Array Value} {x : Value} {Q : Option Value → Shared → Prop} (hit : IsIt k s.heap it l i) (hl : IsS k s.heap l items) (hx : items[i]? = some x)
    (hQ : ∀ h', IsIt k h' it l (i + 1) → Heap.SameBut it s.heap h' → Q (some x) { s with heap := h' }) : wpAny (model prog w) A (pyNext (.ref it)) Q E s := by
  cases k with
  | true => exact wpAny_pyNext_tuple_item hit hl hx hQ
  | false => exact wpAny_pyNext_list_item hit hl hx hQ
theorem pyNext_SE {k : Bool} {it l : Addr} {i : Nat} {items : Array Value} {Q : Option Value → Shared → Prop} (hh : A.handled = none) (hit : IsIt k s.heap it l i) (hl : IsS k s.heap l items) (hx : items[i]? = none)
    (hQ : ∀ h', Heap.ExtBut it s.heap h' → Q none { s with heap := h' }) : wpAny (model prog w) A (pyNext (.ref it)) Q E s := by
  cases k with
  | true => exact wpAny_pyNext_tuple_end hh hit hl hx hQ
  | false => exact wpAny_pyNext_list_end hh hit hl hx hQ

theorem nextOf_S {k : Bool} {it l : Addr} {i : Nat} {items : Array Value} {x : Value} {Q : Value → Shared → Prop} (hit : IsIt k s.heap it l i) (hl : IsS k s.heap l items) (hx : items[i]? = some x)
    (hQ : ∀ h', IsIt k h' it l (i + 1) → Heap.SameBut it s.heap h' → Q x { s with heap := h' }) : wpAny (model prog w) A (Builtin.SmallTypes.nextOf (.ref it)) Q E s := by
  cases k with
  | false => exact wpAny_nextOf_list_item hit hl hx hQ
  | true =>
    obtain ⟨o, ho, hc, hd⟩ := id hit
    have hT : s.TypeIs (.ref it) "tuple_iterator" := ⟨o, ho, hc⟩
    obtain ⟨ol, hol, _, nl, hdl⟩ := hl
    unfold Builtin.SmallTypes.nextOf
    refine wpAny_bind (wpAny_callSpecial?_slot (name := Str.ofString "__next__") hT F.slot_tuple_iterator_next
      (wpAny_call_entry F.slot_tuple_iterator_next hT F.entry_tuple_iterator_next ?_ (F.args_tuple_iterator_next_1 _)))
    show wpAny _ _ (field (.ref it) 0 >>= _) _ _ s
    refine wpAny_bind (wpAny_field ho hd (x := .ref l) rfl ?_)
    show wpAny _ _ (if (Value.ref l == Value.none) = true then _ else _) _ _ s
    rw [if_neg (show ¬ ((Value.ref l == Value.none) = true) from Bool.false_ne_true)]
    show wpAny _ _ (field (.ref it) 1 >>= _) _ _ s
    refine wpAny_bind (wpAny_field ho hd (x := .int i 0) rfl ?_)
    show wpAny _ _ (seqItems? (.ref l) >>= _) _ _ s
    refine wpAny_bind (wpAny_seqItems hol hdl ?_)
    simp only [Int.toNat_natCast, hx]
    refine wpAny_bind (wpAny_setField ho hd (by simp) (wpAny_pure ⟨x, rfl, wpAny_pure (hQ _ ?_ (Heap.SameBut.update ..))⟩))
    exact ⟨_, Heap.get?_update_self _ ho (Obj.isFreed_of_fields (Obj.data_mapFields hd _)), (Obj.cls_mapFields ..).trans hc, by rw [Obj.data_mapFields hd]; simp [rawInt]⟩

theorem nextOf_SE {k : Bool} {it l : Addr} {i : Nat} {items : Array Value} {Q : Value → Shared → Prop} (hh : A.handled = none) (hit : IsIt k s.heap it l i) (hl : IsS k s.heap l items) (hx : items[i]? = none)
    (hE : ∀ h' e, Heap.ExtBut it s.heap h' → (∃ o, h'.get? e = some o ∧ o.cls = .type "StopIteration") → E (.ref e) { s with heap := h' }) : wpAny (model prog w) A (Builtin.SmallTypes.nextOf (.ref it)) Q E s := by
  cases k with
  | false => exact wpAny_nextOf_list_end hh hit hl hx hE
  | true =>
    obtain ⟨o, ho, hc, hd⟩ := id hit
    have hT : s.TypeIs (.ref it) "tuple_iterator" := ⟨o, ho, hc⟩
    obtain ⟨ol, hol, _, nl, hdl⟩ := hl
    unfold Builtin.SmallTypes.nextOf
    refine wpAny_bind (wpAny_callSpecial?_slot (name := Str.ofString "__next__") hT F.slot_tuple_iterator_next
      (wpAny_call_entry F.slot_tuple_iterator_next hT F.entry_tuple_iterator_next ?_ (F.args_tuple_iterator_next_1 _)))
    show wpAny _ _ (field (.ref it) 0 >>= _) _ _ s
    refine wpAny_bind (wpAny_field ho hd (x := .ref l) rfl ?_)
    show wpAny _ _ (if (Value.ref l == Value.none) = true then _ else _) _ _ s
    rw [if_neg (show ¬ ((Value.ref l == Value.none) = true) from Bool.false_ne_true)]
    show wpAny _ _ (field (.ref it) 1 >>= _) _ _ s
    refine wpAny_bind (wpAny_field ho hd (x := .int i 0) rfl ?_)
    show wpAny _ _ (seqItems? (.ref l) >>= _) _ _ s
    refine wpAny_bind (wpAny_seqItems hol hdl ?_)
    simp only [Int.toNat_natCast, hx]
    refine wpAny_bind (wpAny_rule (wpAny_bind (wpAny_setField ho hd (by simp) ?_)))
    show wpAny _ _ (newExc (.type "StopIteration") [] >>= _) _ _ _
    refine wpAny_bind ?_
    simp only [newExc, newTuple]
    refine wpAny_bind (wpAny_newObj_type ?_ (by size_fits))
    refine wpAny_bind (m := firstArgMember _ _) (wpAny_of_eq (a := Value.none) (by first | rfl | (simp only [firstArgMember]; rfl)) ?_)
    refine wpAny_newObj_type ?_ (by size_fits)
    simp only [raiseNew]
    refine wpAny_bind (wpAny_handled ?_)
    first | rw [show A.in1.handled = none from hh] | rw [hh]
    refine wpAny_bind (wpAny_pure (wpAny_throw ?_))
    exact hE _ _ (((Heap.SameBut.update ..).extBut.push _).push _) ⟨_, Heap.get?_push_size _ rfl, rfl⟩
end
end Mine
end

section
set_option autoImplicit false
set_option linter.unusedVariables false
namespace Mine
open PySem

section
variable {prog : Program} {w : World} {A : Around} {E : Value → Shared → Prop} {s : Shared}

theorem zip_item {b1 b2 : Bool} {z TI TO i1 i2 l1 l2 : Addr} {k1 k2 : Nat} {xs ys : Array Value} {x y a b : Value} {Q : Value → Shared → Prop} (D : ZipApart z TI TO i1 i2 l1 l2)
    (hz : IsZip s.heap z TI TO .none) (hTI : IsPair s.heap TI (.ref i1) (.ref i2)) (hTO : IsPair s.heap TO a b)
    (h1 : IsIt b1 s.heap i1 l1 k1) (h2 : IsIt b2 s.heap i2 l2 k2) (hl1 : IsS b1 s.heap l1 xs) (hl2 : IsS b2 s.heap l2 ys) (hx : xs[k1]? = some x) (hy : ys[k2]? = some y)
    (hQ : ∀ h', IsZip h' z TI TO (rawInt s.heap.objs.size) → IsPair h' TO x y → IsIt b1 h' i1 l1 (k1 + 1) → IsIt b2 h' i2 l2 (k2 + 1) → IsPair h' s.heap.objs.size x y → h'.objs.size = s.heap.objs.size + 1 →
      (∀ c o, c ≠ z → c ≠ TO → c ≠ i1 → c ≠ i2 → s.heap.get? c = some o → h'.get? c = some o) → Q (.ref s.heap.objs.size) { s with heap := h' }) :
    wpAny (model prog w) A (Builtin.«zip.__next__» ⟨[.ref z], []⟩) (fun fin s' => ∃ v, fin = .done (.ret v) ∧ Q v s') E s := by
  show wpAny _ _ (field (.ref z) 2 >>= _) _ _ _
  refine wpAny_bind (wpAny_field hz rfl (x := .bool false) rfl ?_)
  show wpAny _ _ (field (.ref z) 3 >>= _) _ _ _
  refine wpAny_bind (wpAny_field hz rfl (x := .ref TI) rfl ?_)
  refine wpAny_bind (wpAny_seqItems hTI rfl ?_)
  show wpAny _ _ (Builtin.SmallTypes.ownedTupleIsFree (.ref z) >>= _) _ _ _
  refine wpAny_bind ?_
  unfold Builtin.SmallTypes.ownedTupleIsFree
  refine wpAny_bind (wpAny_field hz rfl (x := .none) rfl (wpAny_pure ?_))
  simp only [if_true]
  refine wpAny_bind (wpAny_rule ?_)
  refine wpAny_bind (wpAny_field hz rfl (x := .ref TO) rfl ?_)
  refine wpAny_bind (wpAny_setField_rec hz (by simp) fun h₁ hz₁ hs₁ => ?_)
  replace hz₁ : IsZip h₁ z TI TO .ellipsis := hz₁
  refine wpAny_bind ?_
  simp only [List.zipIdx_cons, List.zipIdx_nil, List.forIn_cons, List.forIn_nil]
  refine wpAny_bind (wpAny_bind (wpAny_onRaise ?_))
  show wpAny _ _ (Builtin.SmallTypes.nextOf (.ref i1) >>= _) _ _ _
  refine wpAny_bind (nextOf_S (h1.at fun o e => hs₁.extBut _ _ D.i1z e) (hl1.at fun o e => hs₁.extBut _ _ D.l1z e) hx fun h₂ h1₂ hs₂ => wpAny_pure ?_)
  have hTO₂ : IsPair h₂ TO a b := hs₂.extBut _ _ D.TOi1 (hs₁.extBut _ _ D.TOz hTO)
  refine wpAny_bind (wpAny_seqItems hTO₂ rfl ?_)
  refine wpAny_bind (wpAny_updateSeq_pair hTO₂ fun h₃ hTO₃ hs₃ => ?_)
  replace hTO₃ : IsPair h₃ TO x b := hTO₃
  refine wpAny_bind (wpAny_letGo (wpAny_pure ?_))
  refine wpAny_bind (wpAny_bind (wpAny_onRaise ?_))
  show wpAny _ _ (Builtin.SmallTypes.nextOf (.ref i2) >>= _) _ _ _
  refine wpAny_bind (nextOf_S (h2.at fun o e => hs₃.extBut _ _ D.TOi2.symm (hs₂.extBut _ _ D.i12.symm (hs₁.extBut _ _ D.i2z e)))
    (hl2.at fun o e => hs₃.extBut _ _ D.l2TO (hs₂.extBut _ _ D.l2i1 (hs₁.extBut _ _ D.l2z e))) hy fun h₄ h2₄ hs₄ => wpAny_pure ?_)
  have hTO₄ : IsPair h₄ TO x b := hs₄.extBut _ _ D.TOi2 hTO₃
  refine wpAny_bind (wpAny_seqItems hTO₄ rfl ?_)
  refine wpAny_bind (wpAny_updateSeq_pair hTO₄ fun h₅ hTO₅ hs₅ => ?_)
  replace hTO₅ : IsPair h₅ TO x y := hTO₅
  refine wpAny_bind (wpAny_letGo (wpAny_pure (wpAny_pure ?_)))
  refine wpAny_bind (wpAny_seqItems hTO₅ rfl ?_)
  refine wpAny_bind (wpAny_newTuple ?_)
  have hsz : h₅.objs.size = s.heap.objs.size := by rw [hs₅.1, hs₄.1, hs₃.1, hs₂.1, hs₁.1]
  have hz₅ : IsZip h₅ z TI TO .ellipsis := hs₅.extBut _ _ D.TOz.symm (hs₄.extBut _ _ D.i2z.symm (hs₃.extBut _ _ D.TOz.symm (hs₂.extBut _ _ D.i1z.symm hz₁)))
  have hk₅ : ∀ c o, c ≠ z → c ≠ TO → c ≠ i1 → c ≠ i2 → s.heap.get? c = some o → h₅.get? c = some o := fun c o c1 c2 c3 c4 e =>
    hs₅.extBut _ _ c2 (hs₄.extBut _ _ c4 (hs₃.extBut _ _ c2 (hs₂.extBut _ _ c3 (hs₁.extBut _ _ c1 e))))
  have h1₅ : IsIt b1 h₅ i1 l1 (k1 + 1) := h1₂.at fun o e => hs₅.extBut _ _ D.TOi1.symm (hs₄.extBut _ _ D.i12 (hs₃.extBut _ _ D.TOi1.symm e))
  have h2₅ : IsIt b2 h₅ i2 l2 (k2 + 1) := h2₄.at fun o e => hs₅.extBut _ _ D.TOi2.symm e
  have hzlt : z < h₅.objs.size := Heap.lt_size hz₅
  show wpAny _ _ (Builtin.SmallTypes.ownedTupleHandOut (.ref z) (.ref h₅.objs.size) >>= _) _ _ _
  refine wpAny_bind ?_
  unfold Builtin.SmallTypes.ownedTupleHandOut
  have hz₆ : IsZip (h₅.push { cls := .type "tuple", data := .seq #[x, y] }) z TI TO .ellipsis := Heap.get?_push_of_some _ hz₅
  refine wpAny_bind (wpAny_setField_rec hz₆ (by simp) fun h₇ hz₇ hs₇ => ?_)
  replace hz₇ : IsZip h₇ z TI TO (rawInt h₅.objs.size) := hz₇
  refine wpAny_setField_rec hz₇ (by simp) fun h₈ hz₈ hs₈ => ?_
  replace hz₈ : IsZip h₈ z TI TO (rawInt h₅.objs.size) := hz₈
  have up : ∀ c o, c ≠ z → h₅.get? c = some o → h₈.get? c = some o := fun c o c1 e => hs₈.extBut _ _ c1 (hs₇.extBut _ _ c1 (Heap.get?_push_of_some _ e))
  have hT₈ : IsPair h₈ h₅.objs.size x y := hs₈.extBut _ _ (Nat.ne_of_gt hzlt) (hs₇.extBut _ _ (Nat.ne_of_gt hzlt) (Heap.get?_push_size _ rfl))
  have hz8 : h₈.objs.size = h₅.objs.size + 1 := by rw [hs₈.1, hs₇.1, Heap.size_push]
  rw [hsz] at hz₈ hT₈ hz8
  refine wpAny_pure ⟨_, rfl, ?_⟩
  show Q (.ref h₅.objs.size) _
  rw [hsz]
  exact hQ h₈ hz₈ (up _ _ D.TOz hTO₅) (h1₅.at fun o e => up _ o D.i1z e) (h2₅.at fun o e => up _ o D.i2z e) hT₈ hz8 fun c o c1 c2 c3 c4 e => up c o c1 (hk₅ c o c1 c2 c3 c4 e)

theorem zip_end {b1 b2 : Bool} {z TI TO i1 i2 l1 l2 : Addr} {k1 k2 : Nat} {xs ys : Array Value} {a b : Value} {Q : Fin → Shared → Prop} (hh : A.handled = none) (D : ZipApart z TI TO i1 i2 l1 l2)
    (hz : IsZip s.heap z TI TO .none) (hTI : IsPair s.heap TI (.ref i1) (.ref i2)) (hTO : IsPair s.heap TO a b)
    (h1 : IsIt b1 s.heap i1 l1 k1) (h2 : IsIt b2 s.heap i2 l2 k2) (hl1 : IsS b1 s.heap l1 xs) (hl2 : IsS b2 s.heap l2 ys) (hend : xs[k1]? = none ∨ ys[k2]? = none)
    (hE : ∀ h' e, (∀ c o, c ≠ z → c ≠ TO → c ≠ i1 → c ≠ i2 → s.heap.get? c = some o → h'.get? c = some o) → (∃ o, h'.get? e = some o ∧ o.cls = .type "StopIteration") → E (.ref e) { s with heap := h' }) :
    wpAny (model prog w) A (Builtin.«zip.__next__» ⟨[.ref z], []⟩) Q E s := by
  show wpAny _ _ (field (.ref z) 2 >>= _) _ _ _
  refine wpAny_bind (wpAny_field hz rfl (x := .bool false) rfl ?_)
  show wpAny _ _ (field (.ref z) 3 >>= _) _ _ _
  refine wpAny_bind (wpAny_field hz rfl (x := .ref TI) rfl ?_)
  refine wpAny_bind (wpAny_seqItems hTI rfl ?_)
  show wpAny _ _ (Builtin.SmallTypes.ownedTupleIsFree (.ref z) >>= _) _ _ _
  refine wpAny_bind ?_
  unfold Builtin.SmallTypes.ownedTupleIsFree
  refine wpAny_bind (wpAny_field hz rfl (x := .none) rfl (wpAny_pure ?_))
  simp only [if_true]
  refine wpAny_bind (wpAny_rule ?_)
  refine wpAny_bind (wpAny_field hz rfl (x := .ref TO) rfl ?_)
  refine wpAny_bind (wpAny_setField_rec hz (by simp) fun h₁ hz₁ hs₁ => ?_)
  replace hz₁ : IsZip h₁ z TI TO .ellipsis := hz₁
  refine wpAny_bind ?_
  simp only [List.zipIdx_cons, List.zipIdx_nil, List.forIn_cons, List.forIn_nil]
  refine wpAny_bind (wpAny_bind (wpAny_onRaise ?_))
  show wpAny _ _ (Builtin.SmallTypes.nextOf (.ref i1) >>= _) _ _ _
  cases hx : xs[k1]? with
  | none =>
    refine wpAny_bind (nextOf_SE hh (h1.at fun o e => hs₁.extBut _ _ D.i1z e) (hl1.at fun o e => hs₁.extBut _ _ D.l1z e) hx fun h₂ e hs₂ he => ?_)
    obtain ⟨oe, hoe, hce⟩ := he
    have hz₂ : IsZip h₂ z TI TO .ellipsis := hs₂ _ _ D.i1z.symm hz₁
    have hez : e ≠ z := fun x => by subst x; rw [hz₂] at hoe; cases hoe; simp at hce
    refine wpAny_setField_rec hz₂ (by simp) fun h₃ _ hs₃ => hE h₃ e (fun c o c1 _ c3 _ x => hs₃.extBut _ _ c1 (hs₂ _ _ c3 (hs₁.extBut _ _ c1 x))) ⟨oe, hs₃.extBut _ _ hez hoe, hce⟩
  | some x =>
    have hy : ys[k2]? = none := by rcases hend with h | h; rw [hx] at h; cases h; exact h
    refine wpAny_bind (nextOf_S (h1.at fun o e => hs₁.extBut _ _ D.i1z e) (hl1.at fun o e => hs₁.extBut _ _ D.l1z e) hx fun h₂ h1₂ hs₂ => wpAny_pure ?_)
    have hTO₂ : IsPair h₂ TO a b := hs₂.extBut _ _ D.TOi1 (hs₁.extBut _ _ D.TOz hTO)
    refine wpAny_bind (wpAny_seqItems hTO₂ rfl ?_)
    refine wpAny_bind (wpAny_updateSeq_pair hTO₂ fun h₃ hTO₃ hs₃ => ?_)
    refine wpAny_bind (wpAny_letGo (wpAny_pure ?_))
    refine wpAny_bind (wpAny_bind (wpAny_onRaise ?_))
    show wpAny _ _ (Builtin.SmallTypes.nextOf (.ref i2) >>= _) _ _ _
    refine wpAny_bind (nextOf_SE hh (h2.at fun o e => hs₃.extBut _ _ D.TOi2.symm (hs₂.extBut _ _ D.i12.symm (hs₁.extBut _ _ D.i2z e)))
      (hl2.at fun o e => hs₃.extBut _ _ D.l2TO (hs₂.extBut _ _ D.l2i1 (hs₁.extBut _ _ D.l2z e))) hy fun h₄ e hs₄ he => ?_)
    obtain ⟨oe, hoe, hce⟩ := he
    have hz₄ : IsZip h₄ z TI TO .ellipsis := hs₄ _ _ D.i2z.symm (hs₃.extBut _ _ D.TOz.symm (hs₂.extBut _ _ D.i1z.symm hz₁))
    have hez : e ≠ z := fun x => by subst x; rw [hz₄] at hoe; cases hoe; simp at hce
    refine wpAny_setField_rec hz₄ (by simp) fun h₅ _ hs₅ => hE h₅ e (fun c o c1 c2 c3 c4 x => hs₅.extBut _ _ c1 (hs₄ _ _ c4 (hs₃.extBut _ _ c2 (hs₂.extBut _ _ c3 (hs₁.extBut _ _ c1 x))))) ⟨oe, hs₅.extBut _ _ hez hoe, hce⟩

theorem pyNext_zip {b1 b2 : Bool} {z TI TO i1 i2 l1 l2 : Addr} {k1 k2 : Nat} {xs ys : Array Value} {x y a b : Value} {Q : Option Value → Shared → Prop} (D : ZipApart z TI TO i1 i2 l1 l2)
    (hz : IsZip s.heap z TI TO .none) (hTI : IsPair s.heap TI (.ref i1) (.ref i2)) (hTO : IsPair s.heap TO a b)
    (h1 : IsIt b1 s.heap i1 l1 k1) (h2 : IsIt b2 s.heap i2 l2 k2) (hl1 : IsS b1 s.heap l1 xs) (hl2 : IsS b2 s.heap l2 ys) (hx : xs[k1]? = some x) (hy : ys[k2]? = some y)
    (hQ : ∀ h', IsZip h' z TI TO (rawInt s.heap.objs.size) → IsPair h' TO x y → IsIt b1 h' i1 l1 (k1 + 1) → IsIt b2 h' i2 l2 (k2 + 1) → IsPair h' s.heap.objs.size x y → h'.objs.size = s.heap.objs.size + 1 →
      (∀ c o, c ≠ z → c ≠ TO → c ≠ i1 → c ≠ i2 → s.heap.get? c = some o → h'.get? c = some o) → Q (some (.ref s.heap.objs.size)) { s with heap := h' }) :
    wpAny (model prog w) A (pyNext (.ref z)) Q E s := by
  have hT : s.TypeIs (.ref z) "zip" := ⟨_, hz, rfl⟩
  unfold pyNext
  exact wpAny_bind (wpAny_attempt (wpAny_callSpecial?_slot (name := Str.ofString "__next__") hT F.slot_zip_next
    (wpAny_call_entry F.slot_zip_next hT F.entry_zip_next
      (zip_item D hz hTI hTO h1 h2 hl1 hl2 hx hy fun h' a1 a2 a3 a4 a5 a6 a7 => wpAny_pure (hQ h' a1 a2 a3 a4 a5 a6 a7)) (F.args_zip_next_1 _))))

theorem pyNext_zipE {b1 b2 : Bool} {z TI TO i1 i2 l1 l2 : Addr} {k1 k2 : Nat} {xs ys : Array Value} {a b : Value} {Q : Option Value → Shared → Prop} (hh : A.handled = none) (D : ZipApart z TI TO i1 i2 l1 l2)
    (hz : IsZip s.heap z TI TO .none) (hTI : IsPair s.heap TI (.ref i1) (.ref i2)) (hTO : IsPair s.heap TO a b)
    (h1 : IsIt b1 s.heap i1 l1 k1) (h2 : IsIt b2 s.heap i2 l2 k2) (hl1 : IsS b1 s.heap l1 xs) (hl2 : IsS b2 s.heap l2 ys) (hend : xs[k1]? = none ∨ ys[k2]? = none)
    (hQ : ∀ h', (∀ c o, c ≠ z → c ≠ TO → c ≠ i1 → c ≠ i2 → s.heap.get? c = some o → h'.get? c = some o) → Q none { s with heap := h' }) : wpAny (model prog w) A (pyNext (.ref z)) Q E s := by
  have hT : s.TypeIs (.ref z) "zip" := ⟨_, hz, rfl⟩
  unfold pyNext
  refine wpAny_bind (wpAny_attempt (wpAny_callSpecial?_slot (name := Str.ofString "__next__") hT F.slot_zip_next
    (wpAny_call_entry F.slot_zip_next hT F.entry_zip_next (zip_end hh D hz hTI hTO h1 h2 hl1 hl2 hend fun h' e hk he => ?_) (F.args_zip_next_1 _))))
  obtain ⟨o, ho, hc⟩ := he
  refine wpAny_bind (wpAny_isInstance (T := "StopIteration") (b := true) ⟨o, ho, hc⟩ isSubtype_stop ?_)
  exact wpAny_pure (hQ _ hk)
end

noncomputable abbrev zH1 (b1 : Bool) (h : Heap) (l1 : Addr) : Heap := h.push (itO b1 l1)
noncomputable abbrev zH2 (b1 b2 : Bool) (h : Heap) (l1 l2 : Addr) : Heap := (zH1 b1 h l1).push (itO b2 l2)
noncomputable abbrev zH3 (b1 b2 : Bool) (h : Heap) (l1 l2 : Addr) : Heap := (zH2 b1 b2 h l1 l2).push { cls := .type "tuple", data := .seq #[.ref h.objs.size, .ref (zH1 b1 h l1).objs.size] }
noncomputable abbrev zH4 (b1 b2 : Bool) (h : Heap) (l1 l2 : Addr) : Heap := (zH3 b1 b2 h l1 l2).push { cls := .type "tuple", data := .seq #[.none, .none] }
noncomputable abbrev zH5 (b1 b2 : Bool) (h : Heap) (l1 l2 : Addr) : Heap := (zH4 b1 b2 h l1 l2).push { cls := .type "zip", data := .fields #[.none, .bool false, .bool false, .ref (zH2 b1 b2 h l1 l2).objs.size, .ref (zH3 b1 b2 h l1 l2).objs.size] }

theorem meets_zip (b1 b2 : Bool) (l1 l2 : Addr) (xs ys : Array Value) :
    Meets (Builtin.«zip.__new__» ⟨[.type "zip", .ref l1, .ref l2], []⟩) (fun _ R s => IsS b1 s.heap l1 xs ∧ IsS b2 s.heap l2 ys ∧
      R (.ok (.ret (.ref (zH4 b1 b2 s.heap l1 l2).objs.size))) { s with heap := zH5 b1 b2 s.heap l1 l2 }) :=
  .of_wp fun prog w A R s h => by
    obtain ⟨hp, g, d, tk, os⟩ := s; obtain ⟨hl1, hl2, h⟩ := h
    have hsub := sub_zip
    have hL1 : IsS b1 (Shared.heap ⟨hp, g, d, tk, os⟩) l1 xs := hl1
    have hL2 : IsS b2 (Shared.heap ⟨hp.push (itO b1 l1), g, d, tk, os⟩) l2 ys := hl2.at fun o e => Heap.get?_push_of_some _ e
    wp_walk using pyIter_S hL1, pyIter_S hL2
    exact ⟨_, rfl, h⟩

theorem call_zip {prog : Program} {w : World} {A : Around} {E : Value → Shared → Prop} {s : Shared} {b1 b2 : Bool} {l1 l2 : Addr} {xs ys : Array Value} {Q : Value → Shared → Prop} (hl1 : IsS b1 s.heap l1 xs) (hl2 : IsS b2 s.heap l2 ys)
    (h : ∀ h', IsZip h' (s.heap.objs.size + 4) (s.heap.objs.size + 2) (s.heap.objs.size + 3) .none → IsPair h' (s.heap.objs.size + 2) (.ref s.heap.objs.size) (.ref (s.heap.objs.size + 1)) →
      IsPair h' (s.heap.objs.size + 3) .none .none → IsIt b1 h' s.heap.objs.size l1 0 → IsIt b2 h' (s.heap.objs.size + 1) l2 0 →
      (∀ c o, s.heap.get? c = some o → h'.get? c = some o) → Q (.ref (s.heap.objs.size + 4)) { s with heap := h' }) :
    wpAny (model prog w) A (call (.type "zip") [.ref l1, .ref l2]) Q E s := by
  refine callType_new F.called_zip (by decide) (F.typeCall_zip_2 _ _) (F.newCall_zip_2 _ _) (fun obj => F.args_object_init_3 obj _ _) F.entry_zip_new
    (meets_zip b1 b2 l1 l2 xs ys) ⟨hl1, hl2, ?_⟩
  have z1 : (zH1 b1 s.heap l1).objs.size = s.heap.objs.size + 1 := Heap.size_push ..
  have z2 : (zH2 b1 b2 s.heap l1 l2).objs.size = s.heap.objs.size + 2 := by rw [Heap.size_push, z1]
  have z3 : (zH3 b1 b2 s.heap l1 l2).objs.size = s.heap.objs.size + 3 := by rw [Heap.size_push, z2]
  have z4 : (zH4 b1 b2 s.heap l1 l2).objs.size = s.heap.objs.size + 4 := by rw [Heap.size_push, z3]
  have g5 : (zH5 b1 b2 s.heap l1 l2).get? (zH4 b1 b2 s.heap l1 l2).objs.size = some _ := Heap.get?_push_size _ rfl
  have g4 : (zH5 b1 b2 s.heap l1 l2).get? (zH3 b1 b2 s.heap l1 l2).objs.size = some _ := Heap.get?_push_of_some _ (Heap.get?_push_size _ rfl)
  have g3 : (zH5 b1 b2 s.heap l1 l2).get? (zH2 b1 b2 s.heap l1 l2).objs.size = some _ := Heap.get?_push_of_some _ (Heap.get?_push_of_some _ (Heap.get?_push_size _ rfl))
  have g2 : (zH5 b1 b2 s.heap l1 l2).get? (zH1 b1 s.heap l1).objs.size = some (itO b2 l2) := Heap.get?_push_of_some _ (Heap.get?_push_of_some _ (Heap.get?_push_of_some _ (Heap.get?_push_size _ rfl)))
  have g1 : (zH5 b1 b2 s.heap l1 l2).get? s.heap.objs.size = some (itO b1 l1) := Heap.get?_push_of_some _ (Heap.get?_push_of_some _ (Heap.get?_push_of_some _ (Heap.get?_push_of_some _ (Heap.get?_push_size _ rfl))))
  show _ ∧ _
  rw [z2, z3, z4] at g5
  rw [z1, z2] at g3
  rw [z3] at g4
  rw [z1] at g2
  rw [z4]
  exact ⟨⟨_, g5, rfl⟩, h _ g5 g3 g4 (IsIt.new b1 g1) (IsIt.new b2 g2) fun c o x =>
    Heap.get?_push_of_some _ (Heap.get?_push_of_some _ (Heap.get?_push_of_some _ (Heap.get?_push_of_some _ (Heap.get?_push_of_some _ x))))⟩
end Mine
end

section
set_option autoImplicit false
set_option linter.unusedVariables false
namespace Mine
open PySem

structure Turn (prog : Program) (w : World) (A : Around) (target : Expr) (I : Addr) (fp wr : List Addr) (n : Nat) (V : Nat → Value → Heap → Heap → Prop) (St : Nat → Heap → Prop) : Prop where
  frame : ∀ i h h', St i h → (∀ b ∈ fp, ∀ o, h.get? b = some o → h'.get? b = some o) → St i h'
  item : ∀ i (s : Shared) (Q : Value → Shared → Prop) (E : Value → Shared → Prop), i < n → St i s.heap →
    (∀ v h' tk, V i v s.heap h' → St (i + 1) h' → (∀ b o, b ∉ wr → s.heap.get? b = some o → h'.get? b = some o) → Q v { s with heap := h', toks := tk }) →
    wpAny (model prog w) A (pyNext (.ref I)) (fun r s1 => match r with
      | none => False
      | some v => wpAny (model prog w) A (letOwnedTupleGo target (.ref I) v) (fun _ s2 => Q v s2) E s1) E s
  done : ∀ (s : Shared) (Q : Shared → Prop) (E : Value → Shared → Prop), St n s.heap →
    (∀ h' tk, (∀ b o, b ∉ wr → s.heap.get? b = some o → h'.get? b = some o) → Q { s with heap := h', toks := tk }) →
    wpAny (model prog w) A (pyNext (.ref I)) (fun r s1 => match r with
      | none => Q s1
      | some _ => False) E s
  self : ∀ i (s : Shared) (Q : Value → Shared → Prop) (E : Value → Shared → Prop), St i s.heap → Q (.ref I) s → wpAny (model prog w) A (pyIter (.ref I)) Q E s
  alive : ∀ i h, St i h → ∀ b ∈ fp, ∃ o, h.get? b = some o

section
variable {prog : Program} {w : World} {A : Around}

theorem letGo_S {E : Value → Shared → Prop} {k : Bool} {target : Expr} {I l : Addr} {i : Nat} {v : Value} {Q : Unit → Shared → Prop} {s : Shared} (hit : IsIt k s.heap I l i) (h : Q () s) :
    wpAny (model prog w) A (letOwnedTupleGo target (.ref I) v) Q E s := by
  cases k with
  | true => exact PyProof.Rows.letGo_tupleiter hit h
  | false => exact PyProof.Rows.letGo_listiter hit h
theorem letGo_int {E : Value → Shared → Prop} {target : Expr} {it : Value} {i : Int} {t : Tok} {Q : Unit → Shared → Prop} {s : Shared} (h : Q () s) :
    wpAny (model prog w) A (letOwnedTupleGo target it (.int i t)) Q E s := by
  have : letOwnedTupleGo target it (.int i t) = pure () := by
    cases target <;> first | rfl | (cases it <;> rfl)
  rw [this]; exact wpAny_pure h
theorem pyIter_It {E : Value → Shared → Prop} {k : Bool} {I l : Addr} {i : Nat} {Q : Value → Shared → Prop} {s : Shared} (hit : IsIt k s.heap I l i) (h : Q (.ref I) s) : wpAny (model prog w) A (pyIter (.ref I)) Q E s := by
  cases k with
  | true => exact wpAny_pyIter_tupleiter hit h
  | false => exact wpAny_pyIter_listiter hit h

theorem Turn.seq (hh : A.handled = none) (k : Bool) (target : Expr) (I l : Addr) (hne : l ≠ I) (items : Array Value) :
    Turn prog w A target I [I, l] [I] items.size (fun i v _ _ => items[i]? = some v) (fun i h => IsIt k h I l i ∧ IsS k h l items) where
  frame := fun _ _ _ st hk => ⟨st.1.at fun o e => hk I (by simp) o e, st.2.at fun o e => hk l (by simp) o e⟩
  item := fun i s Q E hi st hQ => by
    refine pyNext_S st.1 st.2 (x := items[i]) (by simp [hi]) fun h' hit' hs' => ?_
    refine letGo_S (k := k) hit' ?_
    exact hQ _ h' s.toks (by simp [hi]) ⟨hit', st.2.at fun o e => hs'.extBut _ _ hne e⟩ fun b o hb e => hs'.extBut b o (fun h => hb (by simp [h])) e
  done := fun s Q E st hQ => pyNext_SE hh st.1 st.2 (by simp) fun h' he' => hQ h' s.toks fun b o hb e => he' b o (fun h => hb (by simp [h])) e
  self := fun _ _ _ _ st hQ => pyIter_It st.1 hQ
  alive := fun i h st b hb => by
    simp at hb
    rcases hb with rfl | rfl
    · exact st.1.alive
    · exact st.2.alive

theorem Turn.range (hh : A.handled = none) (target : Expr) (I : Addr) (a : Int) (n : Nat) :
    Turn prog w A target I [I] [I] n (fun i v _ _ => i < n ∧ ∃ t, v = .int (a + i) t) (fun i h => IsRangeIter h I (a + (i : Nat)) ((n : Int) - (i : Nat)) 1) where
  frame := fun _ _ _ st hk => hk I (by simp) _ st
  item := fun i s Q E hi st hQ => by
    refine wpAny_pyNext_range_item st (by omega) fun h' hit' hs' => ?_
    refine letGo_int ?_
    refine hQ _ h' _ ⟨hi, _, rfl⟩ ?_ fun b o hb e => hs'.extBut b o (fun h => hb (by simp [h])) e
    have e1 : a + ((i + 1 : Nat) : Int) = a + (i : Int) + 1 := by omega
    have e2 : (n : Int) - ((i + 1 : Nat) : Int) = (n : Int) - (i : Int) - 1 := by omega
    rw [e1, e2]; exact hit'
  done := fun s Q E st hQ => wpAny_pyNext_range_end hh st (by omega) fun h' he' => hQ h' s.toks fun b o hb e => he' b o (fun h => hb (by simp [h])) e
  self := fun _ _ _ _ st hQ => wpAny_pyIter_rangeiter st hQ
  alive := fun i h st b hb => by simp at hb; subst hb; exact ⟨_, st⟩

theorem Turn.zip (hh : A.handled = none) (b1 b2 : Bool) (elts : List Expr) (kk : Nat) (pos : Pos) (z TI TO i1 i2 l1 l2 : Addr) (D : ZipApart z TI TO i1 i2 l1 l2) (xs ys : Array Value) :
    Turn prog w A (.Tuple elts kk pos) z [z, TI, TO, i1, i2, l1, l2] [z, TO, i1, i2] (min xs.size ys.size)
      (fun i v h h' => ∃ T x y, v = .ref T ∧ h.get? T = none ∧ xs[i]? = some x ∧ ys[i]? = some y ∧ h'.get? T = some (tupO [x, y] 0))
      (fun i h => IsZip h z TI TO .none ∧ IsPair h TI (.ref i1) (.ref i2) ∧ (∃ a b, IsPair h TO a b) ∧ IsIt b1 h i1 l1 i ∧ IsIt b2 h i2 l2 i ∧ IsS b1 h l1 xs ∧ IsS b2 h l2 ys) where
  frame := fun i h h' hst hk => by
    obtain ⟨hz, hTI, ⟨a, b, hTO⟩, h1, h2, hl1, hl2⟩ := hst
    exact ⟨hk z (by simp) _ hz, hk TI (by simp) _ hTI, ⟨a, b, hk TO (by simp) _ hTO⟩, h1.at fun o e => hk i1 (by simp) o e, h2.at fun o e => hk i2 (by simp) o e,
      hl1.at fun o e => hk l1 (by simp) o e, hl2.at fun o e => hk l2 (by simp) o e⟩
  item := fun i s Q E hi hst hQ => by
    obtain ⟨hz, hTI, ⟨a, b, hTO⟩, h1, h2, hl1, hl2⟩ := hst
    have hix : i < xs.size := Nat.lt_of_lt_of_le hi (Nat.min_le_left ..)
    have hiy : i < ys.size := Nat.lt_of_lt_of_le hi (Nat.min_le_right ..)
    refine pyNext_zip D hz hTI hTO h1 h2 hl1 hl2 (Array.getElem?_eq_getElem hix) (Array.getElem?_eq_getElem hiy) fun h' a1 a2 a3 a4 a5 a6 hk => ?_
    have lt : ∀ {c o}, s.heap.get? c = some o → s.heap.objs.size ≠ c := fun e => Nat.ne_of_gt (Heap.lt_size e)
    refine wpAny_letOwnedTupleGo_zip a1 fun h2' hz' hs' => ?_
    refine hQ _ h2' s.toks ⟨s.heap.objs.size, _, _, rfl, get_size _, Array.getElem?_eq_getElem hix, Array.getElem?_eq_getElem hiy, hs'.extBut _ _ (lt hz) a5⟩
      ⟨hz', hs'.extBut _ _ D.TIz (hk _ _ D.TIz D.TITO D.TIi1 D.TIi2 hTI), ⟨_, _, hs'.extBut _ _ D.TOz a2⟩, a3.at fun o e => hs'.extBut _ _ D.i1z e, a4.at fun o e => hs'.extBut _ _ D.i2z e,
        hl1.at fun o e => hs'.extBut _ _ D.l1z (hk _ o D.l1z D.l1TO D.l1i1 D.l1i2 e), hl2.at fun o e => hs'.extBut _ _ D.l2z (hk _ o D.l2z D.l2TO D.l2i1 D.l2i2 e)⟩
      fun c o hc e => hs'.extBut _ _ (fun x => hc (by simp [x])) (hk c o (fun x => hc (by simp [x])) (fun x => hc (by simp [x])) (fun x => hc (by simp [x])) (fun x => hc (by simp [x])) e)
  done := fun s Q E hst hQ => by
    obtain ⟨hz, hTI, ⟨a, b, hTO⟩, h1, h2, hl1, hl2⟩ := hst
    refine pyNext_zipE hh D hz hTI hTO h1 h2 hl1 hl2 ?_ fun h' hk => hQ h' s.toks fun c o hc e => hk c o (fun x => hc (by simp [x])) (fun x => hc (by simp [x])) (fun x => hc (by simp [x])) (fun x => hc (by simp [x])) e
    by_cases q : xs.size ≤ ys.size
    · left; rw [Nat.min_eq_left q]; simp
    · right; rw [Nat.min_eq_right (by omega)]; simp
  self := fun _ _ _ _ st hQ => wpAny_pyIter_zip st.1 hQ
  alive := fun i h hst c hc => by
    obtain ⟨hz, hTI, ⟨a, b, hTO⟩, h1, h2, hl1, hl2⟩ := hst
    simp at hc
    rcases hc with rfl | rfl | rfl | rfl | rfl | rfl | rfl
    · exact ⟨_, hz⟩
    · exact ⟨_, hTI⟩
    · exact ⟨_, hTO⟩
    · exact h1.alive
    · exact h2.alive
    · exact hl1.alive
    · exact hl2.alive

theorem Turn.enum (hh : A.handled = none) (elts : List Expr) (kk : Nat) (pos : Pos) (e it l : Addr) (hei : e ≠ it) (hle : l ≠ e) (hli : l ≠ it) (items : Array Value) :
    Turn prog w A (.Tuple elts kk pos) e [e, it, l] [e, it] items.size
      (fun i v h h' => ∃ T x tk, v = .ref T ∧ h.get? T = none ∧ items[i]? = some x ∧ h'.get? T = some (tupO [.int (i : Nat) tk, x] 0))
      (fun i h => (∃ old, IsEnum h e it ((i : Nat) : Int) old) ∧ h.IsListIter it l i ∧ h.IsList l items) where
  frame := fun i h h' hst hk => by
    obtain ⟨⟨old, he⟩, ⟨oi, hi, hi'⟩, ⟨ol, hl, hl'⟩⟩ := hst
    exact ⟨⟨old, hk e (by simp) _ he⟩, ⟨oi, hk it (by simp) _ hi, hi'⟩, ⟨ol, hk l (by simp) _ hl, hl'⟩⟩
  item := fun i s Q E hi hst hQ => by
    obtain ⟨⟨old, he⟩, hit, hl⟩ := hst
    have lt : ∀ {c o}, s.heap.get? c = some o → s.heap.objs.size ≠ c := fun e => Nat.ne_of_gt (Heap.lt_size e)
    obtain ⟨ol, hl1, hl2⟩ := hl
    refine wpAny_pyNext_enum_item he hit ⟨ol, hl1, hl2⟩ (Array.getElem?_eq_getElem hi) hei fun h' heo hit' ht' _ hk => ?_
    refine wpAny_letOwnedTupleGo_enum heo fun h2 he2 hs2 => ?_
    obtain ⟨oi, hi1, hi2⟩ := hit'
    refine hQ _ h2 (s.toks + 1) ⟨s.heap.objs.size, _, s.toks, rfl, get_size _, Array.getElem?_eq_getElem hi, hs2.extBut _ _ (lt he) ht'⟩ ⟨⟨_, by exact he2⟩, ⟨oi, hs2.extBut _ _ (Ne.symm hei) hi1, hi2⟩, ⟨ol, hs2.extBut _ _ hle (hk l _ hle hli hl1), hl2⟩⟩
      fun c o hc q => hs2.extBut _ _ (fun x => hc (by simp [x])) (hk c o (fun x => hc (by simp [x])) (fun x => hc (by simp [x])) q)
  done := fun s Q E hst hQ => by
    obtain ⟨⟨old, he⟩, hit, hl⟩ := hst
    exact wpAny_pyNext_enum_end hh he hit hl (by simp) fun h' hk => hQ h' s.toks fun c o hc q => hk c o (fun x => hc (by simp [x])) q
  self := fun _ _ _ _ st hQ => by
    obtain ⟨⟨old, he⟩, _⟩ := st
    exact wpAny_pyIter_enum he hQ
  alive := fun i h hst c hc => by
    obtain ⟨⟨old, he⟩, ⟨oi, hi, _⟩, ⟨ol, hl, _⟩⟩ := hst
    simp at hc
    rcases hc with rfl | rfl | rfl
    · exact ⟨_, he⟩
    · exact ⟨_, hi⟩
    · exact ⟨_, hl⟩
end

/-- an iterator is ready: what it will yield, and what it leans on -/
structure IterOK (prog : Program) (w : World) (A : Around) (target : Expr) (own : Addr → Prop) (it : Value) (items : List D) (p : Nat → Bool) (s0 : Shared) (s : Shared) (W : Wd) : Prop where
  ex : ∃ I fp wr V St, it = .ref I ∧ Turn prog w A target I fp wr items.length V St ∧ St 0 s.heap ∧
    (∀ i v h h', V i v h h' → ∃ d, items[i]? = some d ∧ (Rep W.R W.ρ d v ∨ ∃ T vs ds, d = .tup ds ∧ v = .ref T ∧ h.get? T = none ∧ h'.get? T = some (tupO vs 0) ∧ RepAll W.R W.ρ ds vs)) ∧
    (∀ b ∈ wr, s0.heap.get? b = none ∧ W.R b = none ∧ ∀ n, W.ρ n ≠ some b) ∧
    (∀ b ∈ wr, b ∈ fp) ∧
    (∀ b ∈ fp, (∃ o, s.heap.get? b = some o) ∧ ¬ own b ∧ ∀ n, W.ρ n = some b → p n = true)
  pd : ∀ n, p n = true → ∃ a, W.ρ n = some a

end Mine
end

section
set_option autoImplicit false
set_option linter.unusedVariables false
namespace Mine
open PySem

/-- a frame's own addresses: alive at s0, of no data, of no cell -/
noncomputable def OwnOK (own : Addr → Prop) (s0 : Shared) (W : Wd) : Prop := ∀ b, own b → (∃ o, s0.heap.get? b = some o) ∧ W.R b = none ∧ ∀ n, W.ρ n ≠ some b

section
variable {prog : Program} {w : World} {A : Around} {h₀ : Heap} {own : Addr → Prop} {s0 s : Shared} {W0 W : Wd}

structure Fresh (own : Addr → Prop) (s0 : Shared) (W : Wd) (b : Addr) : Prop where
  dead0 : s0.heap.get? b = none
  R : W.R b = none
  ρ : ∀ n, W.ρ n ≠ some b
  own : ¬ own b

theorem fresh_of (S : Sim h₀ W s) (x : Step noOwn s0 W0 s W) (O : OwnOK own s0 W) {b : Addr} (hb : s.heap.get? b = none) : Fresh own s0 W b where
  dead0 := by
    cases q : s0.heap.get? b with
    | none => rfl
    | some o => obtain ⟨o', e⟩ := x.live b o q; rw [hb] at e; cases e
  R := by
    cases q : W.R b with
    | none => rfl
    | some o => have := S.frz b o q; rw [hb] at this; cases this
  ρ := fun n q => by obtain ⟨_, o, e⟩ := S.dis n b q; rw [hb] at e; cases e
  own := fun q => by
    obtain ⟨⟨o, e⟩, _⟩ := O b q
    obtain ⟨o', e'⟩ := x.live b o e; rw [hb] at e'; cases e'
theorem dead_ge {b : Addr} (hb : s.heap.objs.size ≤ b) : s.heap.get? b = none := by
  cases q : s.heap.get? b with
  | none => rfl
  | some o => exact absurd (Heap.lt_size q) (Nat.not_lt.mpr hb)

theorem lst_fp (S : Sim h₀ W s) (O : OwnOK own s0 W) {d : D} {xs : List D} {v : Value} (rd : Rep W.R W.ρ d v) (hx' : lstD W.st d = some xs) :
    ∃ l vs, v = .ref l ∧ IsS false s.heap l vs.toArray ∧ RepAll W.R W.ρ xs vs ∧ ¬ own l ∧ ∀ n, W.ρ n = some l → pinOf d n = true := by
  obtain ⟨l, vs, n, e, hg, hr⟩ := S.lst rd hx'
  refine ⟨l, vs, e, ⟨_, hg, rfl, n, rfl⟩, hr, fun q => ?_, fun k q => ?_⟩
  · cases d with
    | list ds => obtain ⟨l', _, _, e', hR, _⟩ := rd; rw [e] at e'; cases e'; rw [(O l q).2.1] at hR; cases hR
    | loc j => obtain ⟨l', hl, e'⟩ := rd; rw [e] at e'; cases e'; exact (O l q).2.2 j hl
    | _ => simp [lstD] at hx'
  · cases d with
    | list ds => obtain ⟨l', _, _, e', hR, _⟩ := rd; rw [e] at e'; cases e'; rw [(S.dis k l q).1] at hR; cases hR
    | loc j =>
      obtain ⟨l', hl, e'⟩ := rd
      rw [e] at e'; cases e'
      have := S.inj k j l q hl
      subst this
      simp [pinOf]
    | _ => simp [lstD] at hx'
/-- what a sequence's own object must satisfy -/
theorem seq_fp (S : Sim h₀ W s) (O : OwnOK own s0 W) {d : D} {xs : List D} {v : Value} (rd : Rep W.R W.ρ d v) (hx : seqD W.st d = some xs) :
    ∃ l vs b, v = .ref l ∧ IsS b s.heap l vs.toArray ∧ RepAll W.R W.ρ xs vs ∧ ¬ own l ∧ ∀ n, W.ρ n = some l → pinOf d n = true := by
  rcases seqD_cases hx with rfl | hx'
  · obtain ⟨l, vs, n, e, hR, hr⟩ := id rd
    have hg := S.frz _ _ hR
    refine ⟨l, vs, true, e, ⟨_, hg, rfl, n, rfl⟩, hr, fun q => ?_, fun k q => ?_⟩
    · rw [(O l q).2.1] at hR; cases hR
    · rw [(S.dis k l q).1] at hR; cases hR
  · obtain ⟨l, vs, h⟩ := lst_fp S O rd hx'
    exact ⟨l, vs, false, h⟩

theorem pin_dom {d : D} {v : Value} (rd : Rep W.R W.ρ d v) (n : Nat) (h : pinOf d n = true) : ∃ a, W.ρ n = some a := by
  cases d with
  | loc j => obtain ⟨a, ha, _⟩ := rd; simp only [pinOf, beq_iff_eq] at h; subst h; exact ⟨a, ha⟩
  | _ => simp [pinOf] at h

theorem iter_seq {k : Nat} {target : Expr} {d : D} {xs : List D} {v : Value} (a1 : AOk k A) (S : Sim h₀ W s) (x : Step noOwn s0 W0 s W) (O : OwnOK own s0 W) (rd : Rep W.R W.ρ d v) (hx : seqD W.st d = some xs) :
    OK prog w A h₀ noOwn (pyIter v) W s (fun it W' s' => W' = W ∧ IterOK prog w A target own it xs (pinOf d) s0 s' W) := by
  obtain ⟨l, vs, b, rfl, hS, hr, hno, hpin⟩ := seq_fp S O rd hx
  refine pyIter_S hS ?_
  obtain ⟨st, sm⟩ := S.grow (own := noOwn) (tk := s.toks) (h' := s.heap.push (itO b l)) (fun c o e => Heap.get?_push_of_some _ e)
  refine ⟨W, st, sm, rfl, ⟨s.heap.objs.size, [s.heap.objs.size, l], [s.heap.objs.size], fun i v _ _ => vs.toArray[i]? = some v, fun i h => IsIt b h s.heap.objs.size l i ∧ IsS b h l vs.toArray, rfl, ?_, ⟨IsIt.new b (Heap.get?_push_size _ rfl), hS.at fun o e => Heap.get?_push_of_some _ e⟩, ?_, ?_, ?_, ?_⟩, pin_dom rd⟩
  · have hne : l ≠ s.heap.objs.size := by obtain ⟨o, e⟩ := hS.alive; exact Nat.ne_of_lt (Heap.lt_size e)
    have := Turn.seq (prog := prog) (w := w) a1.hn b target s.heap.objs.size l hne vs.toArray
    have e : vs.toArray.size = xs.length := by rw [List.size_toArray, hr.length]
    rw [e] at this
    exact this
  · intro i u h h' hv
    obtain ⟨d', h1, h2⟩ := hr.get' i u (by simpa using hv)
    exact ⟨d', h1, .inl h2⟩
  · intro c hc
    simp at hc; subst hc
    have f := fresh_of (own := own) S x O (get_size s.heap)
    exact ⟨f.dead0, f.R, f.ρ⟩
  · intro c hc; simp at hc; simp [hc]
  · intro c hc
    simp at hc
    rcases hc with rfl | rfl
    · have f := fresh_of (own := own) S x O (get_size s.heap)
      exact ⟨⟨_, Heap.get?_push_size _ rfl⟩, f.own, fun n q => absurd q (f.ρ n)⟩
    · obtain ⟨o, e⟩ := hS.alive
      exact ⟨⟨o, Heap.get?_push_of_some _ e⟩, hno, hpin⟩

theorem zip_apart (I l1 l2 : Nat) (h1 : l1 < I) (h2 : l2 < I) : ZipApart (I + 4) (I + 2) (I + 3) I (I + 1) l1 l2 := by
  have p : ∀ {i j : Nat}, ¬ i = j → I + i ≠ I + j := fun h e => h (Nat.add_left_cancel e)
  have q : ∀ {l : Nat} (j : Nat), l < I → l ≠ I + j := fun j h => Nat.ne_of_lt (Nat.lt_of_lt_of_le h (Nat.le_add_right _ _))
  exact ⟨p (by decide), p (by decide), p (i := 0) (by decide), p (by decide), p (by decide), p (j := 0) (by decide), p (by decide), p (j := 0) (by decide), p (by decide), p (i := 0) (by decide),
    q 4 h1, q 3 h1, q 0 h1, q 1 h1, q 4 h2, q 3 h2, q 0 h2, q 1 h2⟩
theorem zip_reps {xs ys : List D} {us vs : List Value} (hr1 : RepAll W.R W.ρ xs us) (hr2 : RepAll W.R W.ρ ys vs) {i : Nat} {a b : Value} (h1 : us[i]? = some a) (h2 : vs[i]? = some b) :
    ∃ d, (zipL xs ys)[i]? = some d ∧ ∃ ds, d = .tup ds ∧ RepAll W.R W.ρ ds [a, b] := by
  obtain ⟨d1, e1, r1⟩ := hr1.get' i a h1
  obtain ⟨d2, e2, r2⟩ := hr2.get' i b h2
  refine ⟨.tup [d1, d2], ?_, [d1, d2], rfl, a, [b], rfl, r1, b, [], rfl, r2, rfl⟩
  have : (xs.zip ys)[i]? = some (d1, d2) := List.getElem?_zip_eq_some.mpr ⟨e1, e2⟩
  simp only [zipL, List.getElem?_map, this, Option.map_some]

theorem iter_zip {k : Nat} {target : Expr} {d1 d2 : D} {xs ys : List D} {v1 v2 : Value} (a1 : AOk k A) (S : Sim h₀ W s) (x : Step noOwn s0 W0 s W) (O : OwnOK own s0 W) (ht : isTupE target = true)
    (r1 : Rep W.R W.ρ d1 v1) (hx : seqD W.st d1 = some xs) (r2 : Rep W.R W.ρ d2 v2) (hy : seqD W.st d2 = some ys) :
    OK prog w A h₀ noOwn (call (.type "zip") [v1, v2]) W s (fun z W' s' => W' = W ∧ OK prog w A h₀ noOwn (pyIter z) W s' (fun it W'' s'' => W'' = W ∧ IterOK prog w A target own it (zipL xs ys) (fun n => pinOf d1 n || pinOf d2 n) s0 s'' W)) := by
  obtain ⟨elts, kk, pos, rfl⟩ : ∃ elts kk pos, target = .Tuple elts kk pos := by
    cases target with
    | Tuple a b c => exact ⟨a, b, c, rfl⟩
    | _ => cases ht
  obtain ⟨l1, us, b1, rfl, hS1, hr1, hno1, hpin1⟩ := seq_fp S O r1 hx
  obtain ⟨l2, vs, b2, rfl, hS2, hr2, hno2, hpin2⟩ := seq_fp S O r2 hy
  refine call_zip hS1 hS2 fun h' hz hTI hTO hi1 hi2 hk => ?_
  obtain ⟨st, sm⟩ := S.grow (own := noOwn) (tk := s.toks) hk
  refine ⟨W, st, sm, rfl, ?_⟩
  refine wpAny_pyIter_zip hz ⟨W, Step.refl _ _, sm, rfl, ?_⟩
  have lt1 : l1 < s.heap.objs.size := by obtain ⟨o, e⟩ := hS1.alive; exact Heap.lt_size e
  have lt2 : l2 < s.heap.objs.size := by obtain ⟨o, e⟩ := hS2.alive; exact Heap.lt_size e
  have fr : ∀ j, Fresh own s0 W (s.heap.objs.size + j) := fun j => fresh_of S x O (dead_ge (Nat.le_add_right _ _))
  have fr0 : Fresh own s0 W s.heap.objs.size := fr 0
  have D : ZipApart (s.heap.objs.size + 4) (s.heap.objs.size + 2) (s.heap.objs.size + 3) s.heap.objs.size (s.heap.objs.size + 1) l1 l2 := zip_apart _ _ _ lt1 lt2
  have hl : min us.toArray.size vs.toArray.size = (zipL xs ys).length := by simp [zipL, hr1.length, hr2.length]
  have TZ := Turn.zip (prog := prog) (w := w) a1.hn b1 b2 elts kk pos _ _ _ _ _ l1 l2 D us.toArray vs.toArray
  rw [hl] at TZ
  refine ⟨⟨_, _, _, _, _, rfl, TZ, ⟨hz, hTI, ⟨_, _, hTO⟩, hi1, hi2, hS1.at fun o e => hk _ o e, hS2.at fun o e => hk _ o e⟩, ?_, ?_, ?_, ?_⟩, fun n q => by
    rcases Bool.or_eq_true_iff.mp q with q | q
    · exact pin_dom r1 n q
    · exact pin_dom r2 n q⟩
  · rintro i u h h2 ⟨T, a, b, rfl, hd, ha, hb, hg⟩
    obtain ⟨d, e, ds, rfl, hr⟩ := zip_reps hr1 hr2 (i := i) (by simpa using ha) (by simpa using hb)
    exact ⟨_, e, .inr ⟨T, [a, b], ds, rfl, rfl, hd, hg, hr⟩⟩
  · intro c hc
    simp at hc
    rcases hc with rfl | rfl | rfl | rfl
    · exact ⟨(fr 4).dead0, (fr 4).R, (fr 4).ρ⟩
    · exact ⟨(fr 3).dead0, (fr 3).R, (fr 3).ρ⟩
    · exact ⟨fr0.dead0, fr0.R, fr0.ρ⟩
    · exact ⟨(fr 1).dead0, (fr 1).R, (fr 1).ρ⟩
  · intro c hc; simp at hc; rcases hc with rfl | rfl | rfl | rfl <;> simp
  · intro c hc
    simp at hc
    rcases hc with rfl | rfl | rfl | rfl | rfl | rfl | rfl
    · exact ⟨⟨_, hz⟩, (fr 4).own, fun n q => absurd q ((fr 4).ρ n)⟩
    · exact ⟨⟨_, hTI⟩, (fr 2).own, fun n q => absurd q ((fr 2).ρ n)⟩
    · exact ⟨⟨_, hTO⟩, (fr 3).own, fun n q => absurd q ((fr 3).ρ n)⟩
    · exact ⟨hi1.alive, fr0.own, fun n q => absurd q (fr0.ρ n)⟩
    · exact ⟨hi2.alive, (fr 1).own, fun n q => absurd q ((fr 1).ρ n)⟩
    · obtain ⟨o, e⟩ := hS1.alive
      exact ⟨⟨o, hk _ _ e⟩, hno1, fun n q => by rw [hpin1 n q]; rfl⟩
    · obtain ⟨o, e⟩ := hS2.alive
      exact ⟨⟨o, hk _ _ e⟩, hno2, fun n q => by rw [hpin2 n q]; simp⟩

theorem enum_reps {xs : List D} {us : List Value} (hr1 : RepAll W.R W.ρ xs us) {i : Nat} {tk : Tok} {b : Value} (h1 : us[i]? = some b) :
    ∃ d, (enumL xs)[i]? = some d ∧ ∃ ds, d = .tup ds ∧ RepAll W.R W.ρ ds [.int (i : Nat) tk, b] := by
  obtain ⟨d1, e1, r1⟩ := hr1.get' i b h1
  refine ⟨.tup [.int (i : Nat), d1], ?_, [.int (i : Nat), d1], rfl, _, [b], rfl, ⟨tk, rfl⟩, b, [], rfl, r1, rfl⟩
  simp only [enumL, List.getElem?_map, List.getElem?_zipIdx, e1, Option.map_some, Nat.zero_add]

theorem iter_enum {k : Nat} {target : Expr} {d1 : D} {xs : List D} {v1 : Value} (a1 : AOk k A) (S : Sim h₀ W s) (x : Step noOwn s0 W0 s W) (O : OwnOK own s0 W) (ht : isTupE target = true)
    (r1 : Rep W.R W.ρ d1 v1) (hx : lstD W.st d1 = some xs) :
    OK prog w A h₀ noOwn (call (.type "enumerate") [v1]) W s (fun z W' s' => W' = W ∧ OK prog w A h₀ noOwn (pyIter z) W s' (fun it W'' s'' => W'' = W ∧ IterOK prog w A target own it (enumL xs) (pinOf d1) s0 s'' W)) := by
  obtain ⟨elts, kk, pos, rfl⟩ : ∃ elts kk pos, target = .Tuple elts kk pos := by
    cases target with
    | Tuple a b c => exact ⟨a, b, c, rfl⟩
    | _ => cases ht
  obtain ⟨l1, us, rfl, hS1, hr1, hno1, hpin1⟩ := lst_fp S O r1 hx
  obtain ⟨ol, hol, hol'⟩ := id hS1
  refine call_enumerate_list hS1 fun h' he hit hsz hk => ?_
  obtain ⟨st, sm⟩ := S.grow (own := noOwn) (tk := s.toks) hk
  refine ⟨W, st, sm, rfl, ?_⟩
  refine wpAny_pyIter_enum he ⟨W, Step.refl _ _, sm, rfl, ?_⟩
  have lt1 : l1 < s.heap.objs.size := Heap.lt_size hol
  have fr : ∀ j, Fresh own s0 W (s.heap.objs.size + j) := fun j => fresh_of S x O (dead_ge (Nat.le_add_right _ _))
  have fr0 : Fresh own s0 W s.heap.objs.size := fr 0
  have hl : us.toArray.size = (enumL xs).length := by simp [enumL, hr1.length]
  have TE := Turn.enum (prog := prog) (w := w) a1.hn elts kk pos (s.heap.objs.size + 1) s.heap.objs.size l1 (Nat.succ_ne_self _) (Nat.ne_of_lt (Nat.lt_succ_of_lt lt1)) (Nat.ne_of_lt lt1) us.toArray
  rw [hl] at TE
  refine ⟨⟨_, _, _, _, _, rfl, TE, ⟨⟨_, he⟩, hit, ⟨ol, hk _ _ hol, hol'⟩⟩, ?_, ?_, ?_, ?_⟩, pin_dom r1⟩
  · rintro i u h h2 ⟨T, a, tk, rfl, hd, ha, hg⟩
    obtain ⟨d, e, ds, rfl, hr⟩ := enum_reps (tk := tk) hr1 (i := i) (by simpa using ha)
    exact ⟨_, e, .inr ⟨T, _, ds, rfl, rfl, hd, hg, hr⟩⟩
  · intro c hc
    simp at hc
    rcases hc with rfl | rfl
    · exact ⟨(fr 1).dead0, (fr 1).R, (fr 1).ρ⟩
    · exact ⟨fr0.dead0, fr0.R, fr0.ρ⟩
  · intro c hc; simp at hc; rcases hc with rfl | rfl <;> simp
  · intro c hc
    simp at hc
    rcases hc with rfl | rfl | rfl
    · exact ⟨⟨_, he⟩, (fr 1).own, fun n q => absurd q ((fr 1).ρ n)⟩
    · obtain ⟨oi, hi, _⟩ := hit
      exact ⟨⟨_, hi⟩, fr0.own, fun n q => absurd q (fr0.ρ n)⟩
    · exact ⟨⟨_, hk _ _ hol⟩, hno1, hpin1⟩

theorem range_len (a b : Int) : (rangeL a b).length = (b - a).toNat := by simp [rangeL]
theorem range_get {a b : Int} {i : Nat} (h : i < (b - a).toNat) : (rangeL a b)[i]? = some (.int (a + i)) := by
  simp [rangeL, h]

theorem iter_range {k : Nat} {target : Expr} {a b : Int} {r : Addr} {t u v : Tok} (a1 : AOk k A) (S : Sim h₀ W s) (x : Step noOwn s0 W0 s W) (O : OwnOK own s0 W) (ha : a ≤ lim) (ha' : -lim ≤ a) (hb : b ≤ lim) (hb' : -lim ≤ b)
    (hr : IsRange s.heap r a b 1 t u v) :
    OK prog w A h₀ noOwn (pyIter (.ref r)) W s (fun it W' s' => W' = W ∧ IterOK prog w A target own it (rangeL a b) (fun _ => false) s0 s' W) := by
  have ha1 : a ≤ 1000000 := ha
  have ha2 : -1000000 ≤ a := ha'
  have hb1 : b ≤ 1000000 := hb
  have hb2 : -1000000 ≤ b := hb'
  have hsz : Builtin.Range.rangeSize a b 1 = ((b - a).toNat : Int) := by
    unfold Builtin.Range.rangeSize
    simp
    omega
  refine wpAny_pyIter_range hr ?_ ?_
  · have f1 : ∀ z : Int, -3000000 ≤ z → z ≤ 3000000 → Builtin.Range.rangeFitsLong z = true := fun z q1 q2 => by
      unfold Builtin.Range.rangeFitsLong
      rw [Bool.and_eq_true]
      exact ⟨decide_eq_true (by omega), decide_eq_true (by omega)⟩
    unfold Builtin.Range.small
    simp only [hsz]
    rw [f1 a (by omega) (by omega), f1 b (by omega) (by omega), f1 1 (by omega) (by omega), f1 _ (by omega) (by omega)]
    simp [f1 (b + (1 - 1)) (by omega) (by omega), f1 b (by omega) (by omega)]
  · obtain ⟨st, sm⟩ := S.grow (own := noOwn) (tk := s.toks) (h' := s.heap.push { cls := .type "range_iterator", data := .fields #[rawInt a, rawInt (Builtin.Range.rangeSize a b 1), rawInt 1] }) (fun c o e => Heap.get?_push_of_some _ e)
    have TR := Turn.range (prog := prog) (w := w) a1.hn target s.heap.objs.size a (b - a).toNat
    rw [← range_len] at TR
    have f := fresh_of (own := own) S x O (get_size s.heap)
    refine ⟨W, st, sm, rfl, ⟨_, _, _, _, _, rfl, TR, ?_, ?_, ?_, ?_, ?_⟩, fun n q => by cases q⟩
    · have := Heap.get?_push_size s.heap (o := { cls := .type "range_iterator", data := .fields #[rawInt a, rawInt (Builtin.Range.rangeSize a b 1), rawInt 1] }) rfl
      rw [range_len]
      show IsRangeIter _ _ _ _ _
      rw [hsz] at this
      rw [hsz]
      simpa using this
    · rintro i z h h' ⟨hi, tt, rfl⟩
      rw [range_len] at hi
      exact ⟨_, range_get hi, .inl ⟨tt, rfl⟩⟩
    · intro c hc; simp at hc; subst hc; exact ⟨f.dead0, f.R, f.ρ⟩
    · intro c hc; exact hc
    · intro c hc; simp at hc; subst hc
      exact ⟨⟨_, Heap.get?_push_size _ rfl⟩, f.own, fun n q => absurd q (f.ρ n)⟩
end
end Mine
end

section
set_option autoImplicit false
set_option linter.unusedVariables false
namespace Mine
open PySem

noncomputable def FlRep (W : Wd) : Fl → Flow → Prop
  | .next, f => f = .next
  | .brk, f => f = .brk
  | .cont, f => f = .cont
  | .ret d, f => ∃ v, f = .ret v ∧ Rep W.R W.ρ d v
noncomputable def FP (own : Addr → Prop) (env : Env) (kd : Kd) (K : Fl → Loc → St → Prop) : Flow → Wd → Shared → Prop :=
  fun f W s => ∃ fl m, FlRep W fl f ∧ Fram own env kd m W s ∧ K fl m W.st

theorem Fram.heap {own : Addr → Prop} {env : Env} {kd : Kd} {m : Loc} {W : Wd} {s : Shared} (F : Fram own env kd m W s) {h' : Heap} {tk : Nat} (hl : ∀ o, s.heap.get? env.locals = some o → h'.get? env.locals = some o)
    (hc : ∀ y c o, env.cells.lookup y = some c → s.heap.get? c = some o → h'.get? c = some o) : Fram own env kd m W { s with heap := h', toks := tk } := by
  refine ⟨F.fn, F.gl, F.bi, F.kE, F.dbg, fun y d e => ?_, ?_, fun y c q => ?_, F.ci, F.lo, F.co, F.kF⟩
  · obtain ⟨h1, v, h2, h3⟩ := F.nm y d e
    exact ⟨h1, v, h2.at hl (fun c o q e => hc y c o q e), h3⟩
  · obtain ⟨mv, o, es, ep, ho, r⟩ := F.ns
    exact ⟨mv, o, es, ep, hl o ho, r⟩
  · obtain ⟨⟨v, o', e', r'⟩, h2⟩ := F.cl y c q
    exact ⟨⟨v, o', hc y c o' q e', r'⟩, h2⟩

structure LInv (h₀ : Heap) (own : Addr → Prop) (s0 : Shared) (W0 : Wd) (s : Shared) (W : Wd) (p : Nat → Bool) (fp wr : List Addr) (St : Nat → Heap → Prop) (i : Nat) (W' : Wd) (s' : Shared) : Prop where
  st : Step own s0 W0 s' W'
  sm : Sim h₀ W' s'
  inv : St i s'.heap
  mR : ∀ a o, W.R a = some o → W'.R a = some o
  mρ : ∀ n a, W.ρ n = some a → W'.ρ n = some a
  wrF : ∀ b ∈ wr, s0.heap.get? b = none ∧ W'.R b = none ∧ ∀ n, W'.ρ n ≠ some b
  fpF : ∀ b ∈ fp, (∃ o, s'.heap.get? b = some o) ∧ ¬ own b ∧ ∀ n, W'.ρ n = some b → p n = true
  sub : ∀ b ∈ wr, b ∈ fp
  hid : ∀ n, p n = true → n < W'.st.hi ∧ W'.st.cs n = none
  kp : ∀ n a o, p n = true → W.ρ n = some a → s.heap.get? a = some o → s'.heap.get? a = some o
  po : ∀ n a, p n = true → W.ρ n = some a → ¬ own a

section
variable {h₀ : Heap} {own : Addr → Prop} {s0 s s' : Shared} {W0 W W' : Wd} {p : Nat → Bool} {fp wr : List Addr} {St : Nat → Heap → Prop} {i : Nat}

theorem LInv.start (S : Sim h₀ W s) (x : Step own s0 W0 s W) (hst : St 0 s.heap) (hwr : ∀ b ∈ wr, s0.heap.get? b = none ∧ W.R b = none ∧ ∀ n, W.ρ n ≠ some b)
    (hsub : ∀ b ∈ wr, b ∈ fp) (hfp : ∀ b ∈ fp, (∃ o, s.heap.get? b = some o) ∧ ¬ own b ∧ ∀ n, W.ρ n = some b → p n = true) (hpd : ∀ n, p n = true → ∃ a, W.ρ n = some a) (hpo : ∀ n a, p n = true → W.ρ n = some a → ¬ own a) :
    LInv h₀ own s0 W0 s W p fp wr St 0 { W with st := W.st.hide p } s where
  st := ⟨x.rest, x.keep, x.live, x.extR, x.rho, x.new, x.hi, fun n hn e => by
    show (if p n then none else W.st.cs n) = none
    split
    · rfl
    · exact x.hid n hn e⟩
  sm := S.hide p
  inv := hst
  mR := fun _ _ e => e
  mρ := fun _ _ e => e
  wrF := hwr
  fpF := hfp
  sub := hsub
  hid := fun n q => ⟨let ⟨a, ha⟩ := hpd n q; S.dom n a ha, by show (if p n then none else W.st.cs n) = none; rw [q]; rfl⟩
  kp := fun _ _ _ _ _ e => e
  po := hpo

/-- the iterator moves -/
theorem LInv.next (L : LInv h₀ own s0 W0 s W p fp wr St i W' s') {h' : Heap} {tk j : Nat} (hst : St j h') (hk : ∀ b o, b ∉ wr → s'.heap.get? b = some o → h'.get? b = some o)
    (hal : ∀ b ∈ fp, ∃ o, h'.get? b = some o) : LInv h₀ own s0 W0 s W p fp wr St j W' { s' with heap := h', toks := tk } := by
  have nw : ∀ b o, s0.heap.get? b = some o → b ∉ wr := fun b o e q => by rw [(L.wrF b q).1] at e; cases e
  have nR : ∀ b o, W'.R b = some o → b ∉ wr := fun b o e q => by rw [(L.wrF b q).2.1] at e; cases e
  have nρ : ∀ n b, W'.ρ n = some b → b ∉ wr := fun n b e q => (L.wrF b q).2.2 n e
  refine ⟨⟨L.st.rest, fun b o e hm ho => hk b o (nw b o e) (L.st.keep b o e hm ho), fun b o e => ?_, L.st.extR, L.st.rho, L.st.new, L.st.hi, L.st.hid⟩, ⟨L.sm.base, fun b o e => hk b o (nR b o e) (L.sm.frz b o e), fun n c e => ?_, fun n a e => ?_, L.sm.inj, L.sm.dom⟩, hst, L.mR, L.mρ, L.wrF, fun b q => ⟨hal b q, (L.fpF b q).2⟩, L.sub, L.hid, fun n a o q e1 e2 => hk a o (nρ n a (L.mρ n a e1)) (L.kp n a o q e1 e2), L.po⟩
  · obtain ⟨o', e'⟩ := L.st.live b o e
    exact ⟨o', hk b o' (nw b o e) e'⟩
  · obtain ⟨a, ha, hc⟩ := L.sm.cel n c e
    refine ⟨a, ha, ?_⟩
    cases c with
    | list ds => obtain ⟨vs, k, hg, hr⟩ := hc; exact ⟨vs, k, hk _ _ (nρ n a ha) hg, hr⟩
    | dict es => exact hc
  · obtain ⟨h1, o, h2⟩ := L.sm.dis n a e
    exact ⟨h1, o, hk a o (nρ n a e) h2⟩

/-- the iterator is done -/
theorem LInv.last (L : LInv h₀ own s0 W0 s W p fp wr St i W' s') {h' : Heap} {tk : Nat} (hk : ∀ b o, b ∉ wr → s'.heap.get? b = some o → h'.get? b = some o) :
    LInv h₀ own s0 W0 s W p [] [] (fun _ _ => True) 0 W' { s' with heap := h', toks := tk } := by
  have nw : ∀ b o, s0.heap.get? b = some o → b ∉ wr := fun b o e q => by rw [(L.wrF b q).1] at e; cases e
  have nR : ∀ b o, W'.R b = some o → b ∉ wr := fun b o e q => by rw [(L.wrF b q).2.1] at e; cases e
  have nρ : ∀ n b, W'.ρ n = some b → b ∉ wr := fun n b e q => (L.wrF b q).2.2 n e
  refine ⟨⟨L.st.rest, fun b o e hm ho => hk b o (nw b o e) (L.st.keep b o e hm ho), fun b o e => ?_, L.st.extR, L.st.rho, L.st.new, L.st.hi, L.st.hid⟩, ⟨L.sm.base, fun b o e => hk b o (nR b o e) (L.sm.frz b o e), fun n c e => ?_, fun n a e => ?_, L.sm.inj, L.sm.dom⟩, trivial, L.mR, L.mρ, (fun b q => nomatch q), (fun b q => nomatch q), (fun b q => nomatch q), L.hid, fun n a o q e1 e2 => hk a o (nρ n a (L.mρ n a e1)) (L.kp n a o q e1 e2), L.po⟩
  · obtain ⟨o', e'⟩ := L.st.live b o e
    exact ⟨o', hk b o' (nw b o e) e'⟩
  · obtain ⟨a, ha, hc⟩ := L.sm.cel n c e
    refine ⟨a, ha, ?_⟩
    cases c with
    | list ds => obtain ⟨vs, k, hg, hr⟩ := hc; exact ⟨vs, k, hk _ _ (nρ n a ha) hg, hr⟩
    | dict es => exact hc
  · obtain ⟨h1, o, h2⟩ := L.sm.dis n a e
    exact ⟨h1, o, hk a o (nρ n a e) h2⟩

/-- a fresh object is frozen -/
theorem LInv.freeze (L : LInv h₀ own s0 W0 s W p fp wr St i W' s') {T : Addr} {o : Obj} (hg : s'.heap.get? T = some o) (h0 : s0.heap.get? T = none) (hR : W'.R T = none) (hρ : ∀ n, W'.ρ n ≠ some T) (hw : T ∉ wr) :
    LInv h₀ own s0 W0 s W p fp wr St i { W' with R := fun b => if b = T then some o else W'.R b } s' := by
  have mono : ∀ b o', W'.R b = some o' → (if b = T then some o else W'.R b) = some o' := fun b o' e => by
    rw [if_neg (fun q => by subst q; rw [hR] at e; cases e)]; exact e
  refine ⟨⟨L.st.rest, L.st.keep, L.st.live, fun b o' e => ?_, L.st.rho, L.st.new, L.st.hi, L.st.hid⟩, ⟨fun b o' e => mono b o' (L.sm.base b o' e), fun b o' e => ?_, fun n c e => ?_, fun n a e => ?_, L.sm.inj, L.sm.dom⟩, L.inv, fun a o' e => mono a o' (L.mR a o' e), L.mρ, fun b q => ⟨(L.wrF b q).1, ?_, (L.wrF b q).2.2⟩, L.fpF, L.sub, L.hid, L.kp, L.po⟩
  · show (if b = T then some o else W'.R b) = W0.R b
    rw [if_neg (fun q => by subst q; rw [h0] at e; cases e)]; exact L.st.extR b o' e
  · have e1 : (if b = T then some o else W'.R b) = some o' := e
    by_cases q : b = T
    · rw [if_pos q] at e1; cases e1; subst q; exact hg
    · rw [if_neg q] at e1; exact L.sm.frz b o' e1
  · obtain ⟨a, ha, hc⟩ := L.sm.cel n c e
    refine ⟨a, ha, ?_⟩
    cases c with
    | list ds => obtain ⟨vs, k, hg', hr⟩ := hc; exact ⟨vs, k, hg', RepAll.mono mono (fun _ _ e => e) ds vs hr⟩
    | dict es => exact hc
  · obtain ⟨h1, h2⟩ := L.sm.dis n a e
    refine ⟨?_, h2⟩
    show (if a = T then some o else W'.R a) = none
    rw [if_neg (fun q => hρ n (by rw [← q]; exact e))]; exact h1
  · show (if b = T then some o else W'.R b) = none
    rw [if_neg (fun r => hw (by rw [← r]; exact q))]; exact (L.wrF b q).2.1

/-- a piece of code runs -/
theorem LInv.go {W2 : Wd} {s2 : Shared} (S0 : Sim h₀ W0 s0) (L : LInv h₀ own s0 W0 s W p fp wr St i W' s') (hf : ∀ j h h', St j h → (∀ b ∈ fp, ∀ o, h.get? b = some o → h'.get? b = some o) → St j h') (x : Step own s' W' s2 W2) (S2 : Sim h₀ W2 s2) :
    LInv h₀ own s0 W0 s W p fp wr St i W2 s2 := by
  have kf : ∀ b ∈ fp, ∀ o, s'.heap.get? b = some o → s2.heap.get? b = some o := fun b q o e => x.keep b o e (fun n hn => (L.hid n ((L.fpF b q).2.2 n hn)).2) (L.fpF b q).2.1
  have newF : ∀ b o, s'.heap.get? b = some o → ∀ n, W2.ρ n = some b → W'.ρ n = some b := fun b o e n q => by
    rcases x.new n b q with h | h
    · exact h
    · rw [h] at e; cases e
  refine ⟨L.st.trans S0 x, S2, hf i _ _ L.inv kf, fun a o e => x.repR L.sm a o (L.mR a o e), fun n a e => x.rho n a (L.mρ n a e), fun b q => ?_, fun b q => ?_, L.sub, fun n q => ⟨Nat.lt_of_lt_of_le (L.hid n q).1 x.hi, x.hid n (L.hid n q).1 (L.hid n q).2⟩, fun n a o q e1 e2 => ?_, L.po⟩
  · obtain ⟨o, e⟩ := (L.fpF b (L.sub b q)).1
    exact ⟨(L.wrF b q).1, by rw [x.extR b o e]; exact (L.wrF b q).2.1, fun n r => (L.wrF b q).2.2 n (newF b o e n r)⟩
  · obtain ⟨o, e⟩ := (L.fpF b q).1
    exact ⟨⟨o, kf b q o e⟩, (L.fpF b q).2.1, fun n r => (L.fpF b q).2.2 n (newF b o e n r)⟩
  · have e3 := L.kp n a o q e1 e2
    refine x.keep a o e3 (fun k hk => ?_) (L.po n a q e1)
    have := L.sm.inj k n a hk (L.mρ n a e1)
    subst this
    exact (L.hid k q).2

/-- the loop is over: the pinned cells are looked at again -/
theorem LInv.stop (S : Sim h₀ W s) (x : Step own s0 W0 s W) (L : LInv h₀ own s0 W0 s W p fp wr St i W' s') :
    Step own s0 W0 s' { W' with st := W'.st.back W.st p } ∧ Sim h₀ { W' with st := W'.st.back W.st p } s' := by
  refine ⟨⟨L.st.rest, L.st.keep, L.st.live, L.st.extR, L.st.rho, L.st.new, L.st.hi, fun n hn e => ?_⟩, ⟨L.sm.base, L.sm.frz, fun n c e => ?_, L.sm.dis, L.sm.inj, L.sm.dom⟩⟩
  · show (if p n then W.st.cs n else W'.st.cs n) = none
    split
    · exact x.hid n hn e
    · exact L.st.hid n hn e
  · have e' : (if p n then W.st.cs n else W'.st.cs n) = some c := e
    split at e'
    · rename_i q
      obtain ⟨a, ha, hc⟩ := S.cel n c e'
      refine ⟨a, L.mρ n a ha, ?_⟩
      cases c with
      | list ds => obtain ⟨vs, k, hg, hr⟩ := hc; exact ⟨vs, k, L.kp n a _ q ha hg, RepAll.mono L.mR L.mρ ds vs hr⟩
      | dict es => exact hc
    · exact L.sm.cel n c e'

/-- one turn: the iterator moves, and yields d -/
theorem LInv.turn {target : Expr} {prog : Program} {w : World} {A : Around} {I : Addr} {n : Nat} {V : Nat → Value → Heap → Heap → Prop} (T : Turn prog w A target I fp wr n V St)
    (L : LInv h₀ own s0 W0 s W p fp wr St i W' s') {h' : Heap} {tk : Nat} {v : Value} {d : D} (hst : St (i + 1) h') (hk : ∀ b o, b ∉ wr → s'.heap.get? b = some o → h'.get? b = some o)
    (hd : Rep W.R W.ρ d v ∨ ∃ T vs ds, d = .tup ds ∧ v = .ref T ∧ s'.heap.get? T = none ∧ h'.get? T = some (tupO vs 0) ∧ RepAll W.R W.ρ ds vs) :
    ∃ W'', LInv h₀ own s0 W0 s W p fp wr St (i + 1) W'' { s' with heap := h', toks := tk } ∧ Rep W''.R W''.ρ d v ∧ W''.st = W'.st ∧ Step (fun b => b ∈ wr) s' W' { s' with heap := h', toks := tk } W'' := by
  have L1 := L.next (tk := tk) hst hk (T.alive _ _ hst)
  have lv : ∀ b o, s'.heap.get? b = some o → ∃ o', h'.get? b = some o' := fun b o e => by
    by_cases q : b ∈ wr
    · exact T.alive _ _ hst b (L.sub b q)
    · exact ⟨o, hk b o q e⟩
  rcases hd with hd | ⟨T', vs, ds, rfl, rfl, hdead, hg, hr⟩
  · exact ⟨W', L1, Rep.mono L.mR L.mρ d v hd, rfl, ⟨rfl, rfl, rfl⟩, fun b o e _ q => hk b o q e, lv, fun _ _ _ => rfl, fun _ _ e => e, fun _ _ e => .inl e, Nat.le_refl _, fun _ _ e => e⟩
  · have h0 : s0.heap.get? T' = none := by
      cases q : s0.heap.get? T' with
      | none => rfl
      | some o => obtain ⟨o', e⟩ := L.st.live T' o q; rw [hdead] at e; cases e
    have hR : W'.R T' = none := by
      cases q : W'.R T' with
      | none => rfl
      | some o => have := L.sm.frz T' o q; rw [hdead] at this; cases this
    have hρ : ∀ n, W'.ρ n ≠ some T' := fun n q => by obtain ⟨_, o, e⟩ := L.sm.dis n T' q; rw [hdead] at e; cases e
    have hw : T' ∉ wr := fun q => by obtain ⟨o, e⟩ := (L.fpF T' (L.sub T' q)).1; rw [hdead] at e; cases e
    have mono : ∀ b o', W'.R b = some o' → (if b = T' then some (tupO vs 0) else W'.R b) = some o' := fun b o' e => by
      rw [if_neg (fun q => by subst q; rw [hR] at e; cases e)]; exact e
    refine ⟨_, L1.freeze hg h0 hR hρ hw, ⟨T', vs, 0, rfl, by show (if T' = T' then some (tupO vs 0) else W'.R T') = _; rw [if_pos rfl], RepAll.mono (fun a o e => mono a o (L.mR a o e)) L.mρ ds vs hr⟩, rfl, ⟨rfl, rfl, rfl⟩, fun b o e _ q => hk b o q e, lv, fun b o e => ?_, fun _ _ e => e, fun _ _ e => .inl e, Nat.le_refl _, fun _ _ e => e⟩
    show (if b = T' then some (tupO vs 0) else W'.R b) = W'.R b
    rw [if_neg (fun q => by subst q; rw [hdead] at e; cases e)]
end
end Mine
end

section
set_option autoImplicit false
set_option linter.unusedVariables false
namespace Mine
open PySem

section
variable {prog : Program} {w : World} {A : Around} {h₀ : Heap} {own : Addr → Prop} {env : Env} {kd : Kd} {m : Loc} {W : Wd} {s : Shared}

theorem assignEach_len (env : Env) (es : List Expr) : (assignEach es env).length = es.length := by
  induction es with
  | nil => rfl
  | cons t r ih => cases t <;> simp [assignEach, ih]
theorem tg_len {es : List Expr} {xs : List Str} (h : tgNames es = some xs) : es.length = xs.length := by
  induction es generalizing xs with
  | nil => cases h; rfl
  | cons t r ih =>
    cases t with
    | Name x p =>
      simp only [tgNames, Option.map_eq_some_iff] at h
      obtain ⟨ys, hy, rfl⟩ := h
      simp [ih hy]
    | _ => simp [tgNames] at h
theorem tg_star {es : List Expr} {xs : List Str} (env : Env) (h : tgNames es = some xs) : (assignEach es env).findIdx? (·.1) = none := by
  rw [List.findIdx?_eq_none_iff]
  induction es generalizing xs with
  | nil => intro x hx; simp [assignEach] at hx
  | cons t r ih =>
    cases t with
    | Name x p =>
      simp only [tgNames, Option.map_eq_some_iff] at h
      obtain ⟨ys, hy, rfl⟩ := h
      intro z hz
      simp only [assignEach, List.mem_cons] at hz
      rcases hz with rfl | hz
      · rfl
      · exact ih hy z hz
    | _ => simp [tgNames] at h

theorem updAll_else : ∀ (xs : List Str) (ds : List D) (m : Loc), xs.all (isOwn kd) = true → ∀ x, isOwn kd x = false → updAll m xs ds x = m x
  | [], _, _, _, _, _ => by simp [updAll]
  | _ :: _, [], _, _, _, _ => by simp [updAll]
  | y :: ys, d :: ds, m, h, x, hx => by
    simp only [List.all_cons, Bool.and_eq_true] at h
    rw [updAll, updAll_else ys ds _ h.2 x hx]
    exact if_neg (fun z => by rw [z, h.1] at hx; cases hx)

theorem ok_inOrder : ∀ (es : List Expr) (xs : List Str) (ds : List D) (vs : List Value) (m : Loc) (s : Shared), tgNames es = some xs → xs.all (isOwn kd) = true → ds.length = xs.length → Sim h₀ W s → Fram own env kd m W s → RepAll W.R W.ρ ds vs →
    OK prog w A h₀ own (assignInOrder ((assignEach es env).map (·.2)) vs) W s (fun _ W' s' => W' = W ∧ Fram own env kd (updAll m xs ds) W s') := by
  intro es
  induction es with
  | nil =>
    intro xs ds vs m s h1 h2 h3 S F hr
    cases h1
    exact PyProof.Rows.assignInOrder_nil ⟨W, Step.refl _ _, S, rfl, F⟩
  | cons t r ih =>
    intro xs ds vs m s h1 h2 h3 S F hr
    cases t with
    | Name x p =>
      simp only [tgNames, Option.map_eq_some_iff] at h1
      obtain ⟨ys, hy, rfl⟩ := h1
      cases ds with
      | nil => simp at h3
      | cons d ds =>
        obtain ⟨v, ws, rfl, hd, hr'⟩ := hr
        simp only [List.all_cons, Bool.and_eq_true] at h2
        simp only [List.length_cons, Nat.add_right_cancel_iff] at h3
        refine PyProof.Rows.assignInOrder_cons ?_
        show wpAny _ _ (standAt p >>= fun _ => bindName env x v) _ _ s
        refine wpAny_bind (wpAny_standAt ?_)
        refine OK.nest S (ok_bind_name S F h2.1 hd) fun _ W1 s1 x1 S1 h => ?_
        obtain ⟨rfl, F1⟩ := h
        exact ih ys ds ws _ s1 hy h2.2 h3 S1 F1 hr'
    | _ => simp [tgNames] at h1

theorem ok_target {k : Nat} {t : Expr} {d : D} {v : Value} {K : Loc → Prop} (a1 : AOk k A) (S : Sim h₀ W s) (F : Fram own env kd m W s) (hr : Rep W.R W.ρ d v) (h : wTarget kd t d m K) :
    OK prog w A h₀ own (assign t env v) W s (fun _ W' s' => W' = W ∧ ∃ m', K m' ∧ Fram own env kd m' W s' ∧ ∀ x, isOwn kd x = false → m' x = m x) := by
  cases t with
  | Name x p =>
    show wpAny _ _ (standAt p >>= fun _ => bindName env x v) _ _ s
    refine wpAny_bind (wpAny_standAt ?_)
    exact (ok_bind_name S F h.1 hr).mono fun _ W1 s1 _ _ ⟨e, F1⟩ => ⟨e, _, h.2, F1, fun y q => if_neg (fun z => by rw [z, h.1] at q; cases q)⟩
  | Tuple es kk p =>
    obtain ⟨xs, ds, h1, h2, rfl, h3, hK⟩ := h
    obtain ⟨a, vs, n, rfl, hR, hra⟩ := hr
    have hg := S.frz _ _ hR
    refine PyProof.Rows.assign_Tuple_tuple (items := vs.toArray) a1.hn ⟨_, hg, rfl, n, rfl⟩ ?_ (tg_star env h1) fun h' he => ?_
    · rw [assignEach_len, tg_len h1, List.size_toArray, hra.length, h3]
    · obtain ⟨st, sm⟩ := S.grow (own := own) (tk := s.toks) (h' := h') (fun b o e => he b o (Nat.ne_of_lt (Heap.lt_size e)) e)
      refine OK.after S st ?_
      have F' := F.step0 S (S.grow (own := noOwn) (tk := s.toks) (h' := h') (fun b o e => he b o (Nat.ne_of_lt (Heap.lt_size e)) e)).1
      exact (ok_inOrder es xs ds vs m _ h1 h2 h3 sm F' hra).mono fun _ W1 s1 _ _ ⟨e, F1⟩ => ⟨e, _, hK, F1, updAll_else xs ds m h2⟩
  | _ => exact h.elim

theorem OwnOK.step {own own' : Addr → Prop} {s0 s : Shared} {W0 W : Wd} (O : OwnOK own s0 W0) (x : Step own' s0 W0 s W) : OwnOK own s W := fun b hb => by
  obtain ⟨⟨o, e⟩, h2, h3⟩ := O b hb
  obtain ⟨o', e'⟩ := x.live b o e
  refine ⟨⟨o', e'⟩, (x.extR b o e).trans h2, fun n q => ?_⟩
  rcases x.new n b q with z | z
  · exact h3 n z
  · rw [z] at e; cases e
theorem OwnOK.at {own own' : Addr → Prop} {s0 s : Shared} {W0 W : Wd} (O : OwnOK own s0 W0) (x : Step own' s0 W0 s W) : OwnOK own s0 W := fun b hb => ⟨(O b hb).1, (O.step x b hb).2⟩

/-- what a loop's body does -/
noncomputable def BodyOK (prog : Program) (w : World) (A : Around) (h₀ : Heap) (own : Addr → Prop) (env : Env) (kd : Kd) (t : Expr) (body : List Stmt) (step : D → Loc → St → (Fl → Loc → St → Prop) → Prop) : Prop :=
  ∀ d m W s v K, Sim h₀ W s → Fram own env kd m W s → OwnOK own s W → Rep W.R W.ρ d v → step d m W.st K →
    wpAny (model prog w) A (assign t env v) (fun _ s₂ => wpAny (model prog w) A (execs body env) (Fin' h₀ own s W (FP own env kd K)) E0 s₂) E0 s

theorem wFor_next {step : D → Loc → St → (Fl → Loc → St → Prop) → Prop} {items : List D} {i : Nat} {d : D} {m : Loc} {st : St} {Q : Fl → Loc → St → Prop} (hd : items[i]? = some d) (h : wFor step (items.drop i) m st Q) :
    step d m st fun fl m' st' => match fl with
      | .next => wFor step (items.drop (i + 1)) m' st' Q
      | .cont => wFor step (items.drop (i + 1)) m' st' Q
      | .brk => Q .next m' st'
      | .ret d => Q (.ret d) m' st' := by
  obtain ⟨hi, rfl⟩ := List.getElem?_eq_some_iff.mp hd
  rw [List.drop_eq_getElem_cons hi] at h
  exact h

theorem ok_forLoop {s0 : Shared} {W0 : Wd} {t : Expr} {body : List Stmt} {it : Value} {items : List D} {p : Nat → Bool} {K : Fl → Loc → St → Prop} {step : D → Loc → St → (Fl → Loc → St → Prop) → Prop} {m0 : Loc}
    (S0 : Sim h₀ W0 s0) (F0 : Fram own env kd m0 W0 s0) (x : Step own s0 W0 s W) (S : Sim h₀ W s) (F : Fram own env kd m W s) (I : IterOK prog w A t own it items p s0 s W)
    (O0 : OwnOK own s0 W0)
    (hb : BodyOK prog w A h₀ own env kd t body step)
    (h : wFor step items m (W.st.hide p) fun fl m2 st2 => K fl m2 (st2.back W.st p)) {R : Result → Shared → Prop}
    (hR : ∀ f s', (∃ W', Step own s0 W0 s' W' ∧ Sim h₀ W' s' ∧ FP own env kd K f W' s') → R (.ok f) s') :
    codeAny (model prog w) A (.forLoop t it body [] env) R s := by
  obtain ⟨⟨Ia, fp, wr, V, St, rfl, T, hst, hV, hwr, hsub, hfp⟩, hpd⟩ := I
  have fin : ∀ {fp wr St} i W' s' fl f m', LInv h₀ own s0 W0 s W p fp wr St i W' s' → FlRep W' fl f → Fram own env kd m' W' s' → K fl m' (W'.st.back W.st p) → R (.ok f) s' := fun {fp wr St} i W' s' fl f m' L hf F' hK => by
    obtain ⟨x', S'⟩ := L.stop S x
    refine hR f s' ⟨_, x', S', fl, m', ?_, F'.st _, hK⟩
    cases fl <;> exact hf
  have noWr : ∀ c, (∃ o, s0.heap.get? c = some o) → c ∉ wr := fun c ⟨o, e⟩ q => by rw [(hwr c q).1] at e; cases e
  have hl0 : ∃ o, s0.heap.get? env.locals = some o := by obtain ⟨mv, o, _, _, e, _⟩ := F0.ns; exact ⟨o, e⟩
  have hc0 : ∀ y c, env.cells.lookup y = some c → ∃ o, s0.heap.get? c = some o := fun y c e => by obtain ⟨⟨v, o, e', _⟩, _⟩ := F0.cl y c e; exact ⟨o, e'⟩
  refine codeAny_forLoop_any (fun n s' => ∃ i W' m', n = items.length - i ∧ i ≤ items.length ∧ LInv h₀ own s0 W0 s W p fp wr St i W' s' ∧ Fram own env kd m' W' s' ∧ wFor step (items.drop i) m' W'.st fun fl m2 st2 => K fl m2 (st2.back W.st p)) ?_ items.length
    ⟨0, _, m, rfl, Nat.zero_le _, LInv.start S x hst hwr hsub hfp hpd (fun n a q e z => ((O0.step x) a z).2.2 n e), F.st _, h⟩
  rintro n s' ⟨i, W', m', rfl, hi, L, F', hw⟩
  rcases Nat.lt_or_ge i items.length with hlt | hge
  · refine wpAny_mono (T.item i s' (fun v s2 => wpAny (model prog w) A (assign t env v) (fun _ s₂ => wpAny (model prog w) A (execs body env) (fun f s₃ => match f with
            | .next | .cont => ∃ m, m < items.length - i ∧ ∃ i W' m', m = items.length - i ∧ i ≤ items.length ∧ LInv h₀ own s0 W0 s W p fp wr St i W' s₃ ∧ Fram own env kd m' W' s₃ ∧ wFor step (items.drop i) m' W'.st fun fl m2 st2 => K fl m2 (st2.back W.st p)
            | .brk => R (.ok .next) s₃
            | .ret v => R (.ok (.ret v)) s₃) (notedBy (model prog w) A env fun e s' => R (.error e) s') s₂) (notedBy (model prog w) A env fun e s' => R (.error e) s') s2) _ hlt L.inv fun v h' tk hv hst' hk => ?_) (fun r s1 hr => ?_) fun _ _ e => e
    · obtain ⟨d, hd, hrep⟩ := hV i v _ _ hv
      obtain ⟨W2, L2, hr2, hs2, xs2⟩ := L.turn T (tk := tk) hst' hk hrep
      have F2 := F'.step L.sm xs2 ⟨noWr _ hl0, fun y c e => noWr c (hc0 y c e)⟩
      have hw2 := wFor_next hd hw
      rw [← hs2] at hw2
      have main := hb d m' W2 _ v _ L2.sm F2 (O0.step L2.st) hr2 hw2
      refine wpAny_mono main (fun _ s2 h2 => ?_) fun _ _ e => e.elim
      refine wpAny_mono h2 (fun f s3 hf => ?_) fun _ _ e => e.elim
      obtain ⟨W3, x3, S3, fl, m3, hfl, F3, hK3⟩ := hf
      have L3 := L2.go S0 T.frame x3 S3
      cases fl with
      | next => have e : f = .next := hfl; subst e; exact ⟨items.length - (i + 1), by omega, i + 1, W3, m3, rfl, hlt, L3, F3, hK3⟩
      | cont => have e : f = .cont := hfl; subst e; exact ⟨items.length - (i + 1), by omega, i + 1, W3, m3, rfl, hlt, L3, F3, hK3⟩
      | brk => have e : f = .brk := hfl; subst e; exact fin _ _ _ .next .next m3 L3 rfl F3 hK3
      | ret d' => obtain ⟨u, e, hu⟩ := hfl; subst e; exact fin _ _ _ (.ret d') (.ret u) m3 L3 ⟨u, rfl, hu⟩ F3 hK3
    · cases r with
      | none => exact hr.elim
      | some v => exact hr
  · have e : i = items.length := Nat.le_antisymm hi hge
    subst e
    rw [List.drop_length] at hw
    refine wpAny_mono (T.done s' (fun s1 => wpAny (model prog w) A (execs [] env) (fun f s₃ => R (.ok f) s₃) (notedBy (model prog w) A env fun e s' => R (.error e) s') s1) _ L.inv fun h' tk hk => ?_) (fun r s1 hr => ?_) fun _ _ e => e
    · refine wpAny_execs_nil ?_
      exact fin 0 W' _ .next .next m' (L.last hk) rfl (F'.heap (fun o e => hk _ o (noWr _ hl0) e) fun y c o q e => hk _ o (noWr c (hc0 y c q)) e) hw
    · cases r with
      | none => exact hr
      | some v => exact hr.elim
end
end Mine
end

section
set_option autoImplicit false
set_option linter.unusedVariables false
namespace Mine
open PySem

noncomputable def clo (cells : List (Str × Addr)) : List (Str × NameKind) → List (Str × Addr) → List (Str × Addr)
  | [], acc => acc
  | (x, k) :: r, acc => if k == .free then (match cells.lookup x with
    | some c => clo cells r ((x, c) :: acc)
    | none => clo cells r acc) else clo cells r acc

theorem clo_eq {env : Env} {scope : Scope} (h : ∀ p ∈ scope.names, p.2 = .free → ∃ c, env.cells.lookup p.1 = some c) : closureFor scope env = pure (clo env.cells scope.names []) := by
  have go : ∀ (l : List (Str × NameKind)) (acc : List (Str × Addr)), (∀ p ∈ l, p.2 = .free → ∃ c, env.cells.lookup p.1 = some c) →
      (forIn l acc fun (x : Str × NameKind) (cs : List (Str × Addr)) => (if x.2 == .free then (do let c ← cellOf env x.1; pure (ForInStep.yield ((x.1, c) :: cs))) else pure (ForInStep.yield cs) : Sem _)) = pure (clo env.cells l acc) := by
    intro l
    induction l with
    | nil => intro acc _; rfl
    | cons p r ih =>
      intro acc hp
      obtain ⟨x, k⟩ := p
      rw [List.forIn_cons]
      cases q : k == NameKind.free with
      | true =>
        obtain ⟨c, hc⟩ := hp (x, k) (.head _) (by simpa using q)
        have hc' : List.lookup x env.cells = some c := hc
        simp only [q, if_true, clo, hc', cellOf, pure_bind]
        exact ih _ fun p hp' => hp p (.tail _ hp')
      | false =>
        simp only [q, Bool.false_eq_true, if_false, clo, pure_bind]
        exact ih _ fun p hp' => hp p (.tail _ hp')
  unfold closureFor
  show (forIn scope.names [] _ >>= fun r => pure r) = _
  rw [bind_pure]
  exact go scope.names [] h

theorem clo_mem {cells : List (Str × Addr)} : ∀ (l : List (Str × NameKind)) (acc : List (Str × Addr)), (∀ p ∈ acc, cells.lookup p.1 = some p.2) → ∀ p ∈ clo cells l acc, cells.lookup p.1 = some p.2
  | [], _, h => h
  | (x, k) :: r, acc, h => by
    unfold clo
    split
    · split
      · rename_i c hc
        exact clo_mem r _ fun p hp => by
          rcases List.mem_cons.mp hp with rfl | hp
          · exact hc
          · exact h p hp
      · exact clo_mem r _ h
    · exact clo_mem r _ h
theorem clo_acc {cells : List (Str × Addr)} : ∀ (l : List (Str × NameKind)) (acc : List (Str × Addr)), ∀ p ∈ acc, p ∈ clo cells l acc
  | [], _, _, h => h
  | (x, k) :: r, acc, p, h => by
    unfold clo
    split
    · split
      · exact clo_acc r _ p (.tail _ h)
      · exact clo_acc r _ p h
    · exact clo_acc r _ p h
theorem clo_has {cells : List (Str × Addr)} : ∀ (l : List (Str × NameKind)) (acc : List (Str × Addr)) (x : Str) (c : Addr), (x, NameKind.free) ∈ l → cells.lookup x = some c → (x, c) ∈ clo cells l acc
  | (y, k) :: r, acc, x, c, h, hc => by
    unfold clo
    rcases List.mem_cons.mp h with e | h
    · cases e
      simp only [beq_self_eq_true, if_true, hc]
      exact clo_acc r _ _ (.head _)
    · split
      · split
        · exact clo_has r _ x c h hc
        · exact clo_has r _ x c h hc
      · exact clo_has r _ x c h hc

theorem cf_app : ∀ (l : List (Str × NameKind)) (n : Nat) (acc : List (Str × Addr)), cellsFrom n l acc = cellsFrom n l [] ++ acc
  | [], _, _ => rfl
  | (x, k) :: r, n, acc => by
    unfold cellsFrom
    split
    · rw [cf_app r (n + 1) ((x, n) :: acc), cf_app r (n + 1) [(x, n)]]; simp
    · exact cf_app r n acc
theorem cf_has : ∀ (l : List (Str × NameKind)) (n : Nat) (x : Str), (x, NameKind.cell) ∈ l → ∃ c, (x, c) ∈ cellsFrom n l []
  | (y, k) :: r, n, x, h => by
    unfold cellsFrom
    rcases List.mem_cons.mp h with e | h
    · cases e
      simp only [beq_self_eq_true, if_true]
      rw [cf_app]; exact ⟨n, by simp⟩
    · split
      · obtain ⟨c, hc⟩ := cf_has r (n + 1) x h
        rw [cf_app]; exact ⟨c, by simp [hc]⟩
      · exact cf_has r n x h
theorem cf_from : ∀ (l : List (Str × NameKind)) (n : Nat) (x : Str) (c : Addr), (x, c) ∈ cellsFrom n l [] → (x, NameKind.cell) ∈ l
  | [], _, _, _, h => by simp [cellsFrom] at h
  | (y, k) :: r, n, x, c, h => by
    unfold cellsFrom at h
    split at h
    · rename_i q
      rw [cf_app] at h
      rcases List.mem_append.mp h with h | h
      · exact .tail _ (cf_from r _ x c h)
      · simp at h; rw [h.1, beq_iff_eq.mp q]; exact .head _
    · exact .tail _ (cf_from r n x c h)

theorem lookup_mem {α : Type} : ∀ {l : List (Str × α)} {x : Str} {c : α}, (x, c) ∈ l → ∃ c', l.lookup x = some c'
  | (y, v) :: r, x, c, h => by
    rw [List.lookup_cons]
    cases q : x == y with
    | true => exact ⟨v, rfl⟩
    | false =>
      rcases List.mem_cons.mp h with e | h
      · cases e; simp at q
      · exact lookup_mem h
theorem lookup_nodup {α : Type} : ∀ {l : List (Str × α)}, (l.map (·.1)).Nodup → ∀ {x : Str} {c : α}, (x, c) ∈ l → l.lookup x = some c
  | (y, v) :: r, hn, x, c, h => by
    rw [List.lookup_cons]
    simp only [List.map_cons, List.nodup_cons] at hn
    rcases List.mem_cons.mp h with e | h
    · cases e; simp
    · cases q : x == y with
      | true => exact absurd (List.mem_map.mpr ⟨_, h, (beq_iff_eq.mp q)⟩) hn.1
      | false => exact lookup_nodup hn.2 h
theorem lookup_app {α : Type} : ∀ (l l' : List (Str × α)) (x : Str), (l ++ l').lookup x = (l.lookup x).or (l'.lookup x)
  | [], _, _ => rfl
  | (y, v) :: r, l', x => by
    rw [List.cons_append, List.lookup_cons, List.lookup_cons]
    cases q : x == y with
    | true => rfl
    | false => exact lookup_app r l' x

theorem relabel_other {env : Env} : ∀ {names : List (Str × NameKind)} {x : Str} {k : NameKind}, k ≠ .free → names.lookup x = some k →
    (names.map fun (n, k) => if (k == NameKind.free && env.scope.kind == .function && env.kindOf n == some .cell) then (n, NameKind.cell) else (n, k)).lookup x = some k
  | [], _, _, _, h => by simp at h
  | (n, k') :: r, x, k, hk, h => by
    have ih := @relabel_other env r x k hk
    show List.lookup x ((if (k' == NameKind.free && env.scope.kind == .function && env.kindOf n == some .cell) = true then (n, NameKind.cell) else (n, k')) :: _) = _
    cases hx : x == n with
    | true =>
      simp only [List.lookup_cons, hx] at h
      cases h
      simp [List.lookup_cons, hx, hk]
    | false =>
      simp only [List.lookup_cons, hx] at h
      by_cases hc : (k' == NameKind.free && env.scope.kind == .function && env.kindOf n == some .cell) = true
      · rw [if_pos hc]; simp only [List.lookup_cons, hx]; exact ih h
      · rw [if_neg hc]; simp only [List.lookup_cons, hx]; exact ih h
theorem relabel_free {env : Env} : ∀ {names : List (Str × NameKind)} {x : Str}, names.lookup x = some .free →
    (names.map fun (n, k) => if (k == NameKind.free && env.scope.kind == .function && env.kindOf n == some .cell) then (n, NameKind.cell) else (n, k)).lookup x = some .cell ∨
    (names.map fun (n, k) => if (k == NameKind.free && env.scope.kind == .function && env.kindOf n == some .cell) then (n, NameKind.cell) else (n, k)).lookup x = some .free
  | [], _, h => by simp at h
  | (n, k') :: r, x, h => by
    have ih := @relabel_free env r x
    show List.lookup x ((if (k' == NameKind.free && env.scope.kind == .function && env.kindOf n == some .cell) = true then (n, NameKind.cell) else (n, k')) :: _) = _ ∨ List.lookup x ((if (k' == NameKind.free && env.scope.kind == .function && env.kindOf n == some .cell) = true then (n, NameKind.cell) else (n, k')) :: _) = _
    cases hx : x == n with
    | true =>
      simp only [List.lookup_cons, hx] at h
      cases h
      split
      · left; simp [List.lookup_cons, hx]
      · right; simp [List.lookup_cons, hx]
    | false =>
      simp only [List.lookup_cons, hx] at h
      by_cases hc : (k' == NameKind.free && env.scope.kind == .function && env.kindOf n == some .cell) = true
      · rw [if_pos hc]; simp only [List.lookup_cons, hx]; exact ih h
      · rw [if_neg hc]; simp only [List.lookup_cons, hx]; exact ih h

noncomputable def compEnv (scope : Scope) (cl : List (Str × Addr)) (C : Addr) (env : Env) : Env :=
  { scope := relabel scope env, locals := C, globals := env.globals, cells := cellsFrom (C + 1) scope.names cl, qual := env.qual, func := none, code := env.code, frame := env.frame, builtins := env.builtins }

theorem newCompEnv {M : Model} {A : Around} {E : Value → Shared → Prop} {s : Shared} {scope : Scope} {globals : Addr} {cl : List (Str × Addr)} {qual : Str} {outer : Env} {Q : Env → Shared → Prop}
    (h : Q { scope, locals := s.heap.objs.size, globals, cells := cellsFrom (s.heap.objs.size + 1) scope.names cl, qual, func := none, code := outer.code, frame := outer.frame, builtins := outer.builtins }
      { s with heap := pushCells (s.heap.push { cls := .type "dict", data := .dict #[] }) scope.names }) :
    wpAny M A (newFunctionEnv scope globals cl [] qual none .none (some outer)) Q E s := by
  simp only [newFunctionEnv, Option.isSome_some, if_true]
  refine wpAny_bind (wpAny_alloc ?_)
  refine wpAny_bind (wpAny_layCells _ (fun name kind cells => by cases hkc : kind == NameKind.cell <;> simp [hkc]) _ _ _ _ ?_)
  rw [show ({ s with heap := s.heap.push { cls := .type "dict", data := .dict #[] } } : Shared).heap.objs.size = s.heap.objs.size + 1 from Heap.size_push ..]
  simp only [List.forIn_nil]
  exact wpAny_bind (wpAny_pure (wpAny_pure h))

section
variable {prog : Program} {w : World} {A : Around} {E : Value → Shared → Prop} {s : Shared}

theorem appendD {l : Addr} {vs : List Value} {n : Nat} {x : Value} {Q : Value → Shared → Prop} (hg : s.heap.get? l = some (lstO vs n)) (hsz : vs.length ≤ sizeLine)
    (hQ : ∀ h' k, h'.get? l = some (lstO (vs ++ [x]) k) → Heap.SameBut l s.heap h' → Q .none { s with heap := h' }) :
    wpAny (model prog w) A (call (.builtin "list.append") [.ref l, x]) Q E s := by
  refine wpAny_call_entry PySem.slot_list_append ⟨_, hg, rfl⟩ PySem.entry_list_append ?_ (args_list_append _ _)
  show wpAny _ _ (updateSeq l (·.push x) >>= fun _ => ret .none) _ _ s
  refine wpAny_bind ?_
  obtain ⟨k, hk⟩ := upd_seq (f := (·.push x)) (ws := vs ++ [x]) hg (by simp)
  refine wpAny_updateSeq hg rfl (wpAny_pure ⟨.none, rfl, hQ _ k hk (Heap.SameBut.update ..)⟩) (by simpa using hsz) (by simpa using hsz)

noncomputable abbrev tests (ifs : List Expr) (env : Env) : Sem Bool := forIn ifs true fun c r => if r = true then do let ok ← isTrue c env (eval c env); pure (ForInStep.yield ok) else pure (ForInStep.yield r)

theorem codeAny_compLoop_gen {elt target iter : Expr} {ifs : List Expr} {scope : Scope} {pos : Pos} {it acc : Value} {env : Env} {R : Result → Shared → Prop} (I : Nat → Shared → Prop)
    (turn : ∀ n s, I n s → wpAny (model prog w) A (pyNext it) (fun r s₁ => match r with
      | none => R (.ok .next) s₁
      | some v => wpAny (model prog w) A (letOwnedTupleGo target it v) (fun _ s₁' => wpAny (model prog w) A (assign target env v) (fun _ s₂ =>
          wpAny (model prog w) A (tests ifs env) (fun ok s₃ =>
            if ok = true then wpAny (model prog w) A (eval elt env) (fun x s₄ =>
              wpAny (model prog w) A (call (.builtin "list.append") [acc, x]) (fun _ s₅ => ∃ m, m < n ∧ I m s₅) (notedBy (model prog w) A env fun e s' => R (.error e) s') s₄) (notedBy (model prog w) A env fun e s' => R (.error e) s') s₃
            else ∃ m, m < n ∧ I m s₃) (notedBy (model prog w) A env fun e s' => R (.error e) s') s₂) (notedBy (model prog w) A env fun e s' => R (.error e) s') s₁') (notedBy (model prog w) A env fun e s' => R (.error e) s') s₁) (notedBy (model prog w) A env fun e s' => R (.error e) s') s)
    (n : Nat) (h : I n s) :
    codeAny (model prog w) A (.compLoop (.ListComp elt [⟨target, iter, ifs, 0⟩] scope pos) 0 it acc env) R s := by
  refine codeAny_loop rfl I (fun n s hI => ?_) n h
  show wpAny _ A ((compTurn (.ListComp elt [⟨target, iter, ifs, 0⟩] scope pos) 0 it acc env).onRaise (fun x => do noteFrame x env; theTreesLotGoes x)) _ _ s
  refine wpAny_noted ?_
  rw [compTurn_list]
  refine wpAny_bind (wpAny_standAt (wpAny_bind (wpAny_mono (turn n s hI) (fun r s₁ h₁ => ?_) fun _ _ h' => h')))
  cases r with
  | none => exact wpAny_pure h₁
  | some v =>
    refine wpAny_bind (wpAny_mono h₁ (fun _ s₁' h₁' => ?_) fun _ _ h' => h')
    refine wpAny_bind (wpAny_mono h₁' (fun _ s₂ h₂ => wpAny_bind (wpAny_mono h₂ (fun ok s₃ h₃ => ?_) fun _ _ h' => h')) fun _ _ h' => h')
    cases ok with
    | false => exact wpAny_pure ⟨rfl, h₃⟩
    | true =>
      exact wpAny_bind (wpAny_bind (wpAny_mono h₃ (fun x s₄ h₄ => wpAny_bind (wpAny_mono h₄ (fun _ s₅ h₅ => wpAny_pure (wpAny_pure ⟨rfl, h₅⟩)) fun _ _ h' => h')) fun _ _ h' => h'))
end
end Mine
end

section
set_option autoImplicit false
set_option linter.unusedVariables false
namespace Mine
open PySem

section
variable {h₀ : Heap} {own : Addr → Prop} {s0 s : Shared} {W0 W : Wd}

theorem Step.freeze' (x : Step own s0 W0 s W) (S : Sim h₀ W s) {T : Addr} {o : Obj} (hg : s.heap.get? T = some o) (h0 : s0.heap.get? T = none) (hR : W.R T = none) (hρ : ∀ n, W.ρ n ≠ some T) :
    Step own s0 W0 s { W with R := fun b => if b = T then some o else W.R b } ∧ Sim h₀ { W with R := fun b => if b = T then some o else W.R b } s := by
  have mono : ∀ b o', W.R b = some o' → (if b = T then some o else W.R b) = some o' := fun b o' e => by
    rw [if_neg (fun q => by subst q; rw [hR] at e; cases e)]; exact e
  refine ⟨⟨x.rest, x.keep, x.live, fun b o' e => ?_, x.rho, x.new, x.hi, x.hid⟩, ⟨fun b o' e => mono b o' (S.base b o' e), fun b o' e => ?_, fun n c e => ?_, fun n a e => ?_, S.inj, S.dom⟩⟩
  · show (if b = T then some o else W.R b) = W0.R b
    rw [if_neg (fun q => by subst q; rw [h0] at e; cases e)]; exact x.extR b o' e
  · have e1 : (if b = T then some o else W.R b) = some o' := e
    by_cases q : b = T
    · rw [if_pos q] at e1; cases e1; subst q; exact hg
    · rw [if_neg q] at e1; exact S.frz b o' e1
  · obtain ⟨a, ha, hc⟩ := S.cel n c e
    refine ⟨a, ha, ?_⟩
    cases c with
    | list ds => obtain ⟨vs, k, hg', hr⟩ := hc; exact ⟨vs, k, hg', RepAll.mono mono (fun _ _ e => e) ds vs hr⟩
    | dict es => exact hc
  · obtain ⟨h1, h2⟩ := S.dis n a e
    refine ⟨?_, h2⟩
    show (if a = T then some o else W.R a) = none
    rw [if_neg (fun q => hρ n (by rw [← q]; exact e))]; exact h1

theorem Step.track' (x : Step own s0 W0 s W) (S : Sim h₀ W s) {a : Addr} {vs : List Value} {k : Nat} {ds : List D} (hg : s.heap.get? a = some (lstO vs k)) (h0 : s0.heap.get? a = none) (hR : W.R a = none) (na : ∀ n, W.ρ n ≠ some a) (hr : RepAll W.R W.ρ ds vs) :
    let W' : Wd := { W with ρ := fun n => if n = W.st.hi then some a else W.ρ n, st := W.st.alloc (.list ds) }
    Step own s0 W0 s W' ∧ Sim h₀ W' s ∧ W'.ρ W.st.hi = some a := by
  intro W'
  have old : ∀ n b, W.ρ n = some b → W'.ρ n = some b := fun n b e => by
    show (if n = W.st.hi then some a else W.ρ n) = some b
    rw [if_neg (Nat.ne_of_lt (S.dom n b e))]; exact e
  have cases' : ∀ n b, W'.ρ n = some b → (n = W.st.hi ∧ b = a) ∨ W.ρ n = some b := fun n b e => by
    by_cases q : n = W.st.hi
    · left; refine ⟨q, ?_⟩
      have : (if n = W.st.hi then some a else W.ρ n) = some b := e
      rw [if_pos q] at this; exact (Option.some.inj this).symm
    · right
      have : (if n = W.st.hi then some a else W.ρ n) = some b := e
      rwa [if_neg q] at this
  refine ⟨⟨x.rest, x.keep, x.live, x.extR, fun n b e => old n b (x.rho n b e), fun n b e => ?_, Nat.le_succ_of_le x.hi, fun n hn e => ?_⟩, ⟨S.base, S.frz, fun n c e => ?_, fun n b e => ?_, fun n k' b e1 e2 => ?_, fun n b e => ?_⟩, ?_⟩
  · rcases cases' n b e with ⟨_, rfl⟩ | h
    · exact .inr h0
    · exact x.new n b h
  · show (if n = W.st.hi then some _ else W.st.cs n) = none
    rw [if_neg (Nat.ne_of_lt (Nat.lt_of_lt_of_le hn x.hi))]; exact x.hid n hn e
  · have e' : (if n = W.st.hi then some (Cell.list ds) else W.st.cs n) = some c := e
    by_cases q : n = W.st.hi
    · rw [if_pos q] at e'; cases e'
      exact ⟨a, by show (if n = W.st.hi then some a else W.ρ n) = some a; rw [if_pos q], vs, k, hg, RepAll.mono (fun _ _ e => e) old ds vs hr⟩
    · rw [if_neg q] at e'
      obtain ⟨b, hb, hc⟩ := S.cel n c e'
      refine ⟨b, old n b hb, ?_⟩
      cases c with
      | list ds' => obtain ⟨vs', k', hg', hr'⟩ := hc; exact ⟨vs', k', hg', RepAll.mono (fun _ _ e => e) old ds' vs' hr'⟩
      | dict es => exact hc
  · rcases cases' n b e with ⟨_, rfl⟩ | h
    · exact ⟨hR, _, hg⟩
    · exact S.dis n b h
  · rcases cases' n b e1 with ⟨q1, r1⟩ | h1
    · rcases cases' k' b e2 with ⟨q2, _⟩ | h2
      · rw [q1, q2]
      · exact absurd (r1 ▸ h2) (na k')
    · rcases cases' k' b e2 with ⟨_, r2⟩ | h2
      · exact absurd (r2 ▸ h1) (na n)
      · exact S.inj n k' b h1 h2
  · rcases cases' n b e with ⟨q, _⟩ | h
    · rw [q]; exact Nat.lt_succ_self _
    · exact Nat.lt_succ_of_lt (S.dom n b h)
  · show (if W.st.hi = W.st.hi then some a else W.ρ W.st.hi) = some a
    rw [if_pos rfl]

/-- an object nobody looks at changes -/
theorem Step.dead' (x : Step own s0 W0 s W) (S : Sim h₀ W s) {C : Addr} {h' : Heap} (h0 : s0.heap.get? C = none) (hR : W.R C = none) (hρ : ∀ n, W.ρ n ≠ some C) (hs : ∀ b o, b ≠ C → s.heap.get? b = some o → h'.get? b = some o) :
    Step own s0 W0 { s with heap := h' } W ∧ Sim h₀ W { s with heap := h' } := by
  refine ⟨⟨x.rest, fun b o e hm ho => hs b o (fun q => by rw [q, h0] at e; cases e) (x.keep b o e hm ho), fun b o e => ?_, x.extR, x.rho, x.new, x.hi, x.hid⟩, ⟨S.base, fun b o e => hs b o (fun q => by rw [q, hR] at e; cases e) (S.frz b o e), fun n c e => ?_, fun n a e => ?_, S.inj, S.dom⟩⟩
  · obtain ⟨o', e'⟩ := x.live b o e
    exact ⟨o', hs b o' (fun q => by rw [q, h0] at e; cases e) e'⟩
  · obtain ⟨a, ha, hc⟩ := S.cel n c e
    refine ⟨a, ha, ?_⟩
    cases c with
    | list ds => obtain ⟨vs, k, hg', hr⟩ := hc; exact ⟨vs, k, hs a _ (fun q => hρ n (by rw [← q]; exact ha)) hg', hr⟩
    | dict es => exact hc
  · obtain ⟨h1, o, h2⟩ := S.dis n a e
    exact ⟨h1, o, hs a o (fun q => hρ n (by rw [← q]; exact e)) h2⟩
end

/-- the comprehension's frame -/
noncomputable def compOwn (C : Addr) (names : List (Str × NameKind)) : Addr → Prop := fun b => b = C ∨ ∃ x, (x, b) ∈ cellsFrom (C + 1) names []

section
variable {prog : Program} {w : World} {A : Around} {h₀ : Heap} {own : Addr → Prop} {env : Env} {kd : Kd} {m : Loc} {s0 s : Shared} {W0 W : Wd}

noncomputable abbrev compM (scope : Scope) (m : Loc) : Loc := fun x => if scope.names.lookup x = some .free then m x else none
noncomputable abbrev compK (scope : Scope) : Kd := fun x => scope.names.lookup x

noncomputable def CompStep (prog : Program) (w : World) (A : Around) (h₀ : Heap) (scope : Scope) (m : Loc) (t elt : Expr) (ifs : List Expr) (step : D → St → (Option D → St → Prop) → Prop) : Prop :=
  ∀ (own' : Addr → Prop) (cenv : Env) d W s v K, Sim h₀ W s → Fram own' cenv (compK scope) (compM scope m) W s → Rep W.R W.ρ d v → step d W.st K →
    wpAny (model prog w) A (assign t cenv v) (fun _ s1 => wpAny (model prog w) A (tests ifs cenv) (fun ok s2 =>
      if ok = true then wpAny (model prog w) A (eval elt cenv) (fun x s3 => Fin' h₀ own' s W (fun x W' s' => Fram own' cenv (compK scope) (compM scope m) W' s' ∧ ∃ dx, Rep W'.R W'.ρ dx x ∧ K (some dx) W'.st) x s3) E0 s2
      else Fin' h₀ own' s W (fun (_ : Unit) W' s' => Fram own' cenv (compK scope) (compM scope m) W' s' ∧ K none W'.st) () s2) E0 s1) E0 s

theorem compFram {D C : Addr} {H : Heap} {tk : Nat} {scope : Scope} (F : Fram own env kd m W s) (S : Sim h₀ W s) (sc : ScopeOk kd scope) (hD : C = s.heap.objs.size + 1) (hDD : D = s.heap.objs.size)
    (hH : H = pushCells (((s.heap.push (lstO [] 0))).push { cls := .type "dict", data := .dict #[] }) scope.names) :
    Fram (compOwn C scope.names) (compEnv scope (clo env.cells scope.names []) C env) (compK scope) (compM scope m) W { s with heap := H, toks := tk } ∧
    (∀ b o, s.heap.get? b = some o → H.get? b = some o) ∧ H.get? D = some (lstO [] 0) ∧ (∀ b, compOwn C scope.names b → s.heap.get? b = none ∧ b ≠ D) ∧ (∀ x c, (compEnv scope (clo env.cells scope.names []) C env).cells.lookup x = some c → compOwn C scope.names c ∨ env.cells.lookup x = some c) := by
  have sz : ((s.heap.push (lstO [] 0))).objs.size = s.heap.objs.size + 1 := Heap.size_push ..
  have sz2 : (((s.heap.push (lstO [] 0))).push { cls := .type "dict", data := .dict #[] }).objs.size = s.heap.objs.size + 2 := by rw [Heap.size_push, sz]
  have ok := cellsFrom_ok scope.names (((s.heap.push (lstO [] 0))).push { cls := .type "dict", data := .dict #[] }) (s.heap.objs.size + 2) [] ⟨fun _ _ hm => (nomatch hm), List.Pairwise.nil⟩ (by rw [sz2]; exact Nat.le_refl _)
  rw [sz2, ← hH] at ok
  have hC1 : C + 1 = s.heap.objs.size + 2 := by rw [hD]
  have hkeep : ∀ b o, s.heap.get? b = some o → H.get? b = some o := fun b o e => by rw [hH]; exact pushCells_keeps _ _ b o (Heap.get?_push_of_some _ (Heap.get?_push_of_some _ e))
  have cfm : ∀ x c, (x, c) ∈ cellsFrom (C + 1) scope.names [] → H.IsCell c none ∧ s.heap.objs.size + 2 ≤ c := fun x c hm => ok.empty x c (by rw [← hC1]; exact hm)
  have clm : ∀ x c, (x, c) ∈ clo env.cells scope.names [] → env.cells.lookup x = some c := fun x c hm => clo_mem scope.names [] (fun p hp => nomatch hp) (x, c) hm
  have dead : ∀ b, s.heap.objs.size ≤ b → s.heap.get? b = none := fun b hb => dead_ge hb
  have ρd : ∀ b, s.heap.get? b = none → ∀ n, W.ρ n ≠ some b := fun b hb n q => by obtain ⟨_, o, e⟩ := S.dis n b q; rw [hb] at e; cases e
  have Rd : ∀ b, s.heap.get? b = none → W.R b = none := fun b hb => by
    cases q : W.R b with
    | none => rfl
    | some o => have := S.frz b o q; rw [hb] at this; cases this
  have hcd : ∀ x c, (x, c) ∈ cellsFrom (C + 1) scope.names [] → s.heap.get? c = none := fun x c hm => dead c (Nat.le_trans (Nat.le_add_right _ 2) (cfm x c hm).2)
  have hClt : s.heap.get? C = none := dead C (by rw [hD]; exact Nat.le_succ _)
  have hns : H.Ns C (fun _ => none) := by
    rw [hH, hD, ← sz]
    exact (Heap.Ns.new _ (.type "dict")).keeps (pushCells_keeps _ _)
  have cells : (compEnv scope (clo env.cells scope.names []) C env).cells = cellsFrom (C + 1) scope.names [] ++ clo env.cells scope.names [] := cf_app _ _ _
  have nofree : ∀ x, (x, NameKind.free) ∈ scope.names → (cellsFrom (C + 1) scope.names []).lookup x = none := fun x hx => by
    cases q : (cellsFrom (C + 1) scope.names []).lookup x with
    | none => rfl
    | some c =>
      have h1 := lookup_nodup sc.2.1 (cf_from _ _ x c (mem_of_lookup q))
      have h2 := lookup_nodup sc.2.1 hx
      rw [h1] at h2; cases h2
  have cases' : ∀ x c, (compEnv scope (clo env.cells scope.names []) C env).cells.lookup x = some c → (x, c) ∈ cellsFrom (C + 1) scope.names [] ∨ env.cells.lookup x = some c := fun x c e => by
    have := mem_of_lookup e
    rw [cells] at this
    rcases List.mem_append.mp this with h | h
    · exact .inl h
    · exact .inr (clm x c h)
  have frees : ∀ x, scope.names.lookup x = some .free → ∃ c, env.cells.lookup x = some c ∧ (compEnv scope (clo env.cells scope.names []) C env).cells.lookup x = some c := fun x hx => by
    have hm := mem_of_lookup hx
    have hout : ∃ c, env.cells.lookup x = some c := by
      rcases (sc.2.2 _ hm).2.2 rfl with q | q
      · obtain ⟨c, h, _⟩ := F.co x q; exact ⟨c, h⟩
      · exact (F.kF x q).2
    obtain ⟨c, hc⟩ := hout
    obtain ⟨c', hc'⟩ := lookup_mem (clo_has scope.names [] x c hm hc)
    have := clm x c' (mem_of_lookup hc')
    rw [hc] at this; cases this
    refine ⟨c, hc, ?_⟩
    rw [cells, lookup_app, nofree x hm, Option.none_or, hc']
  refine ⟨⟨by show (relabel scope env).kind = _; exact sc.1, F.gl, F.bi, fun x k hk hkf => relabel_other hkf hk, ⟨?_, ?_⟩, fun x d hx => ?_, ⟨_, hns⟩, fun x c e => ?_, fun x y c e1 e2 => ?_, ⟨.inl rfl, Rd C hClt, ρd C hClt⟩, fun x hx => ?_, fun x hx => ⟨relabel_free hx, let ⟨c, _, h⟩ := frees x hx; ⟨c, h⟩⟩⟩, hkeep, ?_, ?_, fun x c e => (cases' x c e).imp (fun h => .inr ⟨x, h⟩) id⟩
  · cases q : scope.names.lookup ("__debug__" : Str) with
    | none => exact q
    | some k => exact absurd rfl (sc.2.2 _ (mem_of_lookup q)).1
  · cases q : scope.names.lookup ("__classdict__" : Str) with
    | none => exact q
    | some k => exact absurd rfl (sc.2.2 _ (mem_of_lookup q)).2.1
  · have hx' : (if scope.names.lookup x = some .free then m x else none) = some d := hx
    split at hx'
    · rename_i hf
      obtain ⟨c, hc, hc'⟩ := frees x hf
      obtain ⟨_, v, H', hr⟩ := F.nm x d hx'
      have hne : compK scope x ≠ none := by show scope.names.lookup x ≠ none; rw [hf]; exact fun z => nomatch z
      refine ⟨hne, v, Or.inr ⟨relabel_free hf, c, hc', ?_⟩, hr⟩
      rcases H' with ⟨kl, _⟩ | ⟨_, c2, hc2, hv⟩
      · exfalso
        rcases (sc.2.2 _ (mem_of_lookup hf)).2.2 rfl with q | q
        · rw [F.kE x _ q (by intro z; cases z)] at kl; cases kl
        · rcases (F.kF x q).1 with z | z <;> rw [z] at kl <;> cases kl
      · rw [hc] at hc2; cases hc2
        exact hv.keeps hkeep
    · cases hx'
  · rcases cases' x c e with h | h
    · refine ⟨⟨none, (cfm x c h).1⟩, ?_, ρd c (hcd x c h)⟩
      intro q
      have h2 := (cfm x c h).2
      have q' : c = C := q
      rw [q', hD] at h2
      exact absurd h2 (by omega)
    · obtain ⟨⟨v, hv⟩, _, h3⟩ := F.cl x c h
      refine ⟨⟨v, hv.keeps hkeep⟩, ?_, h3⟩
      intro q
      have q' : c = C := q
      obtain ⟨o, e', _⟩ := hv
      rw [q', hClt] at e'; cases e'
  · rcases cases' x c e1 with h1 | h1 <;> rcases cases' y c e2 with h2 | h2
    · have := ok.apart
      rw [← hC1] at this
      exact name_of_addr this h1 h2
    · obtain ⟨⟨v, o, e', _⟩, _⟩ := F.cl y c h2
      rw [hcd x c h1] at e'; cases e'
    · obtain ⟨⟨v, o, e', _⟩, _⟩ := F.cl x c h1
      rw [hcd y c h2] at e'; cases e'
    · exact F.ci x y c h1 h2
  · have hm := mem_of_lookup hx
    obtain ⟨c, hc⟩ := cf_has scope.names (C + 1) x hm
    obtain ⟨c', hc'⟩ := lookup_mem hc
    refine ⟨c', ?_, .inr ⟨x, mem_of_lookup hc'⟩, Rd c' (hcd x c' (mem_of_lookup hc'))⟩
    rw [cells, lookup_app, hc']; rfl
  · rw [hH, hDD]
    exact pushCells_keeps _ _ _ _ (Heap.get?_push_of_some _ (Heap.get?_push_size _ rfl))
  · rintro b (rfl | ⟨x, hx⟩)
    · exact ⟨hClt, by rw [hD, hDD]; exact fun e => absurd (show (_ : Nat) = _ from e) (by omega)⟩
    · refine ⟨hcd x b hx, fun q => ?_⟩
      have h2 := (cfm x b hx).2
      rw [q, hDD] at h2
      exact absurd h2 (by omega)
end
end Mine
end

section
set_option autoImplicit false
set_option linter.unusedVariables false
namespace Mine
open PySem

theorem wComp_next {step : D → St → (Option D → St → Prop) → Prop} {items acc : List D} {i : Nat} {d : D} {st : St} {Q : List D → St → Prop} (hd : items[i]? = some d) (h : wComp step (items.drop i) acc st Q) :
    step d st fun r st' => match r with
      | some x => wComp step (items.drop (i + 1)) (acc ++ [x]) st' Q
      | none => wComp step (items.drop (i + 1)) acc st' Q := by
  obtain ⟨hi, rfl⟩ := List.getElem?_eq_some_iff.mp hd
  rw [List.drop_eq_getElem_cons hi] at h
  exact h

section
variable {prog : Program} {w : World} {A : Around} {h₀ : Heap} {own : Addr → Prop} {env : Env} {kd : Kd} {m m0 : Loc} {s0 s : Shared} {W0 W : Wd}

structure CInv (h₀ : Heap) (step : D → St → (Option D → St → Prop) → Prop) (Q' : List D → St → Prop) (scope : Scope) (m : Loc) (cenv : Env) (C D' : Addr) (s0 : Shared) (W0 : Wd) (s4 : Shared) (W : Wd) (p : Nat → Bool) (fp wr : List Addr) (St : Nat → Heap → Prop) (items : List D) (i : Nat) (W' : Wd) (acc : List D) (vs : List Value) (k : Nat) (s' : Shared) : Prop where
  le : i ≤ items.length
  len : acc.length ≤ i
  L : LInv h₀ (fun b => compOwn C scope.names b ∨ b = D') s0 W0 s4 W p fp wr St i W' s'
  F : Fram (compOwn C scope.names) cenv (compK scope) (compM scope m) W' s'
  hD : s'.heap.get? D' = some (lstO vs k)
  rep : RepAll W'.R W'.ρ acc vs
  RD : W'.R D' = none
  ρD : ∀ n, W'.ρ n ≠ some D'
  w : wComp step (items.drop i) acc W'.st Q'

theorem comp_core {t elt iter : Expr} {ifs : List Expr} {scope : Scope} {pos : Pos} {it : Value} {items : List D} {p : Nat → Bool} {trk : Bool} {Q : D → St → Prop} {step : D → St → (Option D → St → Prop) → Prop}
    (S0 : Sim h₀ W0 s0) (F0 : Fram own env kd m0 W0 s0) (x : Step noOwn s0 W0 s W) (S : Sim h₀ W s) (F : Fram own env kd m W s) (I : IterOK prog w A t noOwn it items p s0 s W) (hlen : items.length ≤ 2 * lim) (sc : ScopeOk kd scope)
    (hb : CompStep prog w A h₀ scope m t elt ifs step)
    (h : wComp step items [] (W.st.hide p) fun acc st5 => mkList trk acc (st5.back W.st p) Q)
    {RR : Value → Addr → Result → Shared → Prop}
    (hRR : ∀ D' C s' W', Step noOwn s0 W0 s' W' → Sim h₀ W' s' → VP Q (.ref D') W' s' → s0.heap.get? C = none → W'.R C = none → (∀ n, W'.ρ n ≠ some C) → (∃ mv, s'.heap.Ns C mv) → RR (.ref D') C (.ok .next) s') :
    wpAny (model prog w) A (newList []) (fun acc s₃ => wpAny (model prog w) A (newFunctionEnv scope env.globals (clo env.cells scope.names []) [] env.qual none .none (some env)) (fun cenv s₄ =>
      codeAny (model prog w) A (.compStart (.ListComp elt [⟨t, iter, ifs, 0⟩] scope pos) 0 it acc { cenv with scope := relabel scope env }) (RR acc cenv.locals) s₄) E0 s₃) E0 s := by
  refine wpAny_newObj_type (newCompEnv ?_)
  show codeAny (model prog w) A (.compStart (.ListComp elt [⟨t, iter, ifs, 0⟩] scope pos) 0 it (.ref s.heap.objs.size) (compEnv scope (clo env.cells scope.names []) ((s.heap.push (lstO [] 0))).objs.size env)) (RR (.ref s.heap.objs.size) ((s.heap.push (lstO [] 0))).objs.size) { s with heap := pushCells (((s.heap.push (lstO [] 0))).push { cls := .type "dict", data := .dict #[] }) scope.names }
  have sz : ((s.heap.push (lstO [] 0))).objs.size = s.heap.objs.size + 1 := Heap.size_push ..
  generalize hC : s.heap.objs.size + 1 = C at sz
  generalize hD' : s.heap.objs.size = D'
  generalize hH : pushCells (((s.heap.push (lstO [] 0))).push { cls := .type "dict", data := .dict #[] }) scope.names = H
  obtain ⟨Fc, hkeep, hgD, hownd, hcl⟩ := compFram (D := D') (C := C) (H := H) (tk := s.toks) F S sc hC.symm hD'.symm hH.symm
  rw [sz]
  generalize hcenv : compEnv scope (clo env.cells scope.names []) C env = cenv at Fc hcl
  have hloc : cenv.locals = C := by rw [← hcenv]; rfl
  have dD : s.heap.get? D' = none := dead_ge (by rw [hD']; exact Nat.le_refl _)
  obtain ⟨g, Sg⟩ := S.grow (own := noOwn) (tk := s.toks) hkeep
  have dead0 : ∀ b, s.heap.get? b = none → s0.heap.get? b = none := fun b hb => by
    cases q : s0.heap.get? b with
    | none => rfl
    | some o => obtain ⟨o', e⟩ := x.live b o q; rw [hb] at e; cases e
  obtain ⟨⟨Ia, fp, wr, V, St, rfl, T, hst, hV, hwr, hsub, hfp⟩, hpd⟩ := I
  have ownd : ∀ b, (compOwn C scope.names b ∨ b = D') → s.heap.get? b = none := fun b hb => by
    rcases hb with hb | rfl
    · exact (hownd b hb).1
    · exact dD
  have wrs : ∀ b ∈ wr, ∃ o, s.heap.get? b = some o := fun b hb => (hfp b (hsub b hb)).1
  have nwr : ∀ b, s.heap.get? b = none → b ∉ wr := fun b hb q => by obtain ⟨o, e⟩ := wrs b q; rw [hb] at e; cases e
  have hst' : St 0 H := T.frame 0 _ _ hst fun b _ o e => hkeep b o e
  have x4 : Step (fun b => compOwn C scope.names b ∨ b = D') s0 W0 { s with heap := H } W := (x.trans S0 g).wide fun _ _ _ q => q.elim
  have L0 := LInv.start (p := p) (fp := fp) (wr := wr) (St := St) (s := { s with heap := H }) Sg x4 hst' hwr hsub (fun b q => by
      obtain ⟨o, e⟩ := (hfp b q).1
      exact ⟨⟨o, hkeep b o e⟩, (fun z => by rw [ownd b z] at e; cases e), (hfp b q).2.2⟩) hpd
    (fun n a q e z => by obtain ⟨_, o, e'⟩ := S.dis n a e; rw [ownd a z] at e'; cases e')
  have cellwr : ∀ y c, cenv.cells.lookup y = some c → c ∉ wr := fun y c e => by
    rcases hcl y c e with h | h
    · exact nwr c (hownd c h).1
    · intro q
      obtain ⟨⟨v, o, e', _⟩, _⟩ := F0.cl y c h
      rw [(hwr c q).1] at e'; cases e'
  have cellD : ∀ y c, cenv.cells.lookup y = some c → c ≠ D' := fun y c e => by
    rcases hcl y c e with h | h
    · exact (hownd c h).2
    · rintro rfl
      obtain ⟨⟨v, o, e', _⟩, _⟩ := F.cl y c h
      rw [dD] at e'; cases e'
  have hCd : s.heap.get? C = none := (hownd C (.inl rfl)).1
  have hCD : C ≠ D' := (hownd C (.inl rfl)).2
  have loop : codeAny (model prog w) A (.compLoop (.ListComp elt [⟨t, iter, ifs, 0⟩] scope pos) 0 (.ref Ia) (.ref D') cenv) (RR (.ref D') C) { s with heap := H } := by
    refine codeAny_compLoop_gen (fun n s' => ∃ i W' acc vs k, n = items.length - i ∧ CInv h₀ step (fun acc st5 => mkList trk acc (st5.back W.st p) Q) scope m cenv C D' s0 W0 { s with heap := H } W p fp wr St items i W' acc vs k s') ?_ items.length
      ⟨0, _, [], [], 0, rfl, Nat.zero_le _, Nat.zero_le _, L0, Fc.st _, hgD, rfl, ?_, ?_, h⟩
    · rintro n s' ⟨i, W', acc, vs, k, rfl, Z⟩
      rcases Nat.lt_or_ge i items.length with hlt | hge
      · refine wpAny_mono (T.item i s' (fun v s2 => wpAny (model prog w) A (assign t cenv v) (fun _ s₂ =>
          wpAny (model prog w) A (tests ifs cenv) (fun ok s₃ =>
            if ok = true then wpAny (model prog w) A (eval elt cenv) (fun x s₄ =>
              wpAny (model prog w) A (call (.builtin "list.append") [.ref D', x]) (fun _ s₅ => ∃ m_1, m_1 < items.length - i ∧ ∃ i W' acc vs k, m_1 = items.length - i ∧ CInv h₀ step (fun acc st5 => mkList trk acc (st5.back W.st p) Q) scope m cenv C D' s0 W0 { s with heap := H } W p fp wr St items i W' acc vs k s₅) (notedBy (model prog w) A cenv fun e s' => RR (.ref D') C (.error e) s') s₄) (notedBy (model prog w) A cenv fun e s' => RR (.ref D') C (.error e) s') s₃
            else ∃ m_1, m_1 < items.length - i ∧ ∃ i W' acc vs k, m_1 = items.length - i ∧ CInv h₀ step (fun acc st5 => mkList trk acc (st5.back W.st p) Q) scope m cenv C D' s0 W0 { s with heap := H } W p fp wr St items i W' acc vs k s₃) (notedBy (model prog w) A cenv fun e s' => RR (.ref D') C (.error e) s') s₂) (notedBy (model prog w) A cenv fun e s' => RR (.ref D') C (.error e) s') s2) _ hlt Z.L.inv fun v h' tk hv hst' hk => ?_) (fun r s1 hr => ?_) fun _ _ e => e
        · obtain ⟨d, hd, hrep⟩ := hV i v _ _ hv
          obtain ⟨W2, L2, hr2, hs2, xs2⟩ := Z.L.turn T (tk := tk) hst' hk hrep
          have F2 := Z.F.step Z.L.sm xs2 ⟨by rw [hloc]; exact nwr C hCd, cellwr⟩
          have hw2 := wComp_next hd Z.w
          rw [← hs2] at hw2
          have hD2 : h'.get? D' = some (lstO vs k) := hk D' _ (nwr D' dD) Z.hD
          have RD2 : W2.R D' = none := (xs2.extR D' _ Z.hD).trans Z.RD
          have ρD2 : ∀ n, W2.ρ n ≠ some D' := fun n q => by
            rcases xs2.new n D' q with z | z
            · exact Z.ρD n z
            · rw [Z.hD] at z; cases z
          have rep2 := xs2.repAll Z.L.sm Z.rep
          have more : ∀ {s3 : Shared} {W3 : Wd}, Step (compOwn C scope.names) { s' with heap := h', toks := tk } W2 s3 W3 → Sim h₀ W3 s3 →
              LInv h₀ (fun b => compOwn C scope.names b ∨ b = D') s0 W0 { s with heap := H } W p fp wr St (i + 1) W3 s3 ∧ s3.heap.get? D' = some (lstO vs k) ∧ RepAll W3.R W3.ρ acc vs ∧ W3.R D' = none ∧ (∀ n, W3.ρ n ≠ some D') := fun {s3 W3} x3 S3 => by
            refine ⟨L2.go S0 T.frame (x3.wide fun _ _ _ q => .inl q) S3, x3.keep D' _ hD2 (fun n q => absurd q (ρD2 n)) (fun q => (hownd D' q).2 rfl), x3.repAll L2.sm rep2, (x3.extR D' _ hD2).trans RD2, fun n q => ?_⟩
            rcases x3.new n D' q with z | z
            · exact ρD2 n z
            · rw [show h'.get? D' = none from z] at hD2; cases hD2
          refine wpAny_mono (hb _ cenv d W2 _ v _ L2.sm F2 hr2 hw2) (fun _ s3 h3 => wpAny_mono h3 (fun ok s4 h4 => ?_) fun _ _ e => e.elim) fun _ _ e => e.elim
          cases ok with
          | false =>
            simp only [Bool.false_eq_true, if_false] at h4 ⊢
            obtain ⟨W3, x3, S3, F3, K3⟩ := h4
            obtain ⟨L3, hD3, rep3, RD3, ρD3⟩ := more x3 S3
            exact ⟨items.length - (i + 1), by omega, i + 1, W3, acc, vs, k, rfl, hlt, Nat.le_succ_of_le Z.len, L3, F3, hD3, rep3, RD3, ρD3, K3⟩
          | true =>
            simp only [if_true] at h4 ⊢
            refine wpAny_mono h4 (fun y s5 h5 => ?_) fun _ _ e => e.elim
            obtain ⟨W3, x3, S3, F3, dx, rdx, K3⟩ := h5
            obtain ⟨L3, hD3, rep3, RD3, ρD3⟩ := more x3 S3
            have hl : vs.length ≤ sizeLine := by
              have q1 := rep3.length
              have q2 := Z.len
              have q3 : lim = 1000000 := rfl
              have q4 : sizeLine = 16777216 := by decide
              omega
            refine appendD hD3 hl fun h6 k6 hg6 hs6 => ?_
            have ext : ∀ b o, b ≠ D' → s5.heap.get? b = some o → h6.get? b = some o := fun b o q e => (hs6.2 b q).trans e
            obtain ⟨x6, S6⟩ := S3.ownStep (own := fun b => compOwn C scope.names b ∨ b = D') (tk := s5.toks) (.inr rfl) RD3 ρD3 ext ⟨_, hg6⟩
            have L6 := L3.go S0 T.frame x6 S6
            have F6 : Fram (compOwn C scope.names) cenv (compK scope) (compM scope m) W3 { s5 with heap := h6 } := F3.heap (tk := s5.toks) (fun o e => ext _ o (by rw [hloc]; exact hCD) e) (fun y c o q e => ext c o (cellD y c q) e)
            exact ⟨items.length - (i + 1), by omega, i + 1, W3, acc ++ [dx], vs ++ [y], k6, rfl, hlt, by simpa using Z.len, L6, F6, hg6, rep3.append (RepAll.one rdx), RD3, ρD3, K3⟩
        · cases r with
          | none => exact hr.elim
          | some v => exact hr
      · have e : i = items.length := Nat.le_antisymm Z.le hge
        subst e
        have hw := Z.w
        rw [List.drop_length] at hw
        refine wpAny_mono (T.done s' (fun s1 => RR (.ref D') C (.ok .next) s1) _ Z.L.inv fun h' tk hk => ?_) (fun r s1 hr => ?_) fun _ _ e => e
        · have hD2 : h'.get? D' = some (lstO vs k) := hk D' _ (nwr D' dD) Z.hD
          have F2 : Fram (compOwn C scope.names) cenv (compK scope) (compM scope m) W' { s' with heap := h', toks := tk } := Z.F.heap (fun o e => hk _ o (by rw [hloc]; exact nwr C hCd) e) fun y c o q e => hk c o (cellwr y c q) e
          obtain ⟨x5, S5⟩ := (Z.L.last (tk := tk) hk).stop Sg x4
          have x5' : Step noOwn s0 W0 { s' with heap := h', toks := tk } { W' with st := W'.st.back W.st p } := x5.wide fun b o e q => by rw [dead0 b (ownd b q)] at e; cases e
          have hns : ∃ mv, h'.Ns C mv := by have := F2.ns; rw [hloc] at this; exact this
          have RC : W'.R C = none := by have := F2.lo.2.1; rw [hloc] at this; exact this
          have ρC : ∀ n, W'.ρ n ≠ some C := by have := F2.lo.2.2; rw [hloc] at this; exact this
          obtain ⟨hl, hq⟩ := hw
          cases trk with
          | true =>
            obtain ⟨x6, S6, e6⟩ := x5'.track' S5 hD2 (dead0 D' dD) Z.RD Z.ρD Z.rep
            refine hRR D' C _ _ x6 S6 ⟨.loc _, ⟨D', e6, rfl⟩, hq⟩ (dead0 C hCd) RC (fun n q => ?_) hns
            have q' : (if n = (W'.st.back W.st p).hi then some D' else W'.ρ n) = some C := q
            split at q'
            · exact hCD (Option.some.inj q').symm
            · exact ρC n q'
          | false =>
            obtain ⟨x6, S6⟩ := x5'.freeze' S5 hD2 (dead0 D' dD) Z.RD Z.ρD
            refine hRR D' C _ _ x6 S6 ⟨.list acc, ⟨D', vs, k, rfl, by show (if D' = D' then _ else _) = _; rw [if_pos rfl], RepAll.mono (fun a o e => ?_) (fun _ _ e => e) acc vs Z.rep⟩, hq⟩ (dead0 C hCd) ?_ ρC hns
            · show (if a = D' then some (lstO vs k) else W'.R a) = some o
              rw [if_neg (fun q => by subst q; rw [Z.RD] at e; cases e)]; exact e
            · show (if C = D' then some (lstO vs k) else W'.R C) = none
              rw [if_neg hCD]; exact RC
        · cases r with
          | none => exact hr
          | some v => exact hr.elim
    · cases q : W.R D' with
      | none => rfl
      | some o => have := S.frz D' o q; rw [dD] at this; cases this
    · intro n q
      obtain ⟨_, o, e⟩ := S.dis n D' q; rw [dD] at e; cases e
  exact codeAny_compStart_list loop (T.self 0 _ _ _ hst' loop)
end
end Mine
end

section
set_option autoImplicit false
set_option linter.unusedSimpArgs false
set_option linter.unusedVariables false
namespace Mine
open PySem

theorem ofString_beq (a b : String) : (Str.ofString a == Str.ofString b) = (a == b) := by
  by_cases h : a = b
  · subst h; rw [beq_self_eq_true, beq_self_eq_true]
  · have : Str.ofString a ≠ Str.ofString b := fun e => h (ofString_inj.mp e)
    rw [beq_eq_false_iff_ne.mpr this, beq_eq_false_iff_ne.mpr h]

noncomputable def thenK (Γ : Ctx) (mt : Str → Bool) (n : Nat) (kd : Kd) (r : List Stmt) (K : Fl → Loc → St → Prop) : Fl → Loc → St → Prop := fun fl m1 st1 => (match fl with
      | .next => wSs Γ mt n kd r m1 st1 K
      | fl => K fl m1 st1)
noncomputable def finK (Q : D → St → Prop) (st : St) : Fl → Loc → St → Prop := fun fl _ st' => (match fl with
    | .ret d => if st'.hi = st.hi then Q d st' else ∃ d', frz st.hi st' 3 d = some d' ∧ Q d' (st'.cut st.hi)
    | .next => if st'.hi = st.hi then Q .none st' else Q .none (st'.cut st.hi)
    | _ => False)
theorem fin_ret {Q : D → St → Prop} {st : St} {d : D} {m : Loc} : finK Q st (.ret d) m st = Q d st := by
  show (if st.hi = st.hi then _ else _) = _
  rw [if_pos rfl]
theorem fin_cut {Q : D → St → Prop} {st st' : St} {d d' : D} {m : Loc} (h : st'.hi ≠ st.hi) (h1 : frz st.hi st' 3 d = some d') (h2 : Q d' (st'.cut st.hi)) : finK Q st (.ret d) m st' := by
  show (if st'.hi = st.hi then _ else _)
  rw [if_neg h]; exact ⟨d', h1, h2⟩
section
variable {Γ : Ctx} {mt : Str → Bool} {n : Nat} {trk : Bool} {kd : Kd} {m : Loc} {st : St} {Q : D → St → Prop} {K : Bool → St → Prop} {KI : List D → (Nat → Bool) → St → Prop} {KS : Fl → Loc → St → Prop} {KL : List D → St → Prop}

-- names
theorem gl_l {x : Str} (h : kd x = some .local) : isGl kd x = false := by simp only [isGl, h]; rfl
theorem gl_c {x : Str} (h : kd x = some .cell) : isGl kd x = false := by simp only [isGl, h]; rfl
theorem gl_f {x : Str} (h : kd x = some .free) : isGl kd x = false := by simp only [isGl, h]; rfl
theorem gl_g {x : Str} (h : kd x = some .globalImplicit) : isGl kd x = true := by simp only [isGl, h]; rfl
theorem own_l {x : Str} (h : kd x = some .local) : isOwn kd x = true := by simp only [isOwn, h]; rfl
theorem own_c {x : Str} (h : kd x = some .cell) : isOwn kd x = true := by simp only [isOwn, h]; rfl
theorem nm_l {x : Str} (h : kd x = some .local) : wName Γ kd x m st Q = ∃ d, m x = some d ∧ Q d st := by unfold wName; rw [gl_l h]; rfl
theorem nm_c {x : Str} (h : kd x = some .cell) : wName Γ kd x m st Q = ∃ d, m x = some d ∧ Q d st := by unfold wName; rw [gl_c h]; rfl
theorem nm_f {x : Str} (h : kd x = some .free) : wName Γ kd x m st Q = ∃ d, m x = some d ∧ Q d st := by unfold wName; rw [gl_f h]; rfl
theorem nm_g {x : Str} (h : kd x = some .globalImplicit) : wName Γ kd x m st Q = ∃ d, Γ.gl x = some d ∧ Q d st := by unfold wName; rw [gl_g h]; rfl
theorem upd_str {a b : String} {d : D} : upd m (Str.ofString a) d (Str.ofString b) = if b = a then some d else m (Str.ofString b) := by
  unfold upd
  by_cases h : b = a
  · subst h; rw [if_pos rfl, if_pos rfl]
  · rw [if_neg h, if_neg fun e => h (ofString_inj.mp e)]
theorem lk_str {a b : String} {k : NameKind} {l : List (Str × NameKind)} : List.lookup (Str.ofString b) ((Str.ofString a, k) :: l) = if b = a then some k else List.lookup (Str.ofString b) l := by
  rw [List.lookup_cons, ofString_beq]
  by_cases h : b = a
  · subst h; rw [if_pos rfl, beq_self_eq_true]
  · rw [if_neg h, beq_eq_false_iff_ne.mpr h]
theorem call_n {x : Str} {ds : List D} (h : Γ.fn x = none) : wCallN Γ trk x ds st Q = wBuiltin trk x ds st Q := by unfold wCallN; rw [h]
theorem call_s {x : Str} {ds : List D} {S : FSpec} (h : Γ.fn x = some S) : wCallN Γ trk x ds st Q = S ds st Q := by unfold wCallN; rw [h]

-- expressions
theorem e_none {a} {p} : wE Γ (n + 1) trk kd (.Constant .none a p) m st Q = Q .none st := rfl
theorem e_bool {b a} {p} : wE Γ (n + 1) trk kd (.Constant (.bool b) a p) m st Q = Q (.bool b) st := rfl
theorem e_int {b a} {p} : wE Γ (n + 1) trk kd (.Constant (.int b) a p) m st Q = Q (.int b) st := rfl
theorem e_str {b a} {p} : wE Γ (n + 1) trk kd (.Constant (.str b) a p) m st Q = Q (.str b) st := rfl
theorem e_name {x p} : wE Γ (n + 1) trk kd (.Name x p) m st Q = wName Γ kd x m st Q := rfl
theorem e_boolop {op es p} : wE Γ (n + 1) trk kd (.BoolOp op es p) m st Q = wBool Γ n op kd es m st Q := rfl
theorem e_bin {l op r p} : wE Γ (n + 1) trk kd (.BinOp l op r p) m st Q = wE Γ n false kd l m st (fun a st1 => wE Γ n false kd r m st1 fun b st2 => wBin trk op a b st2 Q) := rfl
theorem e_un {op x p} : wE Γ (n + 1) trk kd (.UnaryOp op x p) m st Q = wE Γ n false kd x m st (fun a st1 => wUn op a st1 Q) := rfl
theorem e_cmp {l ops rs p} : wE Γ (n + 1) trk kd (.Compare l ops rs p) m st Q = wE Γ n false kd l m st (fun a st1 => wChain Γ n kd a ops rs m st1 fun b st2 => Q (.bool b) st2) := rfl
theorem e_call {x c args p} : wE Γ (n + 1) trk kd (.Call (.Name x c) args [] p) m st Q = (isGl kd x = true ∧ noStars args = true ∧ (Γ.fn x = none → isBltP x) ∧ wEs Γ n false kd args m st fun ds st1 => wCallN Γ trk x ds st1 Q) := rfl
theorem e_meth0 {o nm ap p} : wE Γ (n + 1) trk kd (.Call (.Attribute o nm ap) [] [] p) m st Q = (isCallE o = false ∧ (ap.endLine == p.line) = true ∧ wE Γ n false kd o m st fun d st1 => wMeth nm d [] st1 Q) := rfl
theorem e_meth1 {o nm ap e p} : wE Γ (n + 1) trk kd (.Call (.Attribute o nm ap) [e] [] p) m st Q = (isCallE o = false ∧ (ap.endLine == p.line) = true ∧ isMeth1 nm ∧ noStars [e] = true ∧ wE Γ n false kd o m st fun d st1 => (lstD st1 d).isSome = true ∧ wE Γ n false kd e m st1 fun x st2 => wMeth nm d [x] st2 Q) := rfl
theorem e_slice {v l u sp q p} : wE Γ (n + 1) trk kd (.Subscript v (.Slice l u sp q) p) m st Q = wE Γ n false kd v m st (fun d st1 => wOpt Γ n kd l m st1 fun a st2 => wOpt Γ n kd u m st2 fun b st3 => wOpt Γ n kd sp m st3 fun c st4 => wSlice trk d a b c st4 Q) := rfl
theorem e_itemC {v a b c p} : wE Γ (n + 1) trk kd (.Subscript v (.Constant a b c) p) m st Q = wE Γ n false kd v m st (fun d st1 => wE Γ n false kd (.Constant a b c) m st1 fun i st2 => wItem d i st2 Q) := rfl
theorem e_itemN {v a b p} : wE Γ (n + 1) trk kd (.Subscript v (.Name a b) p) m st Q = wE Γ n false kd v m st (fun d st1 => wE Γ n false kd (.Name a b) m st1 fun i st2 => wItem d i st2 Q) := rfl
theorem e_itemB {v a b c q p} : wE Γ (n + 1) trk kd (.Subscript v (.BinOp a b c q) p) m st Q = wE Γ n false kd v m st (fun d st1 => wE Γ n false kd (.BinOp a b c q) m st1 fun i st2 => wItem d i st2 Q) := rfl
theorem e_itemS {v a b q p} : wE Γ (n + 1) trk kd (.Subscript v (.Subscript a b q) p) m st Q = wE Γ n false kd v m st (fun d st1 => wE Γ n false kd (.Subscript a b q) m st1 fun i st2 => wItem d i st2 Q) := rfl
theorem e_tup {es a p} : wE Γ (n + 1) trk kd (.Tuple es a p) m st Q = wEs Γ n trk kd es m st (fun ds st1 => ds.length ≤ lim ∧ Q (.tup ds) st1) := rfl
theorem e_list {es p} : wE Γ (n + 1) trk kd (.List es p) m st Q = wEs Γ n trk kd es m st (fun ds st1 => mkList trk ds st1 Q) := rfl
theorem e_comp0 {elt t it sc p} : wE Γ (n + 1) trk kd (.ListComp elt [⟨t, it, [], 0⟩] sc p) m st Q = (ScopeOk kd sc ∧ wIter Γ n kd t it m st fun items p st1 =>
        wComp (fun d st2 k => wTarget (fun x => sc.names.lookup x) t d (fun x => if sc.names.lookup x = some .free then m x else none) fun m1 =>
          wE Γ n trk (fun x => sc.names.lookup x) elt m1 st2 fun x st4 => k (some x) st4)
          items [] (st1.hide p) fun acc st5 => mkList trk acc (st5.back st1 p) Q) := rfl
theorem e_comp1 {elt t it c sc p} : wE Γ (n + 1) trk kd (.ListComp elt [⟨t, it, [c], 0⟩] sc p) m st Q = (ScopeOk kd sc ∧ wIter Γ n kd t it m st fun items p st1 =>
        wComp (fun d st2 k => wTarget (fun x => sc.names.lookup x) t d (fun x => if sc.names.lookup x = some .free then m x else none) fun m1 =>
          wT Γ n (fun x => sc.names.lookup x) c m1 st2 fun b st3 => if b then wE Γ n trk (fun x => sc.names.lookup x) elt m1 st3 fun x st4 => k (some x) st4 else k none st3)
          items [] (st1.hide p) fun acc st5 => mkList trk acc (st5.back st1 p) Q) := rfl
theorem es_nil : wEs Γ (n + 1) trk kd [] m st KL = KL [] st := rfl
theorem es_cons {e r} : wEs Γ (n + 1) trk kd (e :: r) m st KL = wE Γ n trk kd e m st (fun d st1 => wEs Γ n trk kd r m st1 fun ds st2 => KL (d :: ds) st2) := rfl
theorem o_none : wOpt Γ (n + 1) kd none m st Q = Q .none st := rfl
theorem o_some {e} : wOpt Γ (n + 1) kd (some e) m st Q = wE Γ n false kd e m st Q := rfl
theorem b_one {op x} : wBool Γ (n + 1) op kd [x] m st Q = wE Γ n false kd x m st Q := rfl
theorem b_two {op x y r} : wBool Γ (n + 1) op kd (x :: y :: r) m st Q = wE Γ n false kd x m st (fun d st1 => ∃ b, truth d = some b ∧ (if stopsAnd op b then Q d st1 else wBool Γ n op kd (y :: r) m st1 Q)) := rfl
theorem c_one {a op r} : wChain Γ (n + 1) kd a [op] [r] m st K = wE Γ n false kd r m st (fun b st1 => wCmp1 op a b st1 fun v => K v st1) := rfl
theorem c_two {a op o2 ops r r2 rs} : wChain Γ (n + 1) kd a (op :: o2 :: ops) (r :: r2 :: rs) m st K = wE Γ n false kd r m st (fun b st1 => wCmp1 op a b st1 fun v => if v then wChain Γ n kd b (o2 :: ops) (r2 :: rs) m st1 K else K false st1) := rfl
theorem t_not {x p} : wT Γ (n + 1) kd (.UnaryOp .Not x p) m st K = wT Γ n kd x m st (fun b st1 => K (!b) st1) := rfl
theorem t_bool {op es p} : wT Γ (n + 1) kd (.BoolOp op es p) m st K = wAll Γ n op kd es m st K := rfl
theorem t_cmp {l ops rs p} : wT Γ (n + 1) kd (.Compare l ops rs p) m st K = wE Γ n false kd l m st (fun a st1 => wChain Γ n kd a ops rs m st1 K) := rfl
theorem t_call {f a k p} : wT Γ (n + 1) kd (.Call f a k p) m st K = wE Γ n false kd (.Call f a k p) m st (fun d st1 => ∃ b, truth d = some b ∧ K b st1) := rfl
theorem a_nil {op} : wAll Γ (n + 1) op kd [] m st K = K (op == .And) st := rfl
theorem a_cons {op x r} : wAll Γ (n + 1) op kd (x :: r) m st K = wT Γ n kd x m st (fun b st1 => if stopsAnd op b then K b st1 else wAll Γ n op kd r m st1 K) := rfl
theorem i_fcall {t fp args p} {f : Str} : wIter Γ (n + 1) kd t (.Call (.Name f fp) args [] p) m st KI = (if f = "zip" ∨ f = "range" ∨ f = "enumerate" then isGl kd f = true ∧ noStars args = true ∧ Γ.fn f = none ∧ wEs Γ n false kd args m st fun ds st1 => iterCall t f ds st1 fun xs p => KI xs p st1
    else wE Γ n false kd (.Call (.Name f fp) args [] p) m st fun d st1 => wIterD d st1 fun xs p => xs.length ≤ lim ∧ KI xs p st1) := rfl
theorem i_zip {t fp args p} : wIter Γ (n + 1) kd t (.Call (.Name (Str.ofString "zip") fp) args [] p) m st KI = (isGl kd "zip" = true ∧ noStars args = true ∧ Γ.fn "zip" = none ∧ wEs Γ n false kd args m st fun ds st1 => iterCall t "zip" ds st1 fun xs p => KI xs p st1) := by
  rw [i_fcall, if_pos (.inl rfl)]
theorem i_range {t fp args p} : wIter Γ (n + 1) kd t (.Call (.Name (Str.ofString "range") fp) args [] p) m st KI = (isGl kd "range" = true ∧ noStars args = true ∧ Γ.fn "range" = none ∧ wEs Γ n false kd args m st fun ds st1 => iterCall t "range" ds st1 fun xs p => KI xs p st1) := by
  rw [i_fcall, if_pos (.inr (.inl rfl))]
theorem i_enum {t fp args p} : wIter Γ (n + 1) kd t (.Call (.Name (Str.ofString "enumerate") fp) args [] p) m st KI = (isGl kd "enumerate" = true ∧ noStars args = true ∧ Γ.fn "enumerate" = none ∧ wEs Γ n false kd args m st fun ds st1 => iterCall t "enumerate" ds st1 fun xs p => KI xs p st1) := by
  rw [i_fcall, if_pos (.inr (.inr rfl))]
theorem i_call {t f fp args p} (h : (f = "zip" ∨ f = "range" ∨ f = "enumerate") = False) : wIter Γ (n + 1) kd t (.Call (.Name (Str.ofString f) fp) args [] p) m st KI = wE Γ n false kd (.Call (.Name (Str.ofString f) fp) args [] p) m st (fun d st1 => wIterD d st1 fun xs p => xs.length ≤ lim ∧ KI xs p st1) := by
  rw [i_fcall, if_neg ?_]
  intro q
  rw [← h]
  rcases q with e | e | e
  · exact .inl (ofString_inj.mp e)
  · exact .inr (.inl (ofString_inj.mp e))
  · exact .inr (.inr (ofString_inj.mp e))
theorem i_name {t x q} : wIter Γ (n + 1) kd t (.Name x q) m st KI = wE Γ n false kd (.Name x q) m st (fun d st1 => wIterD d st1 fun xs p => xs.length ≤ lim ∧ KI xs p st1) := rfl
theorem i_sub {t x y q} : wIter Γ (n + 1) kd t (.Subscript x y q) m st KI = wE Γ n false kd (.Subscript x y q) m st (fun d st1 => wIterD d st1 fun xs p => xs.length ≤ lim ∧ KI xs p st1) := rfl
theorem i_list {t x q} : wIter Γ (n + 1) kd t (.List x q) m st KI = wE Γ n false kd (.List x q) m st (fun d st1 => wIterD d st1 fun xs p => xs.length ≤ lim ∧ KI xs p st1) := rfl

-- statements
theorem s_expr {v p} : wS Γ mt (n + 1) kd (.Expr v p) m st KS = (isCallE v = true ∧ wE Γ n false kd v m st fun d st1 => (match d with
      | .none => KS .next m st1
      | _ => False)) := rfl
theorem s_asgN {x c v p} : wS Γ mt (n + 1) kd (.Assign [.Name x c] v p) m st KS = (isOwn kd x = true ∧ wE Γ n (mt x) kd v m st fun d st1 => KS .next (upd m x d) st1) := rfl
theorem s_asgT {es k q v p} : wS Γ mt (n + 1) kd (.Assign [.Tuple es k q] v p) m st KS = (isTupE v = false ∧ wE Γ n false kd v m st fun d st1 => wTarget kd (.Tuple es k q) d m fun m1 => KS .next m1 st1) := rfl
theorem s_asgS {o i q v p} : wS Γ mt (n + 1) kd (.Assign [.Subscript o i q] v p) m st KS = (isSliceE i = false ∧ wE Γ n false kd v m st fun d st1 => wE Γ n false kd o m st1 fun od st2 => wE Γ n false kd i m st2 fun id st3 => wSetItem od id d st3 fun st4 => KS .next m st4) := rfl
theorem s_if {c a b p} : wS Γ mt (n + 1) kd (.If c a b p) m st KS = wT Γ n kd c m st (fun r st1 => if r then wSs Γ mt n kd a m st1 KS else wSs Γ mt n kd b m st1 KS) := rfl
theorem s_for {t it body p} : wS Γ mt (n + 1) kd (.For t it body [] p) m st KS = wIter Γ n kd t it m st (fun items p st1 =>
        wFor (fun d m st k => wTarget kd t d m fun m1 => wSs Γ mt n kd body m1 st k) items m (st1.hide p) fun fl m2 st2 => KS fl m2 (st2.back st1 p)) := rfl
theorem s_ret {e p} : wS Γ mt (n + 1) kd (.Return (some e) p) m st KS = wE Γ n false kd e m st (fun d st1 => KS (.ret d) m st1) := rfl
theorem ss_nil : wSs Γ mt (n + 1) kd [] m st KS = KS .next m st := rfl
theorem wSs_cons {s : Stmt} {r : List Stmt} : wSs Γ mt (n + 1) kd (s :: r) m st KS = wS Γ mt n kd s m st (thenK Γ mt n kd r KS) := rfl
theorem th_next {r : List Stmt} : thenK Γ mt n kd r KS .next m st = wSs Γ mt n kd r m st KS := rfl
theorem th_ret {r : List Stmt} {d : D} : thenK Γ mt n kd r KS (.ret d) m st = KS (.ret d) m st := rfl
theorem tg_name {x p} {d : D} {KK : Loc → Prop} : wTarget kd (.Name x p) d m KK = (isOwn kd x = true ∧ KK (upd m x d)) := rfl
end

-- operations on intsD and bools
section
variable {trk : Bool} {i j : Int} {st : St} {Q : D → St → Prop} {K : Bool → Prop}
theorem x_add : wBin trk .Add (.int i) (.int j) st Q = Q (.int (i + j)) st := rfl
theorem x_sub : wBin trk .Sub (.int i) (.int j) st Q = Q (.int (i - j)) st := rfl
theorem x_mul : wBin trk .Mult (.int i) (.int j) st Q = (IntMulOk i j ∧ Q (.int (i * j)) st) := rfl
theorem x_div : wBin trk .FloorDiv (.int i) (.int j) st Q = (0 < j ∧ j < 2 ^ 30 ∧ Q (.int (i / j)) st) := rfl
theorem x_mod : wBin trk .Mod (.int i) (.int j) st Q = (0 < j ∧ Q (.int (i % j)) st) := rfl
theorem x_addT {xs ys : List D} : wBin trk .Add (.tup xs) (.tup ys) st Q = (xs.length + ys.length ≤ lim ∧ Q (.tup (xs ++ ys)) st) := rfl
theorem x_addL {xs ys : List D} : wBin trk .Add (.list xs) (.list ys) st Q = mkList trk (xs ++ ys) st Q := by
  show (∃ a b, some xs = some a ∧ some ys = some b ∧ mkList trk (a ++ b) st Q) = _
  exact propext ⟨fun ⟨a, b, h1, h2, h⟩ => by cases h1; cases h2; exact h, fun h => ⟨xs, ys, rfl, rfl, h⟩⟩
theorem x_mulL {xs : List D} : wBin trk .Mult (.list xs) (.int j) st Q = (-lim ≤ j ∧ j < lim ∧ xs.length ≤ 1 ∧ mkList trk (List.replicate j.toNat xs).flatten st Q) := by
  show (∃ a, some xs = some a ∧ -(lim : Int) ≤ j ∧ j < lim ∧ a.length ≤ 1 ∧ mkList trk (List.replicate j.toNat a).flatten st Q) = _
  simp only [Option.some.injEq, exists_eq_left']
theorem x_neg : wUn .USub (.int i) st Q = Q (.int (-i)) st := rfl
theorem x_not {b : Bool} : wUn .Not (.bool b) st Q = Q (.bool (!b)) st := by
  show (∃ c, some b = some c ∧ Q (.bool (!c)) st) = _
  simp only [Option.some.injEq, exists_eq_left']
theorem x_lt : wCmp1 .Lt (.int i) (.int j) st K = K (decide (i < j)) := rfl
theorem x_le : wCmp1 .LtE (.int i) (.int j) st K = K (decide (i ≤ j)) := rfl
theorem x_gt : wCmp1 .Gt (.int i) (.int j) st K = K (decide (i > j)) := rfl
theorem x_ge : wCmp1 .GtE (.int i) (.int j) st K = K (decide (i ≥ j)) := rfl
theorem x_eq : wCmp1 .Eq (.int i) (.int j) st K = K (i == j) := rfl
theorem x_ne : wCmp1 .NotEq (.int i) (.int j) st K = K (!(i == j)) := rfl
theorem x_eqS {a b : Str} : wCmp1 .Eq (.str a) (.str b) st K = K (a == b) := rfl
theorem x_neS {a b : Str} : wCmp1 .NotEq (.str a) (.str b) st K = K (!(a == b)) := rfl
theorem tr_bool {b : Bool} : truth (.bool b) = some b := rfl
theorem mk_f {ds : List D} : mkList false ds st Q = (ds.length ≤ lim ∧ Q (.list ds) st) := rfl
theorem mk_t {ds : List D} : mkList true ds st Q = (ds.length ≤ lim ∧ Q (.loc st.hi) (st.alloc (.list ds))) := by unfold mkList; rw [if_pos rfl]
theorem sa_af : stopsAnd .And false = true := rfl
theorem sa_at : stopsAnd .And true = false := rfl
theorem sa_of : stopsAnd .Or false = false := rfl
theorem sa_ot : stopsAnd .Or true = true := rfl
theorem it_list {ds : List D} {KI : List D → (Nat → Bool) → Prop} : wIterD (.list ds) st KI = KI ds (fun _ => false) := by
  show (∃ xs, some ds = some xs ∧ KI xs fun _ => false) = _
  simp only [Option.some.injEq, exists_eq_left']
theorem it_tup {ds : List D} {KI : List D → (Nat → Bool) → Prop} : wIterD (.tup ds) st KI = KI ds (fun _ => false) := by
  show (∃ xs, some ds = some xs ∧ KI xs fun _ => false) = _
  simp only [Option.some.injEq, exists_eq_left']
theorem it_loc {k : Nat} {ds : List D} (h : st.cs k = some (.list ds)) {KI : List D → (Nat → Bool) → Prop} : wIterD (.loc k) st KI = KI ds (fun q => q == k) := by
  show (∃ xs, st.cs k = some (.list xs) ∧ KI xs fun q => q == k) = _
  rw [h]; simp only [Option.some.injEq, Cell.list.injEq, exists_eq_left']
theorem ic_zip {t : Expr} {a b : D} {xs ys : List D} (ha : seqD st a = some xs) (hb : seqD st b = some ys) {KI : List D → (Nat → Bool) → Prop} : iterCall t "zip" [a, b] st KI = (isTupE t = true ∧ xs.length ≤ lim ∧ ys.length ≤ lim ∧ KI (zipL xs ys) (fun k => pinOf a k || pinOf b k)) := by
  unfold iterCall; rw [if_pos rfl]
  refine propext (Iff.intro ?_ ?_)
  rotate_left
  · rintro ⟨h, h3⟩; exact ⟨h, a, b, xs, ys, rfl, ha, hb, h3⟩
  rintro ⟨h, a', b', xs', ys', e, h1, h2, h3⟩
  cases e; rw [ha] at h1; rw [hb] at h2; cases h1; cases h2; exact ⟨h, h3⟩
theorem ic_enum {t : Expr} {a : D} {xs : List D} (ha : lstD st a = some xs) {KI : List D → (Nat → Bool) → Prop} : iterCall t "enumerate" [a] st KI = (isTupE t = true ∧ xs.length ≤ lim ∧ KI (enumL xs) (pinOf a)) := by
  unfold iterCall; rw [if_neg (by decide +kernel), if_pos rfl]
  refine propext (Iff.intro ?_ ?_)
  rotate_left
  · rintro ⟨h, h3⟩; exact ⟨h, a, xs, rfl, ha, h3⟩
  rintro ⟨h, a', xs', e, h1, h3⟩
  cases e; rw [ha] at h1; cases h1; exact ⟨h, h3⟩
theorem ic_range1 {t : Expr} {KI : List D → (Nat → Bool) → Prop} : iterCall t "range" [.int i] st KI = (i ≤ lim ∧ -lim ≤ i ∧ KI (rangeL 0 i) fun _ => false) := by
  unfold iterCall; rw [if_neg (by decide +kernel), if_neg (by decide +kernel), if_pos rfl]
  refine propext ⟨fun h => ?_, fun h => .inl ⟨i, rfl, h⟩⟩
  rcases h with ⟨i', e, h⟩ | ⟨i', j', e, h⟩ <;> cases e; exact h
theorem ic_range2 {t : Expr} {KI : List D → (Nat → Bool) → Prop} : iterCall t "range" [.int i, .int j] st KI = (i ≤ lim ∧ -lim ≤ i ∧ j ≤ lim ∧ -lim ≤ j ∧ KI (rangeL i j) fun _ => false) := by
  unfold iterCall; rw [if_neg (by decide +kernel), if_neg (by decide +kernel), if_pos rfl]
  refine propext ⟨fun h => ?_, fun h => .inr ⟨i, j, rfl, h⟩⟩
  rcases h with ⟨i', e, h⟩ | ⟨i', j', e, h⟩ <;> cases e; exact h
end
theorem bo_oa : (BoolOp.Or == BoolOp.And) = false := rfl
theorem p_tup {k : List D} : pinOf (.tup k) = fun _ => false := rfl
theorem blt1 : isBltP "len" = True := eq_true (.inl rfl)
theorem blt2 : isBltP "isinstance" = True := eq_true (.inr (.inl rfl))
theorem blt3 : isBltP "list" = True := eq_true (.inr (.inr (.inl rfl)))
theorem blt4 : isBltP "tuple" = True := eq_true (.inr (.inr (.inr (.inl rfl))))
theorem blt5 : isBltP "min" = True := eq_true (.inr (.inr (.inr (.inr (.inl rfl)))))
theorem blt6 : isBltP "max" = True := eq_true (.inr (.inr (.inr (.inr (.inr (.inl rfl))))))
theorem me_append : isMeth1 "append" = True := eq_true (.inl rfl)
theorem me_extend : isMeth1 "extend" = True := eq_true (.inr (.inl rfl))
theorem me_index : isMeth1 "index" = True := eq_true (.inr (.inr rfl))
theorem ns_cons {e : Expr} {r : List Expr} : noStars (e :: r) = (!isStarE e && noStars r) := rfl
theorem str_name {a b} : isStarE (.Name a b) = false := rfl
theorem str_const {a b c} : isStarE (.Constant a b c) = false := rfl
theorem str_bin {a b c d} : isStarE (.BinOp a b c d) = false := rfl
theorem str_un {a b c} : isStarE (.UnaryOp a b c) = false := rfl
theorem str_call {a b c d} : isStarE (.Call a b c d) = false := rfl
theorem str_sub {a b c} : isStarE (.Subscript a b c) = false := rfl
theorem str_comp {a b c d} : isStarE (.ListComp a b c d) = false := rfl
theorem str_list {a b} : isStarE (.List a b) = false := rfl
theorem str_tup {a b c} : isStarE (.Tuple a b c) = false := rfl
theorem str_bool {a b c} : isStarE (.BoolOp a b c) = false := rfl
theorem ce_name {a b} : isCallE (.Name a b) = false := rfl
theorem ce_sub {a b c} : isCallE (.Subscript a b c) = false := rfl
theorem ce_call {a b c d} : isCallE (.Call a b c d) = true := rfl
theorem te_name {a b} : isTupE (.Name a b) = false := rfl
theorem te_sub {a b c} : isTupE (.Subscript a b c) = false := rfl
theorem te_call {a b c d} : isTupE (.Call a b c d) = false := rfl
theorem te_tup {a b c} : isTupE (.Tuple a b c) = true := rfl
theorem se_name {a b} : isSliceE (.Name a b) = false := rfl
theorem se_bin {a b c d} : isSliceE (.BinOp a b c d) = false := rfl
theorem lim0 : (0 ≤ lim) = True := eq_true (by decide)
theorem lim1 : (1 ≤ lim) = True := eq_true (by decide)
theorem lim2 : (2 ≤ lim) = True := eq_true (by decide)
theorem lim3 : (3 ≤ lim) = True := eq_true (by decide)
theorem lim4 : (4 ≤ lim) = True := eq_true (by decide)
theorem lim5 : (5 ≤ lim) = True := eq_true (by decide)
theorem ns_nil : noStars [] = true := rfl
theorem fn_intro {Γ : Ctx} {mt : Str → Bool} {n : Nat} {kd : Kd} {params : List Str} {body : List Stmt} {ds : List D} {st : St} {Q : D → St → Prop} (h : ds.length = params.length)
    (h1 : wSs Γ mt n kd body (bindM params ds) st (finK Q st)) : wFn Γ mt n kd params body ds st Q := ⟨h, h1⟩
noncomputable def bodyOf (p : Program) (i : Nat) : List Stmt := match p.main.body[i]? with
  | some (.FunctionDef _ _ b _ _ _ _ _ _ _) => b
  | _ => []
noncomputable def kdOf (p : Program) (i : Nat) : Kd := match p.main.body[i]? with
  | some (.FunctionDef _ _ _ _ _ _ s _ _ _) => fun x => s.names.lookup x
  | _ => fun _ => none
theorem bind_nil : bindM [] [] = fun _ => none := rfl
theorem bind_cons {x : Str} {xs : List Str} {d : D} {ds : List D} : bindM (x :: xs) (d :: ds) = upd (bindM xs ds) x d := rfl

section
variable {kd : Kd} {m : Loc} {KK : Loc → Prop}
theorem tg_two {x y : Str} {p q r : Pos} {c : Nat} {a b : D} : wTarget kd (.Tuple [.Name x p, .Name y q] c r) (.tup [a, b]) m KK = (isOwn kd x = true ∧ isOwn kd y = true ∧ KK (upd (upd m x a) y b)) := by
  refine propext (Iff.intro ?_ ?_)
  rotate_left
  · rintro ⟨h1, h2, h3⟩; exact ⟨[x, y], [a, b], rfl, by simp only [List.all, h1, h2, Bool.and_self], rfl, rfl, h3⟩
  rintro ⟨xs, ds, h1, h2, h3, h4, h5⟩
  cases h1; cases h3
  simp only [List.all, Bool.and_true, Bool.and_eq_true] at h2
  exact ⟨h2.1, h2.2, h5⟩
end
theorem wFor_inv {step : D → Loc → St → (Fl → Loc → St → Prop) → Prop} {Q : Fl → Loc → St → Prop} (I : Nat → Loc → St → Prop) : ∀ (items pre : List D) {m : Loc} {st : St}, I pre.length m st →
    (∀ i d m st K, (pre ++ items)[i]? = some d → I i m st → (∀ m' st', I (i + 1) m' st' → K .next m' st') → step d m st K) → (∀ m st, I (pre ++ items).length m st → Q .next m st) → wFor step items m st Q
  | [], pre, m, st, h0, _, hQ => hQ m st (by simpa using h0)
  | d :: ds, pre, m, st, h0, hs, hQ => by
    refine hs pre.length d m st _ (by simp) h0 fun m' st' h1 => ?_
    refine wFor_inv I ds (pre ++ [d]) (by simpa using h1) (fun i d m st K hi => hs i d m st K (by simpa using hi)) fun m st h => hQ m st (by simpa using h)

theorem wItem_lit {d : D} {k : Int} {st : St} {Q : D → St → Prop} (h0 : 0 ≤ k) (h1 : k < 1000000) : wItem d (.int k) st Q = ∃ xs, seqD st d = some xs ∧ ∃ x, xs[k.toNat]? = some x ∧ Q x st := by
  have q : ¬ k < 0 := by omega
  refine propext ⟨fun h => ?_, fun h => ?_⟩
  · obtain ⟨_, _, xs, j, x, hx, _, hj, hg, hq⟩ := h
    refine ⟨xs, hx, x, ?_, hq⟩
    unfold seqIndex? at hj
    simp only [if_neg q] at hj
    split at hj
    · cases hj; exact hg
    · cases hj
  · obtain ⟨xs, hx, x, hg, hq⟩ := h
    have hl : k.toNat < xs.length := (List.getElem?_eq_some_iff.mp hg).1
    refine ⟨by omega, by omega, xs, k.toNat, x, hx, .inl h0, ?_, hg, hq⟩
    unfold seqIndex?
    simp only [if_neg q]
    rw [if_pos (by rw [Bool.and_eq_true]; exact ⟨decide_eq_true h0, decide_eq_true (by omega)⟩)]

theorem hide_back (st : St) (p : Nat → Bool) : (st.hide p).back st p = st := by
  obtain ⟨hi, cs⟩ := st
  simp only [St.hide, St.back, St.mk.injEq, true_and]
  funext k
  cases p k <;> rfl

noncomputable def dI (ns : List Int) : List D := ns.map .int
theorem dI_len (ns : List Int) : (dI ns).length = ns.length := by simp [dI]
noncomputable def Big (i : Int) : Prop := i.natAbs < 2 ^ 1000
theorem mulOk {i j : Int} (hi : Big i) (hj : Big j) : IntMulOk i j := IntMulOk.of_bits (Nat.le_trans (PyProof.Rows.intBits_le hi) (by decide)) (Nat.le_trans (PyProof.Rows.intBits_le hj) (by decide))
noncomputable def dot : List Int → List Int → Int
  | a :: as, b :: bs => a * b + dot as bs
  | _, _ => 0
theorem dot_take : ∀ (ns hs : List Int) (i : Nat) (a b : Int), ns[i]? = some a → hs[i]? = some b → dot (ns.take (i + 1)) (hs.take (i + 1)) = dot (ns.take i) (hs.take i) + a * b
  | n :: ns, h :: hs, 0, a, b, h1, h2 => by simp at h1 h2; subst h1; subst h2; simp [dot]
  | n :: ns, h :: hs, i + 1, a, b, h1, h2 => by
    have := dot_take ns hs i a b (by simpa using h1) (by simpa using h2)
    simp only [List.take_succ_cons, dot, this]; omega
  | [], _, _, _, _, h1, _ => by simp at h1
  | _ :: _, [], _, _, _, _, h2 => by simp at h2
theorem dot_min (ns hs : List Int) : dot (ns.take (min ns.length hs.length)) (hs.take (min ns.length hs.length)) = dot ns hs := by
  induction ns generalizing hs with
  | nil => simp [dot]
  | cons n ns ih =>
    cases hs with
    | nil => simp [dot]
    | cons h hs => simp only [List.length_cons, Nat.succ_min_succ, List.take_succ_cons, dot, ih]

theorem seqD_tup {st : St} {ds : List D} : seqD st (.tup ds) = some ds := rfl
theorem seqD_list {st : St} {ds : List D} : seqD st (.list ds) = some ds := rfl

theorem b_len {trk : Bool} {d : D} {st : St} {Q : D → St → Prop} : wBuiltin trk "len" [d] st Q = ∃ xs, seqD st d = some xs ∧ xs.length ≤ lim ∧ Q (.int xs.length) st := by
  unfold wBuiltin
  rw [if_pos rfl]
  refine propext (Iff.intro ?_ ?_)
  rotate_left
  · rintro ⟨xs, h⟩; exact ⟨d, xs, rfl, h⟩
  rintro ⟨d', xs, e, h⟩
  cases e; exact ⟨xs, h⟩
theorem b_isinstance {trk : Bool} {d : D} {T : String} {st : St} {Q : D → St → Prop} : wBuiltin trk "isinstance" [d, .val (.type T)] st Q = ∃ b, typeIs d T = some b ∧ Q (.bool b) st := by
  unfold wBuiltin
  rw [if_neg (by decide +kernel), if_pos rfl]
  refine propext (Iff.intro ?_ ?_)
  rotate_left
  · rintro ⟨b, h⟩; exact ⟨d, T, b, rfl, h⟩
  rintro ⟨d', T', b, e, h⟩
  cases e; exact ⟨b, h⟩
theorem b_list {trk : Bool} {d : D} {st : St} {Q : D → St → Prop} : wBuiltin trk "list" [d] st Q = ∃ xs, seqD st d = some xs ∧ mkList trk xs st Q := by
  unfold wBuiltin
  rw [if_neg (by decide +kernel), if_neg (by decide +kernel), if_pos rfl]
  refine propext (Iff.intro ?_ ?_)
  rotate_left
  · rintro ⟨xs, h⟩; exact ⟨d, xs, rfl, h⟩
  rintro ⟨d', xs, e, h⟩
  cases e; exact ⟨xs, h⟩
theorem b_tuple {trk : Bool} {d : D} {st : St} {Q : D → St → Prop} : wBuiltin trk "tuple" [d] st Q = ∃ xs, lstD st d = some xs ∧ xs.length ≤ lim ∧ Q (.tup xs) st := by
  unfold wBuiltin
  rw [if_neg (by decide +kernel), if_neg (by decide +kernel), if_neg (by decide +kernel), if_pos rfl]
  refine propext (Iff.intro ?_ ?_)
  rotate_left
  · rintro ⟨xs, h⟩; exact ⟨d, xs, rfl, h⟩
  rintro ⟨d', xs, e, h⟩
  cases e; exact ⟨xs, h⟩
theorem hide_false (st : St) : st.hide (fun _ => false) = st := rfl
theorem back_false (st st' : St) : st.back st' (fun _ => false) = st := rfl
theorem rangeN_get {n i : Nat} {d : D} (h : (rangeL 0 (n : Int))[i]? = some d) : i < n ∧ d = .int (i : Int) := by
  simp only [rangeL, Int.sub_zero, Int.toNat_natCast, List.getElem?_map, Option.map_eq_some_iff] at h
  obtain ⟨a, h1, rfl⟩ := h
  obtain ⟨h2, h3⟩ := List.getElem?_eq_some_iff.mp h1
  simp at h2 h3
  subst h3
  exact ⟨h2, by simp⟩
theorem rangeN_len (n : Nat) : (rangeL 0 (n : Int)).length = n := by simp [rangeL]
theorem wItem_nat {d : D} {i : Nat} {st : St} {Q : D → St → Prop} (h : i < 1000000) : wItem d (.int (i : Int)) st Q = ∃ xs, seqD st d = some xs ∧ ∃ x, xs[i]? = some x ∧ Q x st := by
  rw [wItem_lit (by omega) (by omega)]; simp
theorem dI_get {ns : List Int} {i : Nat} {a : Int} (h : ns[i]? = some a) : (dI ns)[i]? = some (.int a) := by simp [dI, h]
theorem getI {ns : List Int} {i : Nat} (h : i < ns.length) : ∃ a, ns[i]? = some a ∧ a ∈ ns := ⟨ns[i], by simp [h], by simp⟩

theorem ti_ii {k : Int} : typeIs (.int k) "int" = some true := rfl
theorem ti_ib {k : Int} : typeIs (.int k) "bool" = some false := by simp [typeIs]
theorem ti_tt {ds : List D} : typeIs (.tup ds) "tuple" = some true := by simp [typeIs]
theorem lstD_list {st : St} {ds : List D} : lstD st (.list ds) = some ds := rfl

theorem wComp_list {α : Type} {step : D → St → (Option D → St → Prop) → Prop} {Q : List D → St → Prop} (emb g : α → D) {st : St} : ∀ (l : List α) (acc : List D), (∀ a ∈ l, ∀ k, k (some (g a)) st → step (emb a) st k) → Q (acc ++ l.map g) st → wComp step (l.map emb) acc st Q
  | [], acc, _, hQ => by simpa [wComp] using hQ
  | a :: l, acc, hs, hQ => by
    refine hs a (.head _) _ ?_
    exact wComp_list emb g l (acc ++ [g a]) (fun b hb => hs b (.tail _ hb)) (by simpa using hQ)
theorem wComp_none {step : D → St → (Option D → St → Prop) → Prop} {Q : List D → St → Prop} {st : St} : ∀ (l : List D) (acc : List D), (∀ a ∈ l, ∀ k, k none st → step a st k) → Q acc st → wComp step l acc st Q
  | [], acc, _, hQ => hQ
  | a :: l, acc, hs, hQ => by
    refine hs a (.head _) _ ?_
    exact wComp_none l acc (fun b hb => hs b (.tail _ hb)) hQ


end Mine
end

section
set_option autoImplicit false
set_option linter.unusedVariables false
namespace Mine
open PySem

noncomputable def CallOK (prog : Program) (w : World) (h₀ : Heap) (k : Nat) (S : FSpec) (v : Value) : Prop :=
  (∃ a o fd, v = .ref a ∧ h₀.get? a = some o ∧ o.data = .func fd) ∧
  ∀ (A : Around) (W : Wd) (s : Shared) (ds : List D) (vs : List Value) (Q : D → St → Prop), AOk k A → Sim h₀ W s → RepAll W.R W.ρ ds vs → S ds W.st Q → OK prog w A h₀ noOwn (call v vs) W s (VP Q)

structure CtxOK (prog : Program) (w : World) (h₀ : Heap) (k : Nat) (Γ : Ctx) : Prop where
  ns : ∃ mg mb, h₀.Ns mainGlobals mg ∧ h₀.Ns builtinsNs mb ∧
    (∀ x d, Γ.gl x = some d → ∃ v, (mg x).or (mb x) = some v ∧ ∀ (R : Addr → Option Obj) (ρ : Nat → Option Addr), (∀ a o, h₀.get? a = some o → R a = some o) → Rep R ρ d v) ∧
    (∀ x S, Γ.fn x = some S → ∃ v, (mg x).or (mb x) = some v ∧ CallOK prog w h₀ k S v) ∧
    (∀ x v, Γ.fn x = none → bltV x = some v → mg x = none ∧ mb x = some v)

structure Snd (prog : Program) (w : World) (A : Around) (h₀ : Heap) (Γ : Ctx) (n : Nat) : Prop where
  e : ∀ trk kd e m Q own env W s, Sim h₀ W s → Fram own env kd m W s → wE Γ n trk kd e m W.st Q → OK prog w A h₀ noOwn (eval e env) W s (VP Q)
  es : ∀ trk kd es m Q own env W s pos, Sim h₀ W s → Fram own env kd m W s → wEs Γ n trk kd es m W.st Q → OK prog w A h₀ noOwn (spliced (backTo pos (starEach es env))) W s (VPs Q)
  opt : ∀ kd e m Q own env W s, Sim h₀ W s → Fram own env kd m W s → wOpt Γ n kd e m W.st Q → OK prog w A h₀ noOwn (valueOrNone (evalOpt e env)) W s (VP Q)
  bool : ∀ op kd es m Q own env W s pos, Sim h₀ W s → Fram own env kd m W s → wBool Γ n op kd es m W.st Q → OK prog w A h₀ noOwn (boolOp pos op (evalEach es env)) W s (VP Q)
  chV : ∀ kd a va ops rs m K own env W s pos, Sim h₀ W s → Fram own env kd m W s → Rep W.R W.ρ a va → wChain Γ n kd a ops rs m W.st K → OK prog w A h₀ noOwn (compareChain pos va ops (markedEach ops rs (evalEach rs env))) W s (fun v W' _ => ∃ b, v = .bool b ∧ K b W'.st)
  chT : ∀ kd a va ops rs m K own env W s pos, Sim h₀ W s → Fram own env kd m W s → Rep W.R W.ρ a va → wChain Γ n kd a ops rs m W.st K → OK prog w A h₀ noOwn (testChain pos va ops (markedEach ops rs (evalEach rs env))) W s (BP K)
  t : ∀ kd e m K own env W s, Sim h₀ W s → Fram own env kd m W s → wT Γ n kd e m W.st K → OK prog w A h₀ noOwn (isTrue e env (eval e env)) W s (BP K)
  all : ∀ op kd es m K own env W s, Sim h₀ W s → Fram own env kd m W s → wAll Γ n op kd es m W.st K → OK prog w A h₀ noOwn (allTrue op es env) W s (BP K)
  it : ∀ kd t it m K own own0 env W s, Sim h₀ W s → Fram own env kd m W s → OwnOK own0 s W → wIter Γ n kd t it m W.st K → (∀ x, foldedSetIterable it env x = pure x) ∧
    wpAny (model prog w) A (eval it env) (fun x s1 => wpAny (model prog w) A (pyIter x) (fun itv s2 => ∃ W2 items p, Step noOwn s W s2 W2 ∧ Sim h₀ W2 s2 ∧ IterOK prog w A t own0 itv items p s s2 W2 ∧ items.length ≤ 2 * lim ∧ K items p W2.st) E0 s1) E0 s

section
variable {prog : Program} {w : World} {A : Around} {h₀ : Heap} {Γ : Ctx} {k n : Nat}

theorem snd_zero : Snd prog w A h₀ Γ 0 where
  e := fun _ _ _ _ _ _ _ _ _ _ _ h => False.elim h
  es := fun _ _ _ _ _ _ _ _ _ _ _ _ h => False.elim h
  opt := fun _ _ _ _ _ _ _ _ _ _ h => False.elim h
  bool := fun _ _ _ _ _ _ _ _ _ _ _ _ h => False.elim h
  chV := fun _ _ _ _ _ _ _ _ _ _ _ _ _ _ _ h => False.elim h
  chT := fun _ _ _ _ _ _ _ _ _ _ _ _ _ _ _ h => False.elim h
  t := fun _ _ _ _ _ _ _ _ _ _ h => False.elim h
  all := fun _ _ _ _ _ _ _ _ _ _ _ h => False.elim h
  it := fun _ _ _ _ _ _ _ _ _ _ _ _ _ h => False.elim h

theorem dbg_ne {kd : Kd} {own : Addr → Prop} {env : Env} {m : Loc} {W : Wd} {s : Shared} (F : Fram own env kd m W s) {x : Str} (h : kd x ≠ none) : (x == ("__debug__" : Str)) = false := by
  cases q : x == ("__debug__" : Str) with
  | false => rfl
  | true => rw [beq_iff_eq.mp q] at h; exact absurd F.dbg.1 h

theorem ok_global {x : Str} {v : Value} {own : Addr → Prop} {env : Env} {kd : Kd} {m : Loc} {W : Wd} {s : Shared} {E : Value → Shared → Prop} {Q : Value → Shared → Prop} {mg mb : Str → Option Value} {p : Pos} (S : Sim h₀ W s) (F : Fram own env kd m W s) (hg : isGl kd x = true)
    (h1 : h₀.Ns mainGlobals mg) (h2 : h₀.Ns builtinsNs mb) (hv : (mg x).or (mb x) = some v) (h : Q v s) : wpAny (model prog w) A (eval (.Name x p) env) Q E s := by
  have hk : kd x = some .globalImplicit := beq_iff_eq.mp hg
  have up : ∀ b o, h₀.get? b = some o → s.heap.get? b = some o := fun b o e => S.frz b o (S.base b o e)
  refine wpAny_Name ?_ (dbg_ne F (by rw [hk]; exact fun z => nomatch z))
  rw [PyProof.Rows.loadName_read F.fn (F.kE x _ hk (by intro z; cases z))]
  unfold loadGlobal
  rw [F.gl, F.bi]
  refine wpAny_bind (wpAny_nsGet (h1.keeps up) ?_)
  cases q : mg x with
  | some u =>
    rw [q] at hv
    have : u = v := Option.some.inj hv
    subst this
    exact wpAny_pure h
  | none =>
    rw [q] at hv
    have hv' : mb x = some v := hv
    refine wpAny_bind (wpAny_nsGet (h2.keeps up) ?_)
    rw [hv']
    exact wpAny_pure h

theorem snd_es (H : Snd prog w A h₀ Γ n) : ∀ trk kd es m Q own env W s pos, Sim h₀ W s → Fram own env kd m W s → wEs Γ (n + 1) trk kd es m W.st Q → OK prog w A h₀ noOwn (spliced (backTo pos (starEach es env))) W s (VPs Q) := by
  intro trk kd es m Q own env W s pos S F h
  cases es with
  | nil => exact wpAny_items_nil ⟨W, Step.refl _ _, S, [], rfl, h⟩
  | cons e r =>
    rw [es_cons] at h
    refine wpAny_items_cons ?_ (star_cons (not_star h))
    refine wpAny_mono (H.e trk kd e m _ own env W s S F h) ?_ fun _ _ e => e
    rintro v s1 ⟨W1, x1, S1, d, rd, h1⟩
    refine wpAny_mono (H.es trk kd r m _ own env W1 s1 pos S1 (F.step0 S x1) h1) ?_ fun _ _ e => e
    rintro vs s2 ⟨W2, x2, S2, ds, rds, h2⟩
    exact ⟨W2, x1.trans S x2, S2, d :: ds, ⟨v, vs, rfl, x2.rep S1 rd, rds⟩, h2⟩

theorem snd_opt (H : Snd prog w A h₀ Γ n) : ∀ kd e m Q own env W s, Sim h₀ W s → Fram own env kd m W s → wOpt Γ (n + 1) kd e m W.st Q → OK prog w A h₀ noOwn (valueOrNone (evalOpt e env)) W s (VP Q) := by
  intro kd e m Q own env W s S F h
  cases e with
  | none => exact OK.pure S ⟨.none, rfl, h⟩
  | some e => exact H.e _ _ _ _ _ _ _ _ _ S F h

theorem snd_bool (H : Snd prog w A h₀ Γ n) : ∀ op kd es m Q own env W s pos, Sim h₀ W s → Fram own env kd m W s → wBool Γ (n + 1) op kd es m W.st Q → OK prog w A h₀ noOwn (boolOp pos op (evalEach es env)) W s (VP Q) := by
  intro op kd es m Q own env W s pos S F h
  cases es with
  | nil => exact False.elim h
  | cons x r =>
    cases r with
    | nil => exact H.e _ _ _ _ _ _ _ _ _ S F h
    | cons y r =>
      rw [b_two] at h
      show OK prog w A h₀ noOwn (eval x env >>= fun v => standAt pos >>= fun _ => holding [v] (truthy v) >>= fun t => match op, t with
        | .And, false | .Or, true => pure v
        | _, _ => boolOp pos op (evalEach (y :: r) env)) W s (VP Q)
      refine OK.bind S (H.e _ _ _ _ _ _ _ _ _ S F h) fun v W1 s1 x1 S1 ⟨d, rd, b, hb, h1⟩ => OK.stand ?_
      refine OK.bind S1 (OK.holding (ok_truthy (K := fun c st => c = b ∧ (if stopsAnd op b then Q d st else wBool Γ n op kd (y :: r) m st Q)) S1 rd hb ⟨rfl, h1⟩)) fun c W2 s2 x2 S2 h2 => ?_
      obtain ⟨rfl, h2⟩ := h2
      cases op <;> cases c <;> simp only [stopsAnd, if_true, Bool.false_eq_true, if_false] at h2
      · exact OK.pure S2 ⟨d, x2.rep S1 rd, h2⟩
      · exact H.bool _ _ _ _ _ _ _ _ _ _ S2 ((F.step0 S x1).step0 S1 x2) h2
      · exact H.bool _ _ _ _ _ _ _ _ _ _ S2 ((F.step0 S x1).step0 S1 x2) h2
      · exact OK.pure S2 ⟨d, x2.rep S1 rd, h2⟩

theorem marks_no {trk : Bool} {kd : Kd} {e : Expr} {m : Loc} {st : St} {Q : D → St → Prop} (op : CmpOp) (h : wE Γ n trk kd e m st Q) (t : Sem Value) : markedBehindIn op e t = t := by
  have : behindInMarks op e = false := by
    cases e with
    | Set a b c => cases n <;> exact False.elim h
    | _ => rfl
  unfold markedBehindIn
  rw [this]

theorem snd_chT (a1 : AOk k A) (H : Snd prog w A h₀ Γ n) : ∀ kd a va ops rs m K own env W s pos, Sim h₀ W s → Fram own env kd m W s → Rep W.R W.ρ a va → wChain Γ (n + 1) kd a ops rs m W.st K → OK prog w A h₀ noOwn (testChain pos va ops (markedEach ops rs (evalEach rs env))) W s (BP K) := by
  intro kd a va ops rs m K own env W s pos S F ra h
  cases ops with
  | nil => exact False.elim h
  | cons op ops =>
    cases rs with
    | nil => cases ops <;> exact False.elim h
    | cons r rs =>
      cases ops with
      | nil =>
        cases rs with
        | cons _ _ => exact False.elim h
        | nil =>
          rw [c_one] at h
          show OK prog w A h₀ noOwn (holding [va] (markedBehindIn op r (eval r env)) >>= fun rv => standAt pos >>= fun _ => operate [va, rv] (compareOp op va rv) >>= fun c => holding [c] (truthy c)) W s (BP K)
          rw [marks_no op h]
          refine OK.bind S (OK.holding (H.e _ _ _ _ _ _ _ _ _ S F h)) fun rv W1 s1 x1 S1 ⟨d, rd, h1⟩ => OK.stand ?_
          refine OK.bind S1 (OK.operate (ok_cmp a1 S1 (x1.rep S ra) rd h1)) fun c W2 s2 x2 S2 h2 => ?_
          obtain ⟨rfl, b, rfl, hk⟩ := h2
          exact OK.holding (ok_truthy (d := .bool b) (b := b) S2 rfl rfl hk)
      | cons o2 ops =>
        cases rs with
        | nil => exact False.elim h
        | cons r2 rs =>
          rw [c_two] at h
          show OK prog w A h₀ noOwn (holding [va] (eval r env) >>= fun rv => standAt pos >>= fun _ => holding [va, rv] (compareOp op va rv) >>= fun c => release [va, rv] [c] >>= fun _ => holding [c, rv] (truthy c) >>= fun b =>
            if b = true then testChain pos rv (o2 :: ops) (markedEach (o2 :: ops) (r2 :: rs) (evalEach (r2 :: rs) env)) else pure false) W s (BP K)
          refine OK.bind S (OK.holding (H.e _ _ _ _ _ _ _ _ _ S F h)) fun rv W1 s1 x1 S1 ⟨d, rd, h1⟩ => OK.stand ?_
          refine OK.bind S1 (OK.holding (ok_cmp a1 S1 (x1.rep S ra) rd h1)) fun c W2 s2 x2 S2 h2 => ?_
          obtain ⟨rfl, b, rfl, hk⟩ := h2
          refine wpAny_bind (wpAny_release ?_)
          refine OK.bind S2 (OK.holding (ok_truthy (K := fun c st => c = b ∧ (if b = true then wChain Γ n kd d (o2 :: ops) (r2 :: rs) m st K else K false st)) (d := .bool b) (b := b) S2 rfl rfl ⟨rfl, hk⟩)) fun c W3 s3 x3 S3 h3 => ?_
          obtain ⟨rfl, h3⟩ := h3
          refine OK.ite (fun q => ?_) fun q => ?_
          · rw [if_pos q] at h3
            exact H.chT _ _ _ _ _ _ _ _ _ _ _ _ S3 (((F.step0 S x1).step0 S1 x2).step0 S2 x3) (x3.rep S2 (x2.rep S1 rd)) h3
          · rw [if_neg q] at h3
            exact OK.pure S3 h3

theorem snd_chV (a1 : AOk k A) (H : Snd prog w A h₀ Γ n) : ∀ kd a va ops rs m K own env W s pos, Sim h₀ W s → Fram own env kd m W s → Rep W.R W.ρ a va → wChain Γ (n + 1) kd a ops rs m W.st K → OK prog w A h₀ noOwn (compareChain pos va ops (markedEach ops rs (evalEach rs env))) W s (fun v W' _ => ∃ b, v = .bool b ∧ K b W'.st) := by
  intro kd a va ops rs m K own env W s pos S F ra h
  cases ops with
  | nil => exact False.elim h
  | cons op ops =>
    cases rs with
    | nil => cases ops <;> exact False.elim h
    | cons r rs =>
      cases ops with
      | nil =>
        cases rs with
        | cons _ _ => exact False.elim h
        | nil =>
          rw [c_one] at h
          show OK prog w A h₀ noOwn (holding [va] (markedBehindIn op r (eval r env)) >>= fun rv => standAt pos >>= fun _ => operate [va, rv] (compareOp op va rv)) W s _
          rw [marks_no op h]
          refine OK.bind S (OK.holding (H.e _ _ _ _ _ _ _ _ _ S F h)) fun rv W1 s1 x1 S1 ⟨d, rd, h1⟩ => OK.stand ?_
          refine OK.mono (OK.operate (ok_cmp a1 S1 (x1.rep S ra) rd h1)) fun c W2 s2 x2 S2 h2 => ?_
          obtain ⟨rfl, b, rfl, hk⟩ := h2
          exact ⟨b, rfl, hk⟩
      | cons o2 ops =>
        cases rs with
        | nil => exact False.elim h
        | cons r2 rs =>
          rw [c_two] at h
          show OK prog w A h₀ noOwn (holding [va] (eval r env) >>= fun rv => standAt pos >>= fun _ => holding [va, rv] (compareOp op va rv) >>= fun c => release [va, rv] [c] >>= fun _ => holding [c, rv] (truthy c) >>= fun b =>
            if b = true then compareChain pos rv (o2 :: ops) (markedEach (o2 :: ops) (r2 :: rs) (evalEach (r2 :: rs) env)) else pure c) W s _
          refine OK.bind S (OK.holding (H.e _ _ _ _ _ _ _ _ _ S F h)) fun rv W1 s1 x1 S1 ⟨d, rd, h1⟩ => OK.stand ?_
          refine OK.bind S1 (OK.holding (ok_cmp a1 S1 (x1.rep S ra) rd h1)) fun c W2 s2 x2 S2 h2 => ?_
          obtain ⟨rfl, b, rfl, hk⟩ := h2
          refine wpAny_bind (wpAny_release ?_)
          refine OK.bind S2 (OK.holding (ok_truthy (K := fun c st => c = b ∧ (if b = true then wChain Γ n kd d (o2 :: ops) (r2 :: rs) m st K else K false st)) (d := .bool b) (b := b) S2 rfl rfl ⟨rfl, hk⟩)) fun c W3 s3 x3 S3 h3 => ?_
          obtain ⟨rfl, h3⟩ := h3
          refine OK.ite (fun q => ?_) fun q => ?_
          · rw [if_pos q] at h3
            exact H.chV _ _ _ _ _ _ _ _ _ _ _ _ S3 (((F.step0 S x1).step0 S1 x2).step0 S2 x3) (x3.rep S2 (x2.rep S1 rd)) h3
          · rw [if_neg q] at h3
            refine OK.pure S3 ⟨_, rfl, ?_⟩
            have : c = false := by cases c <;> simp at q ⊢
            rw [this]; exact h3

theorem snd_all (H : Snd prog w A h₀ Γ n) : ∀ op kd es m K own env W s, Sim h₀ W s → Fram own env kd m W s → wAll Γ (n + 1) op kd es m W.st K → OK prog w A h₀ noOwn (allTrue op es env) W s (BP K) := by
  intro op kd es m K own env W s S F h
  cases es with
  | nil => exact OK.pure S h
  | cons x r =>
    rw [a_cons] at h
    rw [arm_allTrue_cons]
    refine OK.bind S (H.t _ _ _ _ _ _ _ _ S F h) fun b W1 s1 x1 S1 h1 => ?_
    have h1' : if stopsAnd op b = true then K b W1.st else wAll Γ n op kd r m W1.st K := h1
    cases op <;> cases b <;> simp only [stopsAnd, if_true, Bool.false_eq_true, if_false] at h1'
    · exact OK.pure S1 h1'
    · exact H.all _ _ _ _ _ _ _ _ _ S1 (F.step0 S x1) h1'
    · exact H.all _ _ _ _ _ _ _ _ _ S1 (F.step0 S x1) h1'
    · exact OK.pure S1 h1'

theorem snd_plain (H : Snd prog w A h₀ Γ n) {kd : Kd} {e : Expr} {m : Loc} {K : Bool → St → Prop} {own : Addr → Prop} {env : Env} {W : Wd} {s : Shared} (S : Sim h₀ W s) (F : Fram own env kd m W s)
    (h : wE Γ n false kd e m W.st fun d st1 => ∃ b, truth d = some b ∧ K b st1) : OK prog w A h₀ noOwn (eval e env >>= fun v => standAt e.pos >>= fun _ => holding [v] (truthy v)) W s (BP K) := by
  refine OK.bind S (H.e _ _ _ _ _ _ _ _ _ S F h) fun v W1 s1 x1 S1 ⟨d, rd, b, hb, h1⟩ => OK.stand (OK.holding (ok_truthy S1 rd hb h1))

theorem snd_t (H : Snd prog w A h₀ Γ n) : ∀ kd e m K own env W s, Sim h₀ W s → Fram own env kd m W s → wT Γ (n + 1) kd e m W.st K → OK prog w A h₀ noOwn (isTrue e env (eval e env)) W s (BP K) := by
  intro kd e m K own env W s S F h
  cases e with
  | UnaryOp op x p =>
    cases op with
    | Not =>
      rw [t_not] at h
      rw [arm_isTrue_UnaryOp]
      exact OK.bind S (H.t _ _ _ _ _ _ _ _ S F h) fun b W1 s1 x1 S1 h1 => OK.pure S1 h1
    | _ => exact snd_plain H S F h
  | BoolOp op es p => rw [t_bool] at h; rw [arm_isTrue_BoolOp]; exact H.all _ _ _ _ _ _ _ _ _ S F h
  | IfExp => exact False.elim h
  | Compare l ops rs p =>
    rw [t_cmp] at h
    rw [arm_isTrue_Compare]
    exact OK.bind S (H.e _ _ _ _ _ _ _ _ _ S F h) fun va W1 s1 x1 S1 ⟨d, rd, h1⟩ => H.chT _ _ _ _ _ _ _ _ _ _ _ _ S1 (F.step0 S x1) rd h1
  | _ => exact snd_plain H S F h
end
end Mine
end

section
set_option autoImplicit false
set_option linter.unusedVariables false
namespace Mine
open PySem

section
variable {prog : Program} {w : World} {A : Around} {h₀ : Heap} {Γ : Ctx} {k n : Nat}

theorem star_of {e : Expr} (h : (!isStarE e) = true) : ∀ x p, e ≠ .Starred x p := by rintro x p rfl; cases h

theorem plain_args {env : Env} {pos : Pos} : ∀ {es : List Expr}, noStars es = true → (backTo pos (starEach es env)).any (·.1) = false
  | [], _ => rfl
  | e :: r, h => by
    unfold noStars at h
    rw [List.all_cons, Bool.and_eq_true] at h
    rw [back_cons (star_of h.1), List.any_cons, plain_args (es := r) h.2]; rfl

theorem ok_args (H : Snd prog w A h₀ Γ n) {kd : Kd} {es : List Expr} {m : Loc} {Q' : List D → St → Prop} {own : Addr → Prop} {env : Env} {W : Wd} {s : Shared} {f : Value} {pos : Pos} {Q : Args → Shared → Prop}
    (hs : noStars es = true) (S : Sim h₀ W s) (F : Fram own env kd m W s) (h : wEs Γ n false kd es m W.st Q')
    (hQ : ∀ vs s1, Fin' h₀ noOwn s W (VPs Q') vs s1 → Q ⟨vs, []⟩ s1) : wpAny (model prog w) A (evalArgs f true (backTo pos (starEach es env)) []) Q E0 s := by
  cases es with
  | nil =>
    cases n with
    | zero => exact False.elim h
    | succ n => exact PySem.evalArgs_none (hQ [] s ⟨W, Step.refl _ _, S, [], rfl, h⟩)
  | cons e r =>
    have hs' := hs
    unfold noStars at hs'
    rw [List.all_cons, Bool.and_eq_true] at hs'
    have hh := H.es _ _ _ _ _ _ _ _ _ pos S F h
    unfold OK at hh
    rw [back_cons (star_of hs'.1)] at hh ⊢
    exact Calls.evalArgs_plain (wpAny_mono hh (fun vs s1 h1 => hQ vs s1 h1) fun _ _ e => e)

noncomputable def FvOK (h₀ : Heap) (v : Value) : Prop := (∃ a o fd, v = .ref a ∧ h₀.get? a = some o ∧ o.data = .func fd) ∨ (∃ T, v = .type T) ∨ ∃ id, v = .builtin id

theorem ok_call (H : Snd prog w A h₀ Γ n) {kd : Kd} {es : List Expr} {x : Str} {m : Loc} {Q' : List D → St → Prop} {own : Addr → Prop} {env : Env} {W : Wd} {s : Shared} {fv : Value} {p pos : Pos} {Q : Value → Shared → Prop} {mg mb : Str → Option Value}
    (hs : noStars es = true) (S : Sim h₀ W s) (F : Fram own env kd m W s) (hg : isGl kd x = true) (h1 : h₀.Ns mainGlobals mg) (h2 : h₀.Ns builtinsNs mb) (hv : (mg x).or (mb x) = some fv) (hfv : FvOK h₀ fv)
    (h : wEs Γ n false kd es m W.st Q')
    (hk : ∀ vs ds W1 s1, Step noOwn s W s1 W1 → Sim h₀ W1 s1 → RepAll W1.R W1.ρ ds vs → Q' ds W1.st → wpAny (model prog w) A (call fv vs) Q E0 s1) :
    wpAny (model prog w) A (eval (.Call (.Name x p) es [] pos) env) Q E0 s := by
  rw [arm_eval_Call_Name']
  refine wpAny_bind (ok_global S F hg h1 h2 hv ?_)
  show wpAny _ _ (callWith pos fv [] (backTo pos (starEach es env)) []) _ _ _
  have fin : ∀ vs s1, Fin' h₀ noOwn s W (VPs Q') vs s1 → wpAny (model prog w) A (call fv vs) Q E0 s1 := fun vs s1 ⟨W1, x1, S1, ds, rds, q⟩ => hk vs ds W1 s1 x1 S1 rds q
  rcases hfv with ⟨a, o, fd, rfl, ho, hd⟩ | ⟨T, rfl⟩ | ⟨id, rfl⟩
  · refine Calls.callWith_function (o := o) (fd := fd) (ok_args H hs S F h fun vs s1 q => ⟨⟨?_, hd⟩, fin vs s1 q⟩)
    obtain ⟨W1, _, S1, _⟩ := q
    exact S1.frz _ _ (S1.base _ _ ho)
  · exact PySem.callWith_type (plain_args hs) (ok_args H hs S F h fun vs s1 q => fin vs s1 q)
  · exact Calls.callWith_builtin (plain_args hs) (ok_args H hs S F h fun vs s1 q => fin vs s1 q)

theorem iterD_inv {d : D} {st : St} {K : List D → (Nat → Bool) → Prop} (h : wIterD d st K) : ∃ xs, seqD st d = some xs ∧ K xs (pinOf d) := by
  cases d with
  | loc n => obtain ⟨xs, hc, hk⟩ := h; exact ⟨xs, by simp only [seqD, hc], hk⟩
  | _ => exact h

theorem it_val {kd : Kd} {t : Expr} {K : List D → (Nat → Bool) → St → Prop} {own0 : Addr → Prop} {W W1 : Wd} {s s1 : Shared} {d : D} {v : Value} (a1 : AOk k A) (S : Sim h₀ W s) (O : OwnOK own0 s W) (x1 : Step noOwn s W s1 W1) (S1 : Sim h₀ W1 s1)
    (rd : Rep W1.R W1.ρ d v) (h : wIterD d W1.st fun xs p => xs.length ≤ lim ∧ K xs p W1.st) :
    wpAny (model prog w) A (pyIter v) (fun itv s2 => ∃ W2 items p, Step noOwn s W s2 W2 ∧ Sim h₀ W2 s2 ∧ IterOK prog w A t own0 itv items p s s2 W2 ∧ items.length ≤ 2 * lim ∧ K items p W2.st) E0 s1 := by
  obtain ⟨xs, hx, hl, hk⟩ := iterD_inv h
  refine wpAny_mono (iter_seq (target := t) (own := own0) a1 S1 x1 (O.at x1) rd hx) (fun itv s2 h2 => ?_) fun _ _ e => e
  obtain ⟨W2, x2, S2, rfl, I⟩ := h2
  exact ⟨_, xs, _, x1.trans S x2, S2, I, by omega, hk⟩

theorem len_range {i j : Int} (h1 : i ≤ lim) (h2 : -lim ≤ i) (h3 : j ≤ lim) (h4 : -lim ≤ j) : (rangeL i j).length ≤ 2 * lim := by
  rw [range_len]; omega

theorem snd_it (a1 : AOk k A) (C : CtxOK prog w h₀ k Γ) (H : Snd prog w A h₀ Γ n) : ∀ kd t it m K own own0 env W s, Sim h₀ W s → Fram own env kd m W s → OwnOK own0 s W → wIter Γ (n + 1) kd t it m W.st K → (∀ x, foldedSetIterable it env x = pure x) ∧
    wpAny (model prog w) A (eval it env) (fun x s1 => wpAny (model prog w) A (pyIter x) (fun itv s2 => ∃ W2 items p, Step noOwn s W s2 W2 ∧ Sim h₀ W2 s2 ∧ IterOK prog w A t own0 itv items p s s2 W2 ∧ items.length ≤ 2 * lim ∧ K items p W2.st) E0 s1) E0 s := by
  intro kd t it m K own own0 env W s S F O h
  have gen : wE Γ n false kd it m W.st (fun d st1 => wIterD d st1 fun xs p => xs.length ≤ lim ∧ K xs p st1) → wpAny (model prog w) A (eval it env) (fun x s1 => wpAny (model prog w) A (pyIter x) (fun itv s2 => ∃ W2 items p, Step noOwn s W s2 W2 ∧ Sim h₀ W2 s2 ∧ IterOK prog w A t own0 itv items p s s2 W2 ∧ items.length ≤ 2 * lim ∧ K items p W2.st) E0 s1) E0 s := fun h => by
    refine wpAny_mono (H.e _ _ _ _ _ _ _ _ _ S F h) ?_ fun _ _ e => e
    rintro v s1 ⟨W1, x1, S1, d, rd, h1⟩
    exact it_val (kd := kd) a1 S O x1 S1 rd h1
  obtain ⟨mg, mb, hmg, hmb, hgl, hfn, hbl⟩ := C.ns
  have main : ∀ f p args pos, it = .Call (.Name f p) args [] pos → (if f = "zip" ∨ f = "range" ∨ f = "enumerate" then isGl kd f = true ∧ noStars args = true ∧ Γ.fn f = none ∧ wEs Γ n false kd args m W.st (fun ds st1 => iterCall t f ds st1 fun xs p => K xs p st1)
        else wE Γ n false kd it m W.st fun d st1 => wIterD d st1 fun xs p => xs.length ≤ lim ∧ K xs p st1) → wpAny (model prog w) A (eval it env) (fun x s1 => wpAny (model prog w) A (pyIter x) (fun itv s2 => ∃ W2 items p, Step noOwn s W s2 W2 ∧ Sim h₀ W2 s2 ∧ IterOK prog w A t own0 itv items p s s2 W2 ∧ items.length ≤ 2 * lim ∧ K items p W2.st) E0 s1) E0 s := by
    clear h
    intro f p args pos hit h
    by_cases hfn : (f = "zip" ∨ f = "range" ∨ f = "enumerate")
    · rw [if_pos hfn] at h
      subst hit
      obtain ⟨hg, hns, hf, h⟩ := h
      by_cases e : f = "zip"
      · subst e
        obtain ⟨g1, g2⟩ := hbl _ (.type "zip") hf (by decide +kernel)
        refine ok_call (fv := .type "zip") H hns S F hg hmg hmb (by rw [g1, g2]; rfl) (.inr (.inl ⟨_, rfl⟩)) h fun vs ds W1 s1 x1 S1 rds q => ?_
        have q' : iterCall t "zip" ds W1.st fun xs p => K xs p W1.st := q
        unfold iterCall at q'
        rw [if_pos rfl] at q'
        obtain ⟨ht, a, b, xs, ys, rfl, hx, hy, hlx, hly, hk⟩ := q'
        obtain ⟨va, vb, rfl, ra, rb⟩ := reps2 rds
        refine wpAny_mono (iter_zip (target := t) (own := own0) a1 S1 x1 (O.at x1) ht ra hx rb hy) ?_ fun _ _ e => e
        rintro z s2 ⟨W2, x2, S2, e2, h2⟩
        subst e2
        refine wpAny_mono h2 ?_ fun _ _ e => e
        rintro itv s3 ⟨W3, x3, S3, e3, I⟩
        subst e3
        refine ⟨_, _, _, (x1.trans S x2).trans S x3, S3, I, ?_, hk⟩
        simp only [zipL, List.length_map, List.length_zip]
        omega
      by_cases e' : f = "range"
      · subst e'
        obtain ⟨g1, g2⟩ := hbl _ (.type "range") hf (by decide +kernel)
        refine ok_call (fv := .type "range") H hns S F hg hmg hmb (by rw [g1, g2]; rfl) (.inr (.inl ⟨_, rfl⟩)) h fun vs ds W1 s1 x1 S1 rds q => ?_
        have q' : iterCall t "range" ds W1.st fun xs p => K xs p W1.st := q
        unfold iterCall at q'
        rw [if_neg (by decide +kernel), if_neg (by decide +kernel), if_pos rfl] at q'
        have l0 : (0 : Int) ≤ lim := by decide
        have l1 : -(lim : Int) ≤ 0 := by decide
        rcases q' with ⟨i, rfl, h1, h2, hk⟩ | ⟨i, j, rfl, h1, h2, h3, h4, hk⟩
        · obtain ⟨va, rfl, ⟨t', rfl⟩⟩ := reps1 rds
          refine call_range_1 ?_
          obtain ⟨st, sm⟩ := S1.grow (own := noOwn) (tk := s1.toks + 1 + 1) (h' := s1.heap.push { cls := .type "range", data := .fields #[.int 0 s1.toks, .int i t', .int 1 (s1.toks + 1)] }) (fun b o e => Heap.get?_push_of_some _ e)
          have x2 := x1.trans S st
          refine wpAny_mono (iter_range (target := t) (own := own0) (a := 0) (b := i) a1 sm x2 (O.at x2) l0 l1 h1 h2 (Heap.get?_push_size _ rfl)) ?_ fun _ _ e => e
          rintro itv s3 ⟨W3, x3, S3, e3, I⟩
          subst e3
          exact ⟨_, _, _, x2.trans S x3, S3, I, len_range l0 l1 h1 h2, hk⟩
        · obtain ⟨va, vb, rfl, ⟨t', rfl⟩, ⟨u', rfl⟩⟩ := reps2 rds
          refine call_range_2 ?_
          obtain ⟨st, sm⟩ := S1.grow (own := noOwn) (tk := s1.toks + 1) (h' := s1.heap.push { cls := .type "range", data := .fields #[.int i t', .int j u', .int 1 s1.toks] }) (fun b o e => Heap.get?_push_of_some _ e)
          have x2 := x1.trans S st
          refine wpAny_mono (iter_range (target := t) (own := own0) (a := i) (b := j) a1 sm x2 (O.at x2) h1 h2 h3 h4 (Heap.get?_push_size _ rfl)) ?_ fun _ _ e => e
          rintro itv s3 ⟨W3, x3, S3, e3, I⟩
          subst e3
          exact ⟨_, _, _, x2.trans S x3, S3, I, len_range h1 h2 h3 h4, hk⟩
      · have e3 : f = "enumerate" := by
          rcases hfn with q | q | q
          · exact absurd q e
          · exact absurd q e'
          · exact q
        subst e3
        obtain ⟨g1, g2⟩ := hbl _ (.type "enumerate") hf (by decide +kernel)
        refine ok_call (fv := .type "enumerate") H hns S F hg hmg hmb (by rw [g1, g2]; rfl) (.inr (.inl ⟨_, rfl⟩)) h fun vs ds W1 s1 x1 S1 rds q => ?_
        have q' : iterCall t "enumerate" ds W1.st fun xs p => K xs p W1.st := q
        unfold iterCall at q'
        rw [if_neg (by decide +kernel), if_pos rfl] at q'
        obtain ⟨ht, a, xs, rfl, hx, hlx, hk⟩ := q'
        obtain ⟨va, rfl, ra⟩ := reps1 rds
        refine wpAny_mono (iter_enum (target := t) (own := own0) a1 S1 x1 (O.at x1) ht ra hx) ?_ fun _ _ e => e
        rintro z s2 ⟨W2, x2, S2, e2, h2⟩
        subst e2
        refine wpAny_mono h2 ?_ fun _ _ e => e
        rintro itv s3 ⟨W3, x3, S3, e3, I⟩
        subst e3
        refine ⟨_, _, _, (x1.trans S x2).trans S x3, S3, I, ?_, hk⟩
        simp only [enumL, List.length_map, List.length_zipIdx]
        omega
    · rw [if_neg hfn] at h; exact gen h
  cases it with
  | Set => exact False.elim h
  | Call f args kws pos =>
    refine ⟨fun _ => rfl, ?_⟩
    cases f with
    | Name x p =>
      cases kws with
      | nil => exact main x p args pos rfl h
      | cons _ _ => exact gen h
    | _ => exact gen h
  | _ => exact ⟨fun _ => rfl, by exact gen h⟩
end
end Mine
end

section
set_option autoImplicit false
set_option linter.unusedVariables false
namespace Mine
open PySem

section
variable {prog : Program} {w : World} {A : Around} {h₀ : Heap} {Γ : Ctx} {k n : Nat}

theorem part_is {R : Addr → Option Obj} {ρ : Nat → Option Addr} {d : D} {v : Value} {o : Option Int} (h : part d = some o) (r : Rep R ρ d v) : IsPart v o := by
  cases d with
  | none => have e : v = .none := r; subst e; cases h; exact .none
  | int i => obtain ⟨t, rfl⟩ := r; cases h; exact .int i t
  | _ => simp [part] at h

theorem pick_arr (vs : List Value) (lo hi sp : Option Int) : slicePick vs.toArray lo hi sp = (pickL vs lo hi sp).toArray := by
  unfold slicePick pickL
  simp

theorem adjust_upto (b n : Nat) (hb : b ≤ n) : Builtin.Slice.sliceAdjust none (some (b : Int)) 1 (n : Int) = ((0 : Int), (b : Int)) := by
  unfold Builtin.Slice.sliceAdjust
  have h1 : ¬ ((1 : Int) < 0) := by omega
  have h2 : ¬ ((b : Int) < 0) := by omega
  simp only [h1, h2, if_false]
  congr 1
  omega
theorem places_upto (b : Nat) : Builtin.Slice.slicePlaces (0 : Int) (b : Int) 1 = b := by
  unfold Builtin.Slice.slicePlaces
  have h1 : (1 : Int) > 0 := by omega
  simp only [h1, if_true, Int.ediv_one]
  split <;> omega
theorem sliceApplied_upto {E : Value → Shared → Prop} {s : Shared} {sl : Addr} {b n : Nat} {u : Tok} {Q : Int × Int × Nat → Shared → Prop} (hs : s.heap.IsSliceOf sl .none (.int b u) .none) (hb : b ≤ n) (h : Q ((0 : Int), 1, b) s) :
    wpAny (model prog w) A (Builtin.Slice.sliceApplied (.ref sl) (pure (n : Int))) Q E s := by
  obtain ⟨os, hos, hcs, hds⟩ := id hs
  unfold Builtin.Slice.sliceApplied Builtin.Slice.sliceFields
  refine wpAny_bind (wpAny_bind (wpAny_field hos hds (x := .none) rfl (wpAny_bind (wpAny_field hos hds (x := .int b u) rfl (wpAny_bind (wpAny_field hos hds (x := .none) rfl (wpAny_pure ?_)))))))
  refine wpAny_bind (PyProof.Rows.slicePart_none ?_)
  show wpAny _ _ (if ((1 : Int) == 0) = true then _ else _) _ _ s
  rw [if_neg (by decide)]
  refine wpAny_bind (PyProof.Rows.slicePart_none (wpAny_bind (PyProof.Rows.slicePart_int (wpAny_bind (wpAny_pure ?_)))))
  show wpAny _ _ (match Builtin.Slice.sliceAdjust none (some (b : Int)) 1 (n : Int) with | (lo, hi) => pure (lo, (1 : Int), Builtin.Slice.slicePlaces lo hi 1)) _ _ s
  rw [adjust_upto b n hb]
  show wpAny _ _ (pure ((0 : Int), (1 : Int), Builtin.Slice.slicePlaces (0 : Int) (b : Int) 1)) _ _ s
  rw [places_upto b]
  exact wpAny_pure h
theorem pick_upto (vs : List Value) (b : Nat) (hb : b ≤ vs.length) : ((List.range b).filterMap fun (k : Nat) => vs.toArray[((0 : Int) + (k : Int) * 1).toNat]?).toArray = (vs.take b).toArray := by
  congr 1
  have e : (fun (k : Nat) => vs.toArray[((0 : Int) + (k : Int) * 1).toNat]?) = fun k : Nat => vs[k]? := by
    funext k
    have : ((0 : Int) + (k : Int) * 1).toNat = k := by omega
    rw [this]; simp
  rw [e]
  induction b with
  | zero => simp
  | succ b ih =>
    rw [List.range_succ, List.filterMap_append, ih (by omega), List.take_add_one]
    have : b < vs.length := by omega
    simp [this]
theorem getItem_tuple_upto {E : Value → Shared → Prop} {s : Shared} {t sl : Addr} {vs : List Value} {nn : Nat} {b : Nat} {u : Tok} {Q : Value → Shared → Prop} (ht : s.heap.get? t = some (tupO vs nn)) (hs : s.heap.IsSliceOf sl .none (.int b u) .none) (hb : b < vs.length)
    (h : Q (.ref s.heap.objs.size) { s with heap := s.heap.push (tupO (vs.take b) 0) })
    (hsz : vs.length ≤ lim) : wpAny (model prog w) A (getItem (.ref t) (.ref sl)) Q E s := by
  have htu : PyProof.Rows.IsTup s.heap t vs.toArray := ⟨_, ht, rfl, nn, rfl⟩
  have hdrop : sizeOk (.seq (vs.take b).toArray) := by
    show (vs.take b).toArray.size ≤ sizeLine
    rw [List.size_toArray, List.length_take]
    have : lim ≤ sizeLine := le_line (Nat.le_refl _)
    omega
  obtain ⟨os, hos, hcs, hds⟩ := id hs
  have hTs : s.TypeIs (.ref sl) "slice" := ⟨os, hos, hcs⟩
  unfold getItem
  try with_reducible refine wpAny_holding ?_
  first | refine wpAny_bind (wpAny_pure ?_) | skip
  refine wpAny_bind (wpAny_sequenceKey htu.typeIs (by decide) ?_)
  refine wpAny_bind (wpAny_callSpecial?_slot (name := Str.ofString "__getitem__") htu.typeIs PyProof.Rows.slot_tuple_getitem
    (wpAny_call_entry PyProof.Rows.slot_tuple_getitem htu.typeIs PyProof.Rows.entry_tuple_getitem ?_ (PyProof.Rows.args_tuple_getitem _ _)))
  show wpAny _ _ (Builtin.Tuple.tupleItemsOf (.ref t) >>= _) _ _ s
  refine wpAny_bind (PyProof.Rows.tupleItemsOf_ htu ?_)
  refine wpAny_bind (wpAny_typeOf hTs ?_)
  rw [if_pos (by decide)]
  refine wpAny_bind (sliceApplied_upto hs (by rw [List.size_toArray]; omega) ?_)
  have hno : ¬ (((0 : Int) == 0 && (1 : Int) == 1 && b == vs.toArray.size) = true) := by
    have : (b == vs.toArray.size) = false := by rw [beq_eq_false_iff_ne, List.size_toArray]; omega
    rw [this]; simp
  show wpAny _ _ (if ((0 : Int) == 0 && (1 : Int) == 1 && b == vs.toArray.size) = true then _ else _) _ _ s
  rw [if_neg hno, pick_upto vs b (by omega)]
  first
    | exact wpAny_bind (m := Builtin.Tuple.tupleExact _) (wpAny_newObj_type (wpAny_pure ⟨_, rfl, wpAny_pure h⟩) hdrop)
    | exact wpAny_bind (m := Builtin.Tuple.tupleExact _) (wpAny_newObj_type (wpAny_bind (wpAny_pure (wpAny_pure ⟨_, rfl, wpAny_pure h⟩))) hdrop)
    | exact wpAny_bind (wpAny_bind (m := Builtin.Tuple.tupleExact _) (wpAny_newObj_type (wpAny_pure (wpAny_pure ⟨_, rfl, wpAny_pure h⟩)) hdrop))
    | exact wpAny_bind (wpAny_bind (m := Builtin.Tuple.tupleExact _) (wpAny_newObj_type (wpAny_pure ⟨_, rfl, wpAny_pure h⟩) hdrop))

theorem RepAll.drop {R : Addr → Option Obj} {ρ : Nat → Option Addr} : ∀ (a : Nat) {ds : List D} {vs : List Value}, RepAll R ρ ds vs → RepAll R ρ (ds.drop a) (vs.drop a)
  | 0, _, _, h => h
  | a + 1, [], vs, h => by have e : vs = [] := h; subst e; exact h
  | a + 1, d :: ds, vs, h => by
    obtain ⟨v, r, rfl, _, h2⟩ := h
    exact RepAll.drop a h2
theorem RepAll.take {R : Addr → Option Obj} {ρ : Nat → Option Addr} : ∀ (a : Nat) {ds : List D} {vs : List Value}, RepAll R ρ ds vs → RepAll R ρ (ds.take a) (vs.take a)
  | 0, _, _, _ => rfl
  | a + 1, [], vs, h => by have e : vs = [] := h; subst e; exact h
  | a + 1, d :: ds, vs, h => by
    obtain ⟨v, r, rfl, h1, h2⟩ := h
    exact ⟨v, r.take a, rfl, h1, RepAll.take a h2⟩

theorem sub_ops (l u sp : Option Expr) (p : Pos) (a b : Addr) : ∃ ops, subscripted (.Slice l u sp p) false (.ref a) (.ref b) = operate ops (getItem (.ref a) (.ref b)) := by
  cases sp with
  | none => exact ⟨_, rfl⟩
  | some _ => exact ⟨_, rfl⟩
theorem ok_slice {trk : Bool} {value : Expr} {l u sp : Option Expr} {p : Pos} {d a b c : D} {vd va vb vc : Value} {W : Wd} {s : Shared} {Q : D → St → Prop} (S : Sim h₀ W s) (rd : Rep W.R W.ρ d vd) (ra : Rep W.R W.ρ a va) (rb : Rep W.R W.ρ b vb) (rc : Rep W.R W.ρ c vc)
    (h : wSlice trk d a b c W.st Q) {s' : Shared} (hs' : s' = { s with heap := s.heap.push { cls := .type "slice", data := .fields #[va, vb, vc] } }) :
    wpAny (model prog w) A (PyProof.Rows.subscriptTail value (.Slice l u sp p) vd (.ref s.heap.objs.size)) (Fin' h₀ noOwn s W (VP Q)) E0 s' := by
  subst hs'
  obtain ⟨lo, hi, st, hl, hu, hs, h0, h⟩ := h
  have pl := part_is hl ra
  have pu := part_is hu rb
  have ps := part_is hs rc
  by_cases hT : ∃ ys, d = .tup ys
  · obtain ⟨ys, rfl⟩ := hT
    obtain ⟨rfl, hlen, h⟩ := h
    cases ps
    obtain ⟨a', vs, n', rfl, hg, hr⟩ := S.tup rd
    have hg' : (s.heap.push { cls := .type "slice", data := .fields #[va, vb, .none] }).get? a' = some (tupO vs n') := Heap.get?_push_of_some _ hg
    have hT : PyProof.Rows.IsTup (s.heap.push { cls := .type "slice", data := .fields #[va, vb, .none] }) a' vs.toArray := ⟨_, hg', rfl, n', rfl⟩
    obtain ⟨ops, e1⟩ := sub_ops l u sp p a' s.heap.objs.size
    rcases h with ⟨i, rfl, rfl, h1, h2, hq⟩ | ⟨i, rfl, rfl, h2, hq⟩
    · cases pl; cases pu
      refine PyProof.Rows.tail_any (T := "tuple") hT.typeIs PyProof.Rows.slot_tuple_getitem.lookup (PyProof.Rows.getItem_tuple_from hT (Heap.IsSliceOf.new ..) h1 (by rw [List.size_toArray, hr.length]; exact h2) ?_ (by rw [List.size_toArray, hr.length]; exact le_line hlen)) e1
      refine done_tup (n := 0) (tk := s.toks) (vs := vs.drop i) S (fun b o e => Heap.get?_push_of_some _ (Heap.get?_push_of_some _ e)) (dead_ge ?_) (Heap.get?_push_size _ rfl) (RepAll.drop i hr) hq
      rw [Heap.size_push]; exact Nat.le_succ _
    · cases pl; cases pu
      refine PyProof.Rows.tail_any (T := "tuple") hT.typeIs PyProof.Rows.slot_tuple_getitem.lookup (getItem_tuple_upto hg' (Heap.IsSliceOf.new ..) (by rw [hr.length]; exact h2) ?_ (by rw [hr.length]; exact hlen)) e1
      refine done_tup (n := 0) (tk := s.toks) (vs := vs.take i) S (fun b o e => Heap.get?_push_of_some _ (Heap.get?_push_of_some _ e)) (dead_ge ?_) (Heap.get?_push_size _ rfl) (RepAll.take i hr) hq
      rw [Heap.size_push]; exact Nat.le_succ _
  have hd : ∃ xs, lstD W.st d = some xs ∧ xs.length ≤ lim ∧ mkList trk (pickL xs lo hi st) W.st Q := by
    cases d <;> first | exact h | exact absurd ⟨_, rfl⟩ hT
  obtain ⟨xs, hx, hlen, hm⟩ := hd
  obtain ⟨a', vs, n', rfl, hg, hr⟩ := S.lst rd hx
  have hg' : (s.heap.push { cls := .type "slice", data := .fields #[va, vb, vc] }).get? a' = some (lstO vs n') := Heap.get?_push_of_some _ hg
  have hL : (s.heap.push { cls := .type "slice", data := .fields #[va, vb, vc] }).IsList a' vs.toArray := ⟨_, hg', rfl, n', rfl⟩
  obtain ⟨ops, e1⟩ := sub_ops l u sp p a' s.heap.objs.size
  refine PyProof.Rows.tail_any (T := "list") hL.typeIs slot_list_getitem.lookup (wpAny_getItem_list_slice hL (Heap.IsSliceOf.new ..) pl pu ps h0 ?_ (by rw [List.size_toArray, hr.length]; exact le_line hlen)) e1
  rw [pick_arr]
  refine done_list (n := 0) (tk := s.toks) (vs := pickL vs lo hi st) S (fun b o e => Heap.get?_push_of_some _ (Heap.get?_push_of_some _ e)) (dead_ge ?_) (Heap.get?_push_size _ rfl) ?_ hm
  · rw [Heap.size_push]; exact Nat.le_succ _
  · have := hr.nth (sliceRange (sliceBounds lo hi st xs.length).1 (sliceBounds lo hi st xs.length).2.1 (sliceBounds lo hi st xs.length).2.2) id
    unfold pickL
    rw [hr.length]
    exact this

theorem snd_comp (a1 : AOk k A) (H : Snd prog w A h₀ Γ n) {trk : Bool} {t elt : Expr} {ifs : List Expr} {scope : Scope} {m : Loc} :
    CompStep prog w A h₀ scope m t elt ifs (fun d st2 k => wTarget (fun x => scope.names.lookup x) t d (fun x => if scope.names.lookup x = some .free then m x else none) fun m1 =>
          match ifs with
          | [] => wE Γ n trk (fun x => scope.names.lookup x) elt m1 st2 fun x st4 => k (some x) st4
          | [c] => wT Γ n (fun x => scope.names.lookup x) c m1 st2 fun b st3 => if b then wE Γ n trk (fun x => scope.names.lookup x) elt m1 st3 fun x st4 => k (some x) st4 else k none st3
          | _ => False) := by
  intro own' cenv d W s v K S F rd h
  refine wpAny_mono (ok_target a1 S F rd h) ?_ fun _ _ e => e
  rintro _ s1 ⟨W1, x1, S1, e1, m', h1, F1, hm'⟩
  subst e1
  have back : ∀ {W2 s2}, Fram own' cenv (compK scope) m' W2 s2 → Fram own' cenv (compK scope) (compM scope m) W2 s2 := fun F2 => F2.forget fun x d hx => by
    have hx' : (if scope.names.lookup x = some .free then m x else none) = some d := hx
    by_cases q : scope.names.lookup x = some .free
    · have : isOwn (fun x => scope.names.lookup x) x = false := by simp only [isOwn, q]; rfl
      rw [hm' x this]; exact hx
    · rw [if_neg q] at hx'; cases hx'
  have elts : ∀ {W2 s2}, Step noOwn s1 W1 s2 W2 → Sim h₀ W2 s2 → wE Γ n trk (fun x => scope.names.lookup x) elt m' W2.st (fun x st4 => K (some x) st4) →
      wpAny (model prog w) A (eval elt cenv) (fun x s3 => Fin' h₀ own' s W1 (fun x W' s' => Fram own' cenv (compK scope) (compM scope m) W' s' ∧ ∃ dx, Rep W'.R W'.ρ dx x ∧ K (some dx) W'.st) x s3) E0 s2 := fun {W2 s2} x2 S2 h2 => by
    have F2 := F1.step0 S1 x2
    refine wpAny_mono (H.e _ _ _ _ _ _ _ _ _ S2 F2 h2) ?_ fun _ _ e => e
    rintro y s3 ⟨W3, x3, S3, dx, rx, h3⟩
    exact ⟨W3, x1.trans S ((x2.trans S1 x3).wide fun _ _ _ q => q.elim), S3, back (F2.step0 S2 x3), dx, rx, h3⟩
  cases ifs with
  | nil =>
    refine wpAny_tests_nil ?_
    simp only [if_true]
    exact elts (Step.refl _ _) S1 h1
  | cons c r =>
    cases r with
    | cons _ _ => exact False.elim h1
    | nil =>
      refine wpAny_tests_one (wpAny_mono (H.t _ _ _ _ _ _ _ _ S1 F1 h1) ?_ fun _ _ e => e)
      rintro b s2 ⟨W2, x2, S2, h2⟩
      have h2' : if b = true then wE Γ n trk (fun x => scope.names.lookup x) elt m' W2.st (fun x st4 => K (some x) st4) else K none W2.st := h2
      cases b with
      | true => simp only [if_true] at h2' ⊢; exact elts x2 S2 h2'
      | false =>
        simp only [Bool.false_eq_true, if_false] at h2' ⊢
        exact ⟨W2, x1.trans S (x2.wide fun _ _ _ q => q.elim), S2, back (F1.step0 S1 x2), h2'⟩

theorem noOwnOK (s : Shared) (W : Wd) : OwnOK noOwn s W := fun _ h => h.elim

theorem hnames_of {kd : Kd} {scope : Scope} (sc : ScopeOk kd scope) : ∀ x ∈ scope.names, x.2 = .local → scope.names.lookup x.1 = some .local := fun x hx hl => by
  obtain ⟨n, k⟩ := x
  have e : k = .local := hl
  subst e
  exact lookup_nodup sc.2.1 hx

theorem hclos_of {kd : Kd} {scope : Scope} {own : Addr → Prop} {env : Env} {m : Loc} {W : Wd} {s : Shared} (F : Fram own env kd m W s) (sc : ScopeOk kd scope) : closureFor scope env = pure (clo env.cells scope.names []) :=
  clo_eq fun p hp hf => by
    rcases (sc.2.2 p hp).2.2 hf with q | q
    · obtain ⟨c, h, _⟩ := F.co p.1 q; exact ⟨c, h⟩
    · exact (F.kF p.1 q).2

theorem snd_e (a1 : AOk k A) (C : CtxOK prog w h₀ k Γ) (H : Snd prog w A h₀ Γ n) : ∀ trk kd e m Q own env W s, Sim h₀ W s → Fram own env kd m W s → wE Γ (n + 1) trk kd e m W.st Q → OK prog w A h₀ noOwn (eval e env) W s (VP Q) := by
  intro trk kd e m Q own env W s S F h
  obtain ⟨mg, mb, hmg, hmb, hgl, hfn, hbl⟩ := C.ns
  cases e with
  | Constant c x1 x2 =>
    rw [arm_eval_Constant]
    exact ok_const S h
  | Name x p =>
    rw [e_name] at h
    unfold wName at h
    split at h
    · rename_i hg
      obtain ⟨d, hd, hq⟩ := h
      obtain ⟨v, hv, hr⟩ := hgl x d hd
      exact ok_global S F hg hmg hmb hv ⟨W, Step.refl _ _, S, d, hr _ _ S.base, hq⟩
    · obtain ⟨d, hd, hq⟩ := h
      exact wpAny_Name (ok_load S F hd hq) (dbg_ne F (F.nm x d hd).1)
  | BoolOp op es p => rw [e_boolop] at h; rw [arm_eval_BoolOp]; exact H.bool _ _ _ _ _ _ _ _ _ _ S F h
  | BinOp l op r p =>
    rw [e_bin] at h
    rw [arm_eval_BinOp]
    refine OK.bind S (H.e _ _ _ _ _ _ _ _ _ S F h) ?_
    rintro a W1 s1 x1 S1 ⟨da, ra, h1⟩
    refine OK.bind S1 (OK.holding (H.e _ _ _ _ _ _ _ _ _ S1 (F.step0 S x1) h1)) ?_
    rintro b W2 s2 x2 S2 ⟨db, rb, h2⟩
    exact OK.stand (OK.operate (ok_bin S2 (x2.rep S1 ra) rb h2))
  | UnaryOp op x p =>
    rw [e_un] at h
    rw [arm_eval_UnaryOp]
    exact OK.bind S (H.e _ _ _ _ _ _ _ _ _ S F h) fun a W1 s1 x1 S1 ⟨da, ra, h1⟩ => OK.stand (OK.holding (ok_un S1 ra h1))
  | Compare l ops rs p =>
    rw [e_cmp] at h
    rw [arm_eval_Compare]
    refine OK.bind S (H.e _ _ _ _ _ _ _ _ _ S F h) ?_
    rintro va W1 s1 x1 S1 ⟨d, rd, h1⟩
    exact OK.mono (H.chV _ _ _ _ _ _ _ _ _ _ _ _ S1 (F.step0 S x1) rd h1) fun v W2 s2 _ _ ⟨b, e, hk⟩ => ⟨.bool b, e, hk⟩
  | Call f args kws pos =>
    cases kws with
    | cons _ _ => cases f <;> exact False.elim h
    | nil =>
      cases f with
      | Name x p =>
        rw [e_call] at h
        obtain ⟨hg, hns, hblt, h⟩ := h
        unfold wCallN at h
        cases hf : Γ.fn x with
        | some Sf =>
          rw [hf] at h
          obtain ⟨fv, hv, hco, hcall⟩ := hfn x Sf hf
          refine ok_call H hns S F hg hmg hmb hv (.inl hco) h fun vs ds W1 s1 x1 S1 rds q => ?_
          exact OK.after S x1 (hcall A W1 s1 ds vs _ a1 S1 rds q)
        | none =>
          rw [hf] at h
          have hb : ∃ fv, bltV x = some fv := by
            rcases hblt hf with e | e | e | e | e | e | e <;> subst e <;> exact ⟨_, rfl⟩
          obtain ⟨fv, hb⟩ := hb
          obtain ⟨g1, g2⟩ := hbl _ fv hf hb
          have hfv : FvOK h₀ fv := by
            unfold bltV at hb
            repeat' split at hb
            all_goals first
              | (cases hb; exact .inr (.inr ⟨_, rfl⟩))
              | (cases hb; exact .inr (.inl ⟨_, rfl⟩))
              | cases hb
          refine ok_call (fv := fv) H hns S F hg hmg hmb (by rw [g1, g2]; rfl) hfv h fun vs ds W1 s1 x1 S1 rds q => ?_
          exact OK.after S x1 (ok_builtin a1 S1 hb rds q)
      | Attribute o nm apos =>
        obtain ⟨hc, hln, h⟩ := h
        cases args with
        | nil => exact ok_meth0 S hc hln (H.e _ _ _ _ _ _ _ _ _ S F h) fun d st p => p
        | cons e r =>
          cases r with
          | cons _ _ => exact False.elim h
          | nil =>
            obtain ⟨hm1, hns, h⟩ := h
            have hse : ∀ x p, e ≠ .Starred x p := by
              unfold noStars at hns
              rw [List.all_cons, Bool.and_eq_true] at hns
              exact star_of hns.1
            refine ok_meth1 S hc hln hm1 hse (H.e _ _ _ _ _ _ _ _ _ S F h) (fun d v W1 s1 x1 S1 rd q => ?_) fun d v W1 s1 x1 S1 rd q => ?_
            · exact H.e _ _ _ _ _ _ _ _ _ S1 (F.step0 S x1) q.2
            · exact Option.isSome_iff_exists.mp q.1
      | _ => exact False.elim h
  | Subscript v sl p =>
    refine PyProof.Rows.Subscript_ ?_
    have plain : isSliceE sl = false → wE Γ n false kd v m W.st (fun d st1 => wE Γ n false kd sl m st1 fun i st2 => wItem d i st2 Q) → wpAny (model prog w) A (eval v env) (fun o s₁ => wpAny (model prog w) A (eval sl env) (fun i s₂ => wpAny (model prog w) A (PyProof.Rows.subscriptTail v sl o i) (Fin' h₀ noOwn s W (VP Q)) E0 s₂) E0 s₁) E0 s := fun hs h => by
      refine wpAny_mono (H.e _ _ _ _ _ _ _ _ _ S F h) ?_ fun _ _ e => e
      rintro o s1 ⟨W1, x1, S1, d, rd, h1⟩
      refine wpAny_mono (H.e _ _ _ _ _ _ _ _ _ S1 (F.step0 S x1) h1) ?_ fun _ _ e => e
      rintro i s2 ⟨W2, x2, S2, di, ri, h2⟩
      exact OK.after S (x1.trans S x2) (ok_item hs S2 (x2.rep S1 rd) ri h2)
    cases sl with
    | Slice l u sp p' =>
      rw [e_slice] at h
      refine wpAny_mono (H.e _ _ _ _ _ _ _ _ _ S F h) ?_ fun _ _ e => e
      rintro o s1 ⟨W1, x1, S1, d, rd, h1⟩
      have F1 := F.step0 S x1
      rw [arm_eval_Slice]
      refine wpAny_bind (wpAny_mono (H.opt _ _ _ _ _ _ _ _ S1 F1 h1) ?_ fun _ _ e => e)
      rintro vl s2 ⟨W2, x2, S2, dl, rl, h2⟩
      have F2 := F1.step0 S1 x2
      refine wpAny_bind (wpAny_holding (wpAny_mono (H.opt _ _ _ _ _ _ _ _ S2 F2 h2) ?_ fun _ _ e => e))
      rintro vu s3 ⟨W3, x3, S3, du, ru, h3⟩
      have F3 := F2.step0 S2 x3
      refine wpAny_bind (wpAny_holding (wpAny_mono (H.opt _ _ _ _ _ _ _ _ S3 F3 h3) ?_ fun _ _ e => e))
      rintro vs s4 ⟨W4, x4, S4, dp, rp, h4⟩
      refine wpAny_newObj_type ?_
      refine wpAny_mono (ok_slice (trk := trk) S4 (x4.rep S3 (x3.rep S2 (x2.rep S1 rd))) (x4.rep S3 (x3.rep S2 rl)) (x4.rep S3 ru) rp h4 rfl) ?_ fun _ _ e => e
      rintro r s5 ⟨W5, x5, S5, q⟩
      exact ⟨W5, (((x1.trans S x2).trans S x3).trans S x4).trans S x5, S5, q⟩
    | _ => exact plain rfl h
  | Tuple es x1 p =>
    rw [e_tup] at h
    rw [arm_eval_Tuple]
    refine OK.stand (OK.bind S (H.es _ _ _ _ _ _ _ _ _ p S F h) fun vs W1 s1 x1 S1 ⟨ds, rds, hl, hq⟩ => ok_newTuple S1 rds hl hq)
  | List es p =>
    rw [e_list] at h
    rw [arm_eval_List]
    exact OK.stand (OK.bind S (H.es _ _ _ _ _ _ _ _ _ p S F h) fun vs W1 s1 x1 S1 ⟨ds, rds, hq⟩ => ok_newList S1 rds hq)
  | ListComp elt gens scope pos =>
    have hgens : ∃ t it ifs, gens = [⟨t, it, ifs, 0⟩] := by
      cases gens with
      | nil => exact False.elim h
      | cons g gs =>
        obtain ⟨t, it, ifs, asy⟩ := g
        cases asy with
        | ofNat a =>
          cases a with
          | zero =>
            cases gs with
            | nil => exact ⟨t, it, ifs, rfl⟩
            | cons _ _ => exact False.elim h
          | succ a => cases gs <;> exact False.elim h
        | negSucc a => cases gs <;> exact False.elim h
    obtain ⟨t, it, ifs, rfl⟩ := hgens
    obtain ⟨sc, h⟩ := h
    obtain ⟨hfold, hit⟩ := H.it _ _ _ _ _ _ noOwn _ _ _ S F (noOwnOK s W) h
    rw [eval_ListComp]
    refine wpAny_comprehension_free (use := none) rfl hfold (hclos_of F sc) sc.1 (hnames_of sc) ?_
    show wpAny (model prog w) A (eval it env) _ E0 s
    refine wpAny_mono hit (fun x s1 h1 => wpAny_mono h1 ?_ fun _ _ e => e) fun _ _ e => e
    rintro itv s2 ⟨W2, items, p, x2, S2, I, hlen, hk⟩
    refine comp_core S F x2 S2 (F.step0 S x2) I hlen sc (snd_comp a1 H) hk ?_
    rintro D' C s' W' x' S' hv h0 hR hρ ⟨mv, hns⟩
    refine ⟨mv, hns, fun h' hs' => ?_⟩
    obtain ⟨x6, S6⟩ := x'.dead' S' h0 hR hρ (fun b o q e => (hs'.2 b q).trans e)
    exact ⟨W', x6, S6, hv⟩
  | _ => exact False.elim h
end
end Mine
end

section
set_option autoImplicit false
set_option linter.unusedVariables false
namespace Mine
open PySem

section
variable {prog : Program} {w : World} {A : Around} {h₀ : Heap} {Γ : Ctx} {mt : Str → Bool} {k n : Nat}

theorem snd_all_n (a1 : AOk k A) (C : CtxOK prog w h₀ k Γ) : ∀ n, Snd prog w A h₀ Γ n
  | 0 => snd_zero
  | n + 1 =>
    have H := snd_all_n a1 C n
    { e := snd_e a1 C H, es := snd_es H, opt := snd_opt H, bool := snd_bool H, chV := snd_chV a1 H, chT := snd_chT a1 H, t := snd_t H, all := snd_all H, it := snd_it a1 C H }

structure SndS (prog : Program) (w : World) (A : Around) (h₀ : Heap) (Γ : Ctx) (mt : Str → Bool) (n : Nat) : Prop where
  s : ∀ kd st m K own env W s, Sim h₀ W s → Fram own env kd m W s → OwnOK own s W → wS Γ mt n kd st m W.st K → OK prog w A h₀ own (exec st env) W s (FP own env kd K)
  ss : ∀ kd ss m K own env W s, Sim h₀ W s → Fram own env kd m W s → OwnOK own s W → wSs Γ mt n kd ss m W.st K → OK prog w A h₀ own (execs ss env) W s (FP own env kd K)

theorem sndS_zero : SndS prog w A h₀ Γ mt 0 where
  s := fun _ _ _ _ _ _ _ _ _ _ _ h => False.elim h
  ss := fun _ _ _ _ _ _ _ _ _ _ _ h => False.elim h

theorem not_inter {kd : Kd} {own : Addr → Prop} {env : Env} {m : Loc} {W : Wd} {s : Shared} (F : Fram own env kd m W s) : interactive env = false := by
  unfold interactive; rw [F.fn]; rfl

theorem flNext {own : Addr → Prop} {env : Env} {kd : Kd} {K : Fl → Loc → St → Prop} {m : Loc} {W : Wd} {s : Shared} (F : Fram own env kd m W s) (h : K .next m W.st) : FP own env kd K .next W s := ⟨.next, m, rfl, F, h⟩

theorem snd_assign (a1 : AOk k A) (HH : ∀ n, Snd prog w A h₀ Γ n) {trk : Bool} {kd : Kd} {x : Str} {p' p : Pos} {v : Expr} {m : Loc} {K : Fl → Loc → St → Prop} {own : Addr → Prop} {env : Env} {W : Wd} {s : Shared}
    (S : Sim h₀ W s) (F : Fram own env kd m W s) (O : OwnOK own s W) (hx : isOwn kd x = true) (h : wE Γ n trk kd v m W.st fun d st1 => K .next (upd m x d) st1) :
    OK prog w A h₀ own (exec (.Assign [.Name x p'] v p) env) W s (FP own env kd K) := by
  have hsw : ∃ b, swapsWith v (some (.Name x p')) p.line env = pure b ∧ (b = true → ∃ elt gens scope pos, v = .ListComp elt gens scope pos) := by
    cases v with
    | ListComp a b c d => exact ⟨_, rfl, fun _ => ⟨a, b, c, d, rfl⟩⟩
    | SetComp => cases n <;> exact False.elim h
    | DictComp => cases n <;> exact False.elim h
    | _ => exact ⟨false, rfl, fun q => nomatch q⟩
  obtain ⟨b, hb, hl⟩ := hsw
  cases b with
  | false =>
    unfold OK
    rw [exec_Assign_Name _ _ _ _ _ hb]
    refine wpAny_bind (wpAny_standAt (wpAny_bind (wpAny_mono ((HH n).e _ _ _ _ _ _ _ _ _ S F h) ?_ fun _ _ e => e)))
    rintro u s1 ⟨W1, x1, S1, d, rd, h1⟩
    have F1 := F.step0 S x1
    have x1' : Step own s W s1 W1 := x1.wide fun _ _ _ q => q.elim
    refine wpAny_bind (wpAny_standAt (wpAny_bind (wpAny_mono (ok_bind_name S1 F1 hx rd) ?_ fun _ _ e => e)))
    rintro _ s2 ⟨W2, x2, S2, e2, F2⟩
    subst e2
    exact wpAny_pure ⟨_, x1'.trans S x2, S2, flNext F2 h1⟩
  | true =>
    obtain ⟨elt, gens, scope, pos, rfl⟩ := hl rfl
    cases n with
    | zero => exact False.elim h
    | succ n =>
    have hgens : ∃ t it ifs, gens = [⟨t, it, ifs, 0⟩] := by
      cases gens with
      | nil => exact False.elim h
      | cons g gs =>
        obtain ⟨t, it, ifs, asy⟩ := g
        cases asy with
        | ofNat a =>
          cases a with
          | zero =>
            cases gs with
            | nil => exact ⟨t, it, ifs, rfl⟩
            | cons _ _ => exact False.elim h
          | succ a => cases gs <;> exact False.elim h
        | negSucc a => cases gs <;> exact False.elim h
    obtain ⟨t, it, ifs, rfl⟩ := hgens
    obtain ⟨sc, h⟩ := h
    obtain ⟨hfold, hit⟩ := (HH n).it _ _ _ _ _ _ noOwn _ _ _ S F (noOwnOK s W) h
    unfold OK
    rw [exec_Assign_Name_used _ _ _ _ hb]
    refine wpAny_bind (wpAny_standAt (wpAny_bind ?_))
    show wpAny _ A (do let _ ← comprehension (.ListComp elt [⟨t, it, ifs, 0⟩] scope pos) scope env _ (newList []) false (eval it env) (some (assign (.Name x p') env))) _ _ s
    refine wpAny_bind (wpAny_mono (wpAny_comprehension_free (use := some (assign (.Name x p') env)) (Q := fun _ s' => Fin' h₀ own s W (FP own env kd K) .next s') rfl hfold (hclos_of F sc) sc.1 (hnames_of sc) ?_) (fun _ s' hq => wpAny_pure (wpAny_pure hq)) fun _ _ e => e)
    refine wpAny_mono hit (fun x s1 h1 => wpAny_mono h1 ?_ fun _ _ e => e) fun _ _ e => e
    rintro itv s2 ⟨W2, items, p, x2, S2, I, hlen, hk⟩
    refine comp_core S F x2 S2 (F.step0 S x2) I hlen sc (snd_comp a1 (HH n)) hk ?_
    rintro D' C s' W' x' S' ⟨d, rd, h1⟩ h0 hR hρ ⟨mv, hns⟩
    show wpAny _ A (standAt p' >>= fun _ => bindName env _ (.ref D')) _ _ _
    have F' := F.step0 S x'
    have neL : env.locals ≠ C := fun q => by obtain ⟨_, o, _, _, e, _⟩ := F.ns; rw [q, h0] at e; cases e
    have neC : ∀ y c, env.cells.lookup y = some c → c ≠ C := fun y c e q => by obtain ⟨⟨_, o, e', _⟩, _⟩ := F.cl y c e; rw [q, h0] at e'; cases e'
    refine wpAny_bind (wpAny_standAt (wpAny_mono (ok_bind_name S' F' hx rd) ?_ fun _ _ e => e))
    rintro _ s3 ⟨W3, x3, S3, e3, F3⟩
    subst e3
    obtain ⟨o, es, ep, ho, r⟩ := hns
    refine ⟨mv, ⟨o, es, ep, x3.keep C o ho (fun n q => absurd q (hρ n)) (fun q => ?_), r⟩, fun h' hs' => ?_⟩
    · obtain ⟨⟨o', e'⟩, _⟩ := O C q
      rw [h0] at e'; cases e'
    · have ext : ∀ b o, b ≠ C → s3.heap.get? b = some o → h'.get? b = some o := fun b o q e => (hs'.2 b q).trans e
      have x4 : Step own s W s3 W3 := (x'.wide fun _ _ _ q => q.elim).trans S x3
      obtain ⟨x6, S6⟩ := x4.dead' S3 h0 hR hρ ext
      exact ⟨W3, x6, S6, flNext (F3.heap (tk := s3.toks) (fun o e => ext _ o neL e) fun y c o q e => ext c o (neC y c q) e) h1⟩

theorem sndS_s (a1 : AOk k A) (HH : ∀ n, Snd prog w A h₀ Γ n) (HS : SndS prog w A h₀ Γ mt n) : ∀ kd st m K own env W s, Sim h₀ W s → Fram own env kd m W s → OwnOK own s W → wS Γ mt (n + 1) kd st m W.st K → OK prog w A h₀ own (exec st env) W s (FP own env kd K) := by
  intro kd st m K own env W s S F O h
  have H := HH n
  have up : ∀ {s1 : Shared} {W1 : Wd}, Step noOwn s W s1 W1 → Step own s W s1 W1 := fun x => x.wide fun _ _ _ q => q.elim
  cases st with
  | Expr v p =>
    rw [s_expr] at h
    obtain ⟨hc, h⟩ := h
    have hsw : swapsWith v none p.line env = pure false := by cases v <;> first | rfl | cases hc
    refine wpAny_Expr_any (wpAny_mono (H.e _ _ _ _ _ _ _ _ _ S F h) ?_ fun _ _ e => e) (not_inter F) hsw
    rintro u s1 ⟨W1, x1, S1, d, rd, h1⟩
    refine ⟨W1, up x1, S1, flNext (F.step0 S x1) ?_⟩
    cases d <;> first | exact h1 | exact False.elim h1
  | Assign ts v p =>
    cases ts with
    | nil => exact False.elim h
    | cons t r =>
      cases r with
      | cons _ _ => exact False.elim h
      | nil =>
        cases t with
        | Name x p' =>
          rw [s_asgN] at h
          exact snd_assign a1 HH S F O h.1 h.2
        | Tuple es kk p' =>
          rw [s_asgT] at h
          obtain ⟨ht, h⟩ := h
          have hs : swapsWithSole [.Tuple es kk p'] v p.line env = pure false := by cases v <;> rfl
          have hw : swappedStores [.Tuple es kk p'] v env = pure none := by cases v <;> first | rfl | cases ht
          refine PyProof.Rows.Assign_Tuple (wpAny_mono (H.e _ _ _ _ _ _ _ _ _ S F h) ?_ fun _ _ e => e) hs hw
          rintro u s1 ⟨W1, x1, S1, d, rd, h1⟩
          refine wpAny_mono (ok_target a1 S1 (F.step0 S x1) rd h1) ?_ fun _ _ e => e
          rintro _ s2 ⟨W2, x2, S2, e2, m', hk, F2, _⟩
          subst e2
          exact ⟨_, (up x1).trans S x2, S2, flNext F2 hk⟩
        | Subscript o i p' =>
          rw [s_asgS] at h
          obtain ⟨hi, h⟩ := h
          have hs : swapsWith v (some (.Subscript o i p')) p.line env = pure false := by cases v <;> rfl
          refine wpAny_Assign_Subscript (wpAny_mono (H.e _ _ _ _ _ _ _ _ _ S F h) ?_ fun _ _ e => e) hs
          rintro u s1 ⟨W1, x1, S1, d, rd, h1⟩
          have F1 := F.step0 S x1
          refine wpAny_mono (H.e _ _ _ _ _ _ _ _ _ S1 F1 h1) ?_ fun _ _ e => e
          rintro ov s2 ⟨W2, x2, S2, d2, rd2, h2⟩
          have F2 := F1.step0 S1 x2
          refine wpAny_mono (H.e _ _ _ _ _ _ _ _ _ S2 F2 h2) ?_ fun _ _ e => e
          rintro iv s3 ⟨W3, x3, S3, d3, rd3, h3⟩
          have F3 := F2.step0 S2 x3
          refine wpAny_mono (ok_setItem S3 (x3.rep S2 rd2) rd3 (x3.rep S2 (x2.rep S1 rd)) h3) ?_ fun _ _ e => e
          rintro _ s4 ⟨W4, x4, S4, hk⟩
          exact ⟨W4, up (((x1.trans S x2).trans S x3).trans S x4), S4, flNext (F3.step0 S3 x4) hk⟩
        | _ => exact False.elim h
  | If c a b p =>
    rw [s_if] at h
    refine wpAny_If (wpAny_mono (H.t _ _ _ _ _ _ _ _ S F h) ?_ fun _ _ e => e)
    rintro r s1 ⟨W1, x1, S1, h1⟩
    have h1' : if r = true then wSs Γ mt n kd a m W1.st K else wSs Γ mt n kd b m W1.st K := h1
    cases r with
    | true => exact OK.after S (up x1) (HS.ss _ _ _ _ _ _ _ _ S1 (F.step0 S x1) (O.step x1) h1')
    | false => exact OK.after S (up x1) (HS.ss _ _ _ _ _ _ _ _ S1 (F.step0 S x1) (O.step x1) h1')
  | For t it body els p =>
    cases els with
    | cons _ _ => exact False.elim h
    | nil =>
      rw [s_for] at h
      obtain ⟨hfold, hit⟩ := H.it _ _ _ _ _ _ own _ _ _ S F O h
      refine wpAny_For (wpAny_mono hit (fun x s1 h1 => wpAny_mono h1 ?_ fun _ _ e => e) fun _ _ e => e) hfold
      rintro itv s2 ⟨W2, items, p, x2, S2, I, hlen, hk⟩
      refine ok_forLoop S F (up x2) S2 (F.step0 S x2) I O ?_ hk fun f s' q => q
      intro d m' W3 s3 v K' S3 F3 O3 rd hst
      refine wpAny_mono (ok_target a1 S3 F3 rd hst) ?_ fun _ _ e => e
      rintro _ s4 ⟨W4, x4, S4, e4, m4, hk4, F4, _⟩
      subst e4
      exact OK.after S3 x4 (HS.ss _ _ _ _ _ _ _ _ S4 F4 (O3.step x4) hk4)
  | Return e p =>
    cases e with
    | none => exact wpAny_Return_none ⟨W, Step.refl _ _, S, .ret .none, m, ⟨.none, rfl, rfl⟩, F, h⟩
    | some e =>
      rw [s_ret] at h
      refine wpAny_Return_some (wpAny_mono (H.e _ _ _ _ _ _ _ _ _ S F h) ?_ fun _ _ e => e)
      rintro u s1 ⟨W1, x1, S1, d, rd, h1⟩
      exact ⟨W1, up x1, S1, .ret d, m, ⟨u, rfl, rd⟩, F.step0 S x1, h1⟩
  | Pass p =>
    unfold OK
    rw [exec_Pass]
    exact wpAny_bind (wpAny_standAt (wpAny_pure ⟨W, Step.refl _ _, S, flNext F h⟩))
  | _ => exact False.elim h

theorem sndS_ss (HS : SndS prog w A h₀ Γ mt n) : ∀ kd ss m K own env W s, Sim h₀ W s → Fram own env kd m W s → OwnOK own s W → wSs Γ mt (n + 1) kd ss m W.st K → OK prog w A h₀ own (execs ss env) W s (FP own env kd K) := by
  intro kd ss m K own env W s S F O h
  cases ss with
  | nil => exact wpAny_execs_nil ⟨W, Step.refl _ _, S, flNext F h⟩
  | cons st r =>
    rw [wSs_cons] at h
    refine wpAny_execs_cons (wpAny_mono (HS.s _ _ _ _ _ _ _ _ S F O h) ?_ fun _ _ e => e)
    rintro f s1 ⟨W1, x1, S1, fl, m1, hf, F1, h1⟩
    cases fl with
    | next => have e : f = .next := hf; subst e; exact OK.after S x1 (HS.ss _ _ _ _ _ _ _ _ S1 F1 (O.step x1) h1)
    | brk => have e : f = .brk := hf; subst e; exact ⟨W1, x1, S1, .brk, m1, rfl, F1, h1⟩
    | cont => have e : f = .cont := hf; subst e; exact ⟨W1, x1, S1, .cont, m1, rfl, F1, h1⟩
    | ret d => obtain ⟨u, e, hu⟩ := hf; subst e; exact ⟨W1, x1, S1, .ret d, m1, ⟨u, rfl, hu⟩, F1, h1⟩

theorem sndS_all (a1 : AOk k A) (C : CtxOK prog w h₀ k Γ) : ∀ n, SndS prog w A h₀ Γ mt n
  | 0 => sndS_zero
  | n + 1 => ⟨sndS_s a1 (snd_all_n a1 C) (sndS_all a1 C n), sndS_ss (sndS_all a1 C n)⟩
end
end Mine
end

section
set_option autoImplicit false
set_option linter.unusedVariables false
namespace Mine
open PySem

section
variable {R : Addr → Option Obj} {ρ : Nat → Option Addr} {kindOf : Str → Option NameKind}
theorem bindL_else : ∀ (ps : List Str) (vs : List Value) (m : Str → Option Value) (x : Str), x ∉ ps → bindL kindOf (ps.zip vs) m x = m x
  | [], _, _, _, _ => by simp [bindL]
  | _ :: _, [], _, _, _ => by simp [bindL]
  | p :: ps, v :: vs, m, x, h => by
    simp only [List.mem_cons, not_or] at h
    rw [List.zip_cons_cons, bindL, bindL_else ps vs _ x h.2]
    split
    · exact if_neg h.1
    · rfl
theorem bindC_else : ∀ (ps : List Str) (vs : List Value) (m : Str → Option Value) (x : Str), x ∉ ps → bindC kindOf (ps.zip vs) m x = m x
  | [], _, _, _, _ => by simp [bindC]
  | _ :: _, [], _, _, _ => by simp [bindC]
  | p :: ps, v :: vs, m, x, h => by
    simp only [List.mem_cons, not_or] at h
    rw [List.zip_cons_cons, bindC, bindC_else ps vs _ x h.2]
    split
    · rfl
    · exact if_neg h.1

theorem bind_has : ∀ (ps : List Str) (ds : List D) (vs : List Value) (m m' : Str → Option Value), ps.Nodup → RepAll R ρ ds vs → ∀ x d, bindM ps ds x = some d → x ∈ ps ∧ ∃ v, Rep R ρ d v ∧
    (kindOf x = some .local → bindL kindOf (ps.zip vs) m x = some v) ∧ (kindOf x ≠ some .local → bindC kindOf (ps.zip vs) m' x = some v)
  | [], _, _, _, _, _, _, _, _, h => by simp [bindM] at h
  | _ :: _, [], _, _, _, _, _, _, _, h => by simp [bindM] at h
  | p :: ps, d' :: ds, vs, m, m', hn, hr, x, d, h => by
    obtain ⟨v, ws, rfl, rd, rs⟩ := hr
    rw [List.nodup_cons] at hn
    have h' : (if x = p then some d' else bindM ps ds x) = some d := h
    by_cases q : x = p
    · rw [if_pos q] at h'; cases h'
      subst q
      refine ⟨.head _, v, rd, fun hk => ?_, fun hk => ?_⟩
      · rw [List.zip_cons_cons, bindL, bindL_else _ _ _ _ hn.1, if_pos hk]; simp
      · rw [List.zip_cons_cons, bindC, bindC_else _ _ _ _ hn.1, if_neg hk]; simp
    · rw [if_neg q] at h'
      obtain ⟨hm, u, ru, h1, h2⟩ := bind_has ps ds ws (if kindOf p = some .local then fun y => if y = p then some v else m y else m) (if kindOf p = some .local then m' else fun y => if y = p then some v else m' y) hn.2 rs x d h'
      exact ⟨.tail _ hm, u, ru, h1, h2⟩
end

section
variable {h₀ : Heap}
mutual
theorem Rep.low {R R' : Addr → Option Obj} {ρ ρ' : Nat → Option Addr} {hi : Nat} (hR : ∀ a o, R a = some o → R' a = some o) (hρ : ∀ n a, n < hi → ρ n = some a → ρ' n = some a) : ∀ (d : D) (v : Value), d.undr hi = true → Rep R ρ d v → Rep R' ρ' d v
  | .none, _, _, h => h
  | .bool _, _, _, h => h
  | .int _, _, _, h => h
  | .str _, _, _, h => h
  | .val _, _, _, h => h
  | .loc _, _, u, ⟨a, h, e⟩ => ⟨a, hρ _ _ (of_decide_eq_true u) h, e⟩
  | .tup ds, _, u, ⟨a, vs, n, e, h, r⟩ => ⟨a, vs, n, e, hR _ _ h, RepAll.low hR hρ ds vs u r⟩
  | .list ds, _, u, ⟨a, vs, n, e, h, r⟩ => ⟨a, vs, n, e, hR _ _ h, RepAll.low hR hρ ds vs u r⟩
theorem RepAll.low {R R' : Addr → Option Obj} {ρ ρ' : Nat → Option Addr} {hi : Nat} (hR : ∀ a o, R a = some o → R' a = some o) (hρ : ∀ n a, n < hi → ρ n = some a → ρ' n = some a) : ∀ (ds : List D) (vs : List Value), undrAll hi ds = true → RepAll R ρ ds vs → RepAll R' ρ' ds vs
  | [], _, _, h => h
  | d :: ds, _, u, ⟨v, ws, e, h, r⟩ => by
    have u' := Bool.and_eq_true_iff.mp u
    exact ⟨v, ws, e, Rep.low hR hρ d v u'.1 h, RepAll.low hR hρ ds ws u'.2 r⟩
end

theorem reps_mapM {R R' : Addr → Option Obj} {ρ ρ' : Nat → Option Addr} {f : D → Option D} (hf : ∀ d v d', f d = some d' → Rep R ρ d v → Rep R' ρ' d' v) :
    ∀ (ds ds' : List D) (vs : List Value), ds.mapM f = some ds' → RepAll R ρ ds vs → RepAll R' ρ' ds' vs
  | [], ds', vs, h, r => by simp at h; subst h; exact r
  | d :: ds, ds', vs, h, r => by
    obtain ⟨y, zs, h1, h2, rfl⟩ := mapM_some_cons h
    obtain ⟨v, ws, rfl, rd, rs⟩ := r
    exact ⟨v, ws, rfl, hf d v y h1 rd, reps_mapM hf ds zs ws h2 rs⟩

/-- the world a call leaves behind: the call's own cells are frozen -/
noncomputable def leave (W : Wd) (s : Shared) (hi : Nat) : Wd :=
  { R := fun b => (W.R b).or (open Classical in if ∃ n, hi ≤ n ∧ W.ρ n = some b then s.heap.get? b else none)
    ρ := fun n => if n < hi then W.ρ n else none
    st := W.st.cut hi }

theorem leave_R {W : Wd} {s : Shared} {hi : Nat} (a : Addr) (o : Obj) (h : W.R a = some o) : (leave W s hi).R a = some o := by
  show (W.R a).or _ = some o
  rw [h]; rfl
theorem leave_ρ {W : Wd} {s : Shared} {hi : Nat} (n : Nat) (a : Addr) (q : n < hi) (h : W.ρ n = some a) : (leave W s hi).ρ n = some a := by
  show (if n < hi then W.ρ n else none) = some a
  rw [if_pos q]; exact h

theorem frz_rep {W : Wd} {s : Shared} (S : Sim h₀ W s) (hi : Nat) : ∀ (k : Nat) (d d' : D) (v : Value), frz hi W.st k d = some d' → Rep W.R W.ρ d v → Rep (leave W s hi).R (leave W s hi).ρ d' v := by
  intro k
  induction k with
  | zero =>
    intro d d' v h r
    unfold frz at h
    split at h
    · cases h; rename_i u; exact Rep.low leave_R leave_ρ _ _ u r
    · cases h
  | succ k ih =>
    intro d d' v h r
    cases d with
    | loc n =>
      simp only [frz] at h
      split at h
      · cases h; rename_i q
        obtain ⟨a, ha, e⟩ := r
        exact ⟨a, leave_ρ n a q ha, e⟩
      · rename_i q
        cases hc : W.st.cs n with
        | none => rw [hc] at h; cases h
        | some c =>
          rw [hc] at h
          cases c with
          | dict es => cases h
          | list ds =>
            simp only [Option.map_eq_some_iff] at h
            obtain ⟨ds', hm, rfl⟩ := h
            obtain ⟨a, ha, rfl⟩ := r
            obtain ⟨b, hb, vs, k', hg, hr⟩ := S.cel n _ hc
            rw [ha] at hb; cases hb
            refine ⟨a, vs, k', rfl, ?_, reps_mapM (fun d v d' h1 h2 => ih d d' v h1 h2) ds ds' vs hm hr⟩
            show (W.R a).or _ = _
            rw [(S.dis n a ha).1, Option.none_or, if_pos ⟨n, Nat.le_of_not_lt q, ha⟩]
            exact hg
    | tup ds =>
      simp only [frz] at h
      split at h
      · cases h; rename_i u; exact Rep.low leave_R leave_ρ (.tup ds) v u r
      · simp only [Option.map_eq_some_iff] at h
        obtain ⟨ds', hm, rfl⟩ := h
        obtain ⟨a, vs, n, rfl, hR, hr⟩ := r
        exact ⟨a, vs, n, rfl, leave_R _ _ hR, reps_mapM (fun d v d' h1 h2 => ih d d' v h1 h2) ds ds' vs hm hr⟩
    | list ds =>
      simp only [frz] at h
      split at h
      · cases h; rename_i u; exact Rep.low leave_R leave_ρ (.list ds) v u r
      · simp only [Option.map_eq_some_iff] at h
        obtain ⟨ds', hm, rfl⟩ := h
        obtain ⟨a, vs, n, rfl, hR, hr⟩ := r
        exact ⟨a, vs, n, rfl, leave_R _ _ hR, reps_mapM (fun d v d' h1 h2 => ih d d' v h1 h2) ds ds' vs hm hr⟩
    | _ => simp only [frz, Option.some.injEq] at h; subst h; exact r

theorem leave_step {own : Addr → Prop} {W0 W : Wd} {s0 s : Shared} (S0 : Sim h₀ W0 s0) (x : Step own s0 W0 s W) (S : Sim h₀ W s) : Step own s0 W0 s (leave W s W0.st.hi) ∧ Sim h₀ (leave W s W0.st.hi) s := by
  have ρc : ∀ n a, (leave W s W0.st.hi).ρ n = some a → n < W0.st.hi ∧ W.ρ n = some a := fun n a e => by
    have e' : (if n < W0.st.hi then W.ρ n else none) = some a := e
    split at e'
    · rename_i q; exact ⟨q, e'⟩
    · cases e'
  refine ⟨⟨x.rest, x.keep, x.live, fun b o e => ?_, fun n a e => leave_ρ n a (S0.dom n a e) (x.rho n a e), fun n a e => x.new n a (ρc n a e).2, Nat.le_refl _, fun n hn e => ?_⟩, ⟨fun b o e => leave_R b o (S.base b o e), fun b o e => ?_, fun n c e => ?_, fun n a e => ?_, fun n k a e1 e2 => S.inj n k a (ρc n a e1).2 (ρc k a e2).2, fun n a e => (ρc n a e).1⟩⟩
  · show (W.R b).or _ = W0.R b
    rw [← x.extR b o e]
    cases q : W.R b with
    | some o' => rfl
    | none =>
      rw [Option.none_or, if_neg]
      rintro ⟨n, hn, hb⟩
      rcases x.new n b hb with z | z
      · exact Nat.lt_irrefl _ (Nat.lt_of_lt_of_le (S0.dom n b z) hn)
      · rw [z] at e; cases e
  · show (if n < W0.st.hi then (match W.st.cs n with
      | some c => if c.undr W0.st.hi = true then some c else none
      | none => none) else none) = none
    rw [if_pos hn, x.hid n hn e]
  · have e' : (W.R b).or (open Classical in if ∃ n, W0.st.hi ≤ n ∧ W.ρ n = some b then s.heap.get? b else none) = some o := e
    cases q : W.R b with
    | some o' => rw [q] at e'; have : some o' = some o := e'; cases this; exact S.frz b _ q
    | none =>
      rw [q, Option.none_or] at e'
      split at e'
      · exact e'
      · cases e'
  · have e' : (if n < W0.st.hi then (match W.st.cs n with
      | some c => if c.undr W0.st.hi = true then some c else none
      | none => none) else none) = some c := e
    split at e'
    · rename_i hn
      cases hc : W.st.cs n with
      | none => rw [hc] at e'; cases e'
      | some c' =>
        rw [hc] at e'
        have e2 : (if c'.undr W0.st.hi = true then some c' else none) = some c := e'
        split at e2
        · cases e2
          rename_i u
          obtain ⟨a, ha, hcell⟩ := S.cel n _ hc
          refine ⟨a, leave_ρ n a hn ha, ?_⟩
          cases c with
          | list ds => obtain ⟨vs, k, hg, hr⟩ := hcell; exact ⟨vs, k, hg, RepAll.low leave_R leave_ρ ds vs u hr⟩
          | dict es => exact hcell
        · cases e2
    · cases e'
  · obtain ⟨hn, ha⟩ := ρc n a e
    obtain ⟨h1, h2⟩ := S.dis n a ha
    refine ⟨?_, h2⟩
    show (W.R a).or _ = none
    rw [h1, Option.none_or, if_neg]
    rintro ⟨j, hj, hb⟩
    exact Nat.lt_irrefl _ (Nat.lt_of_lt_of_le hn ((S.inj n j a ha hb) ▸ hj))
end

theorem cf_nodup : ∀ (l : List (Str × NameKind)) (n : Nat), (l.map (·.1)).Nodup → ((cellsFrom n l []).map (·.1)).Nodup
  | [], _, _ => by simp [cellsFrom]
  | (x, k) :: r, n, h => by
    rw [List.map_cons, List.nodup_cons] at h
    unfold cellsFrom
    split
    · rw [cf_app, List.map_append, List.nodup_append]
      refine ⟨cf_nodup r _ h.2, by simp, ?_⟩
      intro a ha b hb q
      simp at hb
      subst hb
      subst q
      obtain ⟨⟨y, c⟩, hm, e⟩ := List.mem_map.mp ha
      have e' : y = a := e
      subst e'
      exact h.1 (List.mem_map.mpr ⟨_, cf_from r _ y c hm, rfl⟩)
    · exact cf_nodup r n h.2
theorem lookup_nodupC {l : List (Str × NameKind)} {n : Nat} (h : (l.map (·.1)).Nodup) {x : Str} {c : Addr} (hm : (x, c) ∈ cellsFrom n l []) : (cellsFrom n l []).lookup x = some c := lookup_nodup (cf_nodup l n h) hm

/-- a plain def of the module -/
structure FnAt (h₀ : Heap) (v : Value) (params : List Str) (body : List Stmt) (scope : Scope) : Prop where
  ex : ∃ a o fd, v = .ref a ∧ h₀.get? a = some o ∧ o.data = .func fd ∧ h₀.CodeRec fd.code fd.qualname ∧ fd.body = .stmts body ∧ fd.scope = scope ∧ fd.closure = [] ∧ fd.globals = mainGlobals ∧ fd.builtins = builtinsNs ∧
    (∀ vs : List Value, vs.length = params.length → bindArgs fd ⟨vs, []⟩ = pure (params.zip vs))

noncomputable def ScopeFn (scope : Scope) (params : List Str) : Prop := scope.kind = .function ∧ scope.isCoroutine = false ∧ scope.isGenerator = false ∧ (scope.names.map (·.1)).Nodup ∧ params.Nodup ∧
  (∀ x ∈ params, scope.names.lookup x = some .local ∨ scope.names.lookup x = some .cell) ∧ ∀ p ∈ scope.names, p.1 ≠ "__debug__" ∧ p.1 ≠ "__classdict__" ∧ p.2 ≠ .free

noncomputable def fnOwn (L : Addr) (names : List (Str × NameKind)) : Addr → Prop := fun b => b = L ∨ ∃ x, (x, b) ∈ cellsFrom (L + 1) names []

section
variable {prog : Program} {w : World} {h₀ : Heap} {Γ : Ctx} {mt : Str → Bool} {k : Nat}

theorem fn_code {v : Value} {params : List Str} {body : List Stmt} {scope : Scope} (n : Nat) (C : CtxOK prog w h₀ k Γ) (hlim : h₀.NoLimit) (f : FnAt h₀ v params body scope) (sc : ScopeFn scope params)
    (A : Around) (W : Wd) (s : Shared) (ds : List D) (vs : List Value) (Q : D → St → Prop) (a1 : AOk (k + 1) A) (S : Sim h₀ W s) (hr : RepAll W.R W.ρ ds vs) (h : wFn Γ mt n (fun x => scope.names.lookup x) params body ds W.st Q) :
    codeAny (model prog w) A (.call v ⟨vs, []⟩) (fun r s' => match r with | .ok (.ret u) => Fin' h₀ noOwn s W (VP Q) u s' | .ok _ => False | .error e => E0 e s') s := by
  obtain ⟨a, o, fd, rfl, ho, hd, hcd, hbody, rfl, hclo, hgl, hbi, hbind⟩ := f.ex
  obtain ⟨hlen, h⟩ := h
  have up : ∀ b o, h₀.get? b = some o → s.heap.get? b = some o := fun b o e => S.frz b o (S.base b o e)
  have hvl : vs.length = params.length := by rw [hr.length]; exact hlen
  refine (codeAny_call_cells (by have := a1.dp; show A.depth < 1000; omega) (up _ _ ho) hd (hlim.keeps up) (hcd.keeps up) hbody (hbind vs hvl) hclo ?_ ?_ sc.2.1 sc.2.2.1 sc.1)
  · intro x hx
    have hm : x.1 ∈ params := (List.of_mem_zip hx).1
    rcases sc.2.2.2.2.2.1 x.1 hm with q | q
    · exact .inl q
    · refine .inr ⟨q, ?_⟩
      obtain ⟨c, hc⟩ := cf_has fd.scope.names (s.heap.objs.size + 1) x.1 (mem_of_lookup q)
      obtain ⟨c', hc'⟩ := lookup_mem hc
      rw [hc']; rfl
  · intro s1 X
    generalize henv : callEnvC fd s.heap.objs.size a = env at X ⊢
    have hL : env.locals = s.heap.objs.size := by rw [← henv]; rfl
    have hcells : env.cells = cellsFrom (s.heap.objs.size + 1) fd.scope.names [] := by rw [← henv]; rfl
    have hko : env.kindOf = fun x => fd.scope.names.lookup x := by rw [← henv]; rfl
    obtain ⟨h1, tk1, hs1⟩ := X.toInCall.same
    have dead : ∀ b, s.heap.objs.size ≤ b → s.heap.get? b = none := fun b hb => dead_ge hb
    have ρd : ∀ b, s.heap.get? b = none → ∀ n, W.ρ n ≠ some b := fun b hb n q => by obtain ⟨_, o, e⟩ := S.dis n b q; rw [hb] at e; cases e
    have Rd : ∀ b, s.heap.get? b = none → W.R b = none := fun b hb => by
      cases q : W.R b with
      | none => rfl
      | some o => have := S.frz b o q; rw [hb] at this; cases this
    have gst : Step noOwn s W s1 W ∧ Sim h₀ W s1 := by
      subst hs1
      exact S.grow (tk := tk1) X.toInCall.keep
    have above : ∀ x c, (x, c) ∈ cellsFrom (s.heap.objs.size + 1) fd.scope.names [] → s.heap.objs.size < c := fun x c hm => by have := X.above x c (by rw [hcells]; exact hm); rwa [hL] at this
    have hcd' : ∀ x c, (x, c) ∈ cellsFrom (s.heap.objs.size + 1) fd.scope.names [] → s.heap.get? c = none := fun x c hm => dead c (Nat.le_of_lt (above x c hm))
    have ownd : ∀ b, fnOwn s.heap.objs.size fd.scope.names b → s.heap.get? b = none := by
      rintro b (rfl | ⟨x, hx⟩)
      · exact dead _ (Nat.le_refl _)
      · exact hcd' x b hx
    have F : Fram (fnOwn s.heap.objs.size fd.scope.names) env (fun x => fd.scope.names.lookup x) (bindM params ds) W s1 := by
      refine ⟨by rw [← henv]; exact sc.1, by rw [← henv]; exact hgl, by rw [← henv]; exact hbi, fun x k hk _ => by rw [hko]; exact hk, ⟨?_, ?_⟩, fun x d hx => ?_, ⟨_, X.toInCall.ns⟩, fun x c e => ?_, fun x y c e1 e2 => ?_, ⟨by rw [hL]; exact .inl rfl, by rw [hL]; exact Rd _ (dead _ (Nat.le_refl _)), by rw [hL]; exact ρd _ (dead _ (Nat.le_refl _))⟩, fun x hx => ?_, fun x hx => ?_⟩
      · cases q : fd.scope.names.lookup ("__debug__" : Str) with
        | none => rfl
        | some k => exact absurd rfl (sc.2.2.2.2.2.2 _ (mem_of_lookup q)).1
      · cases q : fd.scope.names.lookup ("__classdict__" : Str) with
        | none => rfl
        | some k => exact absurd rfl (sc.2.2.2.2.2.2 _ (mem_of_lookup q)).2.1
      · obtain ⟨hm, v, rv, b1, b2⟩ := bind_has (kindOf := env.kindOf) params ds vs (fun _ => none) (fun _ => none) sc.2.2.2.2.1 hr x d hx
        rcases sc.2.2.2.2.2.1 x hm with q | q
        · have hne : fd.scope.names.lookup x ≠ none := by rw [q]; exact fun z => nomatch z
          refine ⟨hne, v, Or.inl ⟨by rw [hko]; exact q, _, X.toInCall.ns, b1 (by rw [hko]; exact q)⟩, rv⟩
        · have hk : env.kindOf x = some .cell := by rw [hko]; exact q
          obtain ⟨c, hc⟩ := cf_has fd.scope.names (s.heap.objs.size + 1) x (mem_of_lookup q)
          obtain ⟨c', hc'⟩ := lookup_mem hc
          have hne : fd.scope.names.lookup x ≠ none := by rw [q]; exact fun z => nomatch z
          refine ⟨hne, v, Or.inr ⟨.inl hk, c', by rw [hcells]; exact hc', ?_⟩, rv⟩
          have := X.cell x c' (by rw [hcells]; exact hc')
          rw [b2 (by rw [hk]; exact fun z => nomatch z)] at this
          exact this
      · have e' := mem_of_lookup e
        rw [hcells] at e'
        refine ⟨⟨_, X.cell x c e⟩, fun q => ?_, ρd c (hcd' x c e')⟩
        have := above x c e'
        rw [q, hL] at this
        exact Nat.lt_irrefl _ this
      · exact name_of_addr X.apart (mem_of_lookup e1) (mem_of_lookup e2)
      · obtain ⟨c, hc⟩ := cf_has fd.scope.names (s.heap.objs.size + 1) x (mem_of_lookup hx)
        obtain ⟨c', hc'⟩ := lookup_mem hc
        exact ⟨c', by rw [hcells]; exact hc', .inr ⟨x, mem_of_lookup hc'⟩, Rd c' (hcd' x c' (mem_of_lookup hc'))⟩
      · exact absurd rfl (sc.2.2.2.2.2.2 _ (mem_of_lookup hx)).2.2
    have O : OwnOK (fnOwn s.heap.objs.size fd.scope.names) s1 W := by
      rintro b hb
      refine ⟨?_, Rd b (ownd b hb), ρd b (ownd b hb)⟩
      rcases hb with rfl | ⟨x, hx⟩
      · obtain ⟨o, _, _, e, _⟩ := X.toInCall.ns; rw [hL] at e; exact ⟨o, e⟩
      · have hc := mem_of_lookup (lookup_nodupC sc.2.2.2.1 hx)
        obtain ⟨o, e, _⟩ := X.cell x b (by rw [hcells]; exact lookup_nodupC sc.2.2.2.1 hx)
        exact ⟨o, e⟩
    have a2 : AOk k (A.deeper env) := ⟨a1.hn, by have := a1.dp; show A.depth + 1 + k < 990; omega, by have := a1.un; show A.units + 3 + 8 * k < 8000; omega⟩
    refine wpAny_mono ((sndS_all (mt := mt) a2 C n).ss _ _ _ _ _ _ _ _ gst.2 F O h) ?_ fun _ _ e => e.elim
    rintro fl s2 ⟨W2, x2, S2, q, m2, hf, _, hq⟩
    have x3 : Step noOwn s W s2 W2 := ((gst.1.wide fun _ _ _ q => q.elim).trans S x2).wide fun b o e q => by rw [ownd b q] at e; cases e
    have fin : ∀ (u : Value) (d : D), Rep W2.R W2.ρ d u → (if W2.st.hi = W.st.hi then Q d W2.st else ∃ d', frz W.st.hi W2.st 3 d = some d' ∧ Q d' (W2.st.cut W.st.hi)) → Fin' h₀ noOwn s W (VP Q) u s2 := fun u d ru hq => by
      split at hq
      · exact ⟨W2, x3, S2, d, ru, hq⟩
      · obtain ⟨d', hz, hq⟩ := hq
        obtain ⟨x4, S4⟩ := leave_step S x3 S2
        exact ⟨_, x4, S4, d', frz_rep S2 _ 3 d d' u hz ru, hq⟩
    cases q with
    | next =>
      have e : fl = .next := hf
      subst e
      refine fin .none .none rfl ?_
      have hq' : if W2.st.hi = W.st.hi then Q .none W2.st else Q .none (W2.st.cut W.st.hi) := hq
      split at hq'
      · rename_i z; rw [if_pos z]; exact hq'
      · rename_i z; rw [if_neg z]; exact ⟨.none, rfl, hq'⟩
    | ret d => obtain ⟨u, e, ru⟩ := hf; subst e; exact fin u d ru hq
    | brk => exact False.elim hq
    | cont => exact False.elim hq

theorem fn_sound {v : Value} {params : List Str} {body : List Stmt} {scope : Scope} (n : Nat) (C : CtxOK prog w h₀ k Γ) (hlim : h₀.NoLimit) (f : FnAt h₀ v params body scope) (sc : ScopeFn scope params) :
    CallOK prog w h₀ (k + 1) (wFn Γ mt n (fun x => scope.names.lookup x) params body) v := by
  refine ⟨?_, fun A W s ds vs Q a1 S hr h => wpAny_call (fn_code n C hlim f sc A W s ds vs Q a1 S hr h)⟩
  obtain ⟨a, o, fd, rfl, ho, hd, _⟩ := f.ex
  exact ⟨a, o, fd, rfl, ho, hd⟩
theorem CallOK.up {S : FSpec} {v : Value} {j : Nat} (h : CallOK prog w h₀ k S v) (hk : k ≤ j) : CallOK prog w h₀ j S v :=
  ⟨h.1, fun A W s ds vs Q a1 => h.2 A W s ds vs Q ⟨a1.hn, by have := a1.dp; omega, by have := a1.un; omega⟩⟩
end
end Mine
end

section
set_option autoImplicit false
set_option linter.unusedSimpArgs false
set_option linter.unusedVariables false
namespace Mine
open PySem
theorem pick_from {α : Type} (xs : List α) {i : Int} (h : 0 ≤ i) : pickL xs (some i) none none = xs.drop i.toNat := by
  obtain ⟨a, rfl⟩ : ∃ a : Nat, i = (a : Int) := ⟨i.toNat, by omega⟩
  unfold pickL
  rw [sliceBounds_plain]
  simp only [Option.elim, clipAt_nat, sliceRange_one, Int.toNat_natCast]
  have := pick_run xs.toArray (min a xs.length) (xs.length - min a xs.length)
  simp only [List.getElem?_toArray] at this
  rw [this]
  rcases Nat.le_total a xs.length with q | q
  · rw [Nat.min_eq_left q, List.take_of_length_le (by simp)]
  · rw [Nat.min_eq_right q, List.drop_of_length_le (by simp), List.drop_of_length_le q]; simp
theorem pick_upto' {α : Type} (xs : List α) {i : Int} (h : 0 ≤ i) : pickL xs none (some i) none = xs.take i.toNat := by
  obtain ⟨a, rfl⟩ : ∃ a : Nat, i = (a : Int) := ⟨i.toNat, by omega⟩
  unfold pickL
  rw [sliceBounds_plain]
  simp only [Option.elim, clipAt_nat, sliceRange_one, Int.toNat_natCast]
  have := pick_run xs.toArray 0 (min a xs.length - 0)
  simp only [List.getElem?_toArray] at this
  rw [this]
  rcases Nat.le_total a xs.length with q | q
  · rw [Nat.min_eq_left q]; simp
  · rw [Nat.min_eq_right q, List.take_of_length_le q, List.take_of_length_le (by simp)]; simp
theorem rev_run {α : Type} (xs : List α) : ∀ k : Nat, k ≤ xs.length → (List.range k).filterMap (fun j => xs[xs.length - 1 - j]?) = (xs.drop (xs.length - k)).reverse
  | 0, _ => by simp
  | k + 1, h => by
    have hl : xs.length - (k + 1) < xs.length := by omega
    have e1 : xs.length - (k + 1) + 1 = xs.length - k := by omega
    have e2 : xs.length - 1 - k = xs.length - (k + 1) := by omega
    rw [List.range_succ, List.filterMap_append, rev_run xs k (by omega), List.drop_eq_getElem_cons hl, e1, List.reverse_cons]
    congr 1
    simp only [List.filterMap_cons, List.filterMap_nil, e2, List.getElem?_eq_getElem hl]
theorem pick_rev {α : Type} (xs : List α) : pickL xs none none (some (-1)) = xs.reverse := by
  unfold pickL
  have e : sliceRange (sliceBounds none none (some (-1)) xs.length).1 (sliceBounds none none (some (-1)) xs.length).2.1 (sliceBounds none none (some (-1)) xs.length).2.2 = (List.range xs.length).map fun k => xs.length - 1 - k := by
    show sliceRange ((xs.length : Int) - 1) (-1) (-1) = _
    unfold sliceRange
    have c : (if (-1 : Int) > 0 then (if (xs.length : Int) - 1 < -1 then (-1 - ((xs.length : Int) - 1) + -1 - 1) / -1 else 0) else (if (xs.length : Int) - 1 > -1 then ((xs.length : Int) - 1 - -1 - -1 - 1) / (- -1) else 0)) = (xs.length : Int) := by
      rw [if_neg (by decide)]
      by_cases q : (xs.length : Int) - 1 > -1
      · rw [if_pos q, show (- -1 : Int) = 1 from rfl, Int.ediv_one]; omega
      · rw [if_neg q]; omega
    simp only [c, Int.toNat_natCast]
    apply List.map_congr_left
    intro k _
    omega
  rw [e, List.filterMap_map]
  have := rev_run xs xs.length (Nat.le_refl _)
  rw [Nat.sub_self, List.drop_zero] at this
  exact this
section
variable {trk : Bool} {xs : List D} {i : Int} {st : St} {Q : D → St → Prop}
theorem sl_from (h : 0 ≤ i) : wSlice trk (.list xs) (.int i) .none .none st Q = (xs.length ≤ lim ∧ mkList trk (xs.drop i.toNat) st Q) := by
  refine propext (Iff.intro ?_ ?_)
  rotate_left
  · rintro ⟨h1, h2⟩; exact ⟨some i, none, none, rfl, rfl, rfl, by simp, xs, rfl, h1, by rw [pick_from xs h]; exact h2⟩
  rintro ⟨lo, hi, sp, h1, h2, h3, h4, ys, e, h5, h6⟩
  cases h1; cases h2; cases h3; cases e
  rw [pick_from xs h] at h6; exact ⟨h5, h6⟩
theorem sl_upto (h : 0 ≤ i) : wSlice trk (.list xs) .none (.int i) .none st Q = (xs.length ≤ lim ∧ mkList trk (xs.take i.toNat) st Q) := by
  refine propext (Iff.intro ?_ ?_)
  rotate_left
  · rintro ⟨h1, h2⟩; exact ⟨none, some i, none, rfl, rfl, rfl, by simp, xs, rfl, h1, by rw [pick_upto' xs h]; exact h2⟩
  rintro ⟨lo, hi, sp, h1, h2, h3, h4, ys, e, h5, h6⟩
  cases h1; cases h2; cases h3; cases e
  rw [pick_upto' xs h] at h6; exact ⟨h5, h6⟩
theorem sl_rev : wSlice trk (.list xs) .none .none (.int (-1)) st Q = (xs.length ≤ lim ∧ mkList trk xs.reverse st Q) := by
  refine propext (Iff.intro ?_ ?_)
  rotate_left
  · rintro ⟨h1, h2⟩; exact ⟨none, none, some (-1), rfl, rfl, rfl, by simp, xs, rfl, h1, by rw [pick_rev xs]; exact h2⟩
  rintro ⟨lo, hi, sp, h1, h2, h3, h4, ys, e, h5, h6⟩
  cases h1; cases h2; cases h3; cases e
  rw [pick_rev xs] at h6; exact ⟨h5, h6⟩
theorem sl_tfrom {a : Nat} (h1 : 1 ≤ a) (h2 : a ≤ xs.length) (h3 : xs.length ≤ lim) (h : Q (.tup (xs.drop a)) st) : wSlice trk (.tup xs) (.int (a : Int)) .none .none st Q :=
  ⟨some a, none, none, rfl, rfl, rfl, by simp, rfl, h3, .inl ⟨a, rfl, rfl, h1, h2, h⟩⟩
theorem sl_tupto {b : Nat} (h2 : b < xs.length) (h3 : xs.length ≤ lim) (h : Q (.tup (xs.take b)) st) : wSlice trk (.tup xs) .none (.int (b : Int)) .none st Q :=
  ⟨none, some b, none, rfl, rfl, rfl, by simp, rfl, h3, .inr ⟨b, rfl, rfl, h2, h⟩⟩
end
end Mine
end

section
set_option autoImplicit false
set_option linter.unusedVariables false
namespace Mine
open PySem
structure WfSt (st : St) : Prop where
  top : ∀ n, st.hi ≤ n → st.cs n = none
  und : ∀ n c, st.cs n = some c → c.undr st.hi = true

theorem alloc_put (st : St) (c c' : Cell) : (st.alloc c).put st.hi c' = st.alloc c' := by
  simp only [St.alloc, St.put, St.mk.injEq, true_and]
  funext n
  by_cases h : n = st.hi <;> simp [h]
theorem alloc_cut {st : St} (w : WfSt st) (c : Cell) : (st.alloc c).cut st.hi = st := by
  obtain ⟨hi, cs⟩ := st
  simp only [St.alloc, St.cut, St.mk.injEq, true_and]
  funext n
  by_cases h : n < hi
  · rw [if_pos h, if_neg (Nat.ne_of_lt h)]
    cases q : cs n with
    | none => rfl
    | some c' => show (if Cell.undr hi c' = true then some c' else none) = some c'; rw [if_pos (w.und n c' q)]
  · rw [if_neg h]; exact (w.top n (Nat.le_of_not_lt h)).symm
theorem undr_dI (hi : Nat) (ns : List Int) : undrAll hi (dI ns) = true := by
  induction ns with
  | nil => rfl
  | cons n ns ih => simp only [dI, List.map_cons, undrAll, D.undr, Bool.true_and]; exact ih

theorem dI_set (ns : List Int) (j : Nat) (x : Int) : (dI ns).set j (.int x) = dI (ns.set j x) := by simp [dI, List.map_set]
theorem flat_rep (w : Nat) : (List.replicate w [D.int 0]).flatten = dI (List.replicate w 0) := by
  induction w with
  | zero => rfl
  | succ w ih => simp only [List.replicate_succ, List.flatten_cons, ih]; rfl
theorem lstD_alloc {st : St} {ds : List D} : lstD (st.alloc (.list ds)) (.loc st.hi) = some ds := by simp [lstD, St.alloc]

theorem seqD_loc {st : St} {n : Nat} {ds : List D} (h : st.cs n = some (.list ds)) : seqD st (.loc n) = some ds := by simp only [seqD, h]
theorem alloc_cs (st : St) (c : Cell) : (st.alloc c).cs st.hi = some c := by simp [St.alloc]

theorem m_append {n : Nat} {x : D} {st : St} {Q : D → St → Prop} : wMeth "append" (.loc n) [x] st Q = ∃ xs, st.cs n = some (.list xs) ∧ xs.length ≤ lim ∧ Q .none (st.put n (.list (xs ++ [x]))) := by
  unfold wMeth
  rw [if_pos rfl]
  refine propext (Iff.intro ?_ ?_)
  rotate_left
  · rintro ⟨xs, h⟩; exact ⟨n, x, xs, rfl, rfl, h⟩
  rintro ⟨n', x', xs, e1, e2, h⟩
  cases e1; cases e2; exact ⟨xs, h⟩

theorem ints_dI (is : List Int) : intsD (dI is) = some is := by
  induction is with
  | nil => rfl
  | cons i is ih => simp only [dI, List.map_cons, intsD]; rw [show List.map D.int is = dI is from rfl, ih]; rfl

theorem pys_dI (ns : List Int) : pys (dI ns) = some (ns.map .int) := by
  induction ns with
  | nil => rfl
  | cons n ns ih => simp only [dI, List.map_cons, pys, D.py]; rw [show List.map D.int ns = dI ns from rfl, ih]
theorem lay_ints (ns : List Int) : PyData.canLayAll0 (ns.map .int) = true := by
  induction ns with
  | nil => rfl
  | cons n ns ih => simp only [List.map_cons, PyData.canLayAll0, PyData.canLay0, ih, Bool.and_self]
theorem deep_ints (ns : List Int) : PyData.depthAll (ns.map .int) = 0 := by
  induction ns with
  | nil => rfl
  | cons n ns ih => simp only [List.map_cons, PyData.depthAll, PyData.depth, ih]; rfl
theorem deep_ok {x : PyData} (h : x.depth ≤ 1000) : deepOk x x := by unfold deepOk; omega

mutual
theorem undr_up {hi : Nat} : ∀ (d : D), d.undr hi = true → d.undr (hi + 1) = true
  | .none, _ => rfl
  | .bool _, _ => rfl
  | .int _, _ => rfl
  | .str _, _ => rfl
  | .val _, _ => rfl
  | .loc n, h => by simp only [D.undr, decide_eq_true_eq] at h ⊢; omega
  | .tup ds, h => undrAll_up ds h
  | .list ds, h => undrAll_up ds h
theorem undrAll_up {hi : Nat} : ∀ (ds : List D), undrAll hi ds = true → undrAll (hi + 1) ds = true
  | [], _ => rfl
  | d :: ds, h => by
    have h' := Bool.and_eq_true_iff.mp h
    exact Bool.and_eq_true_iff.mpr ⟨undr_up d h'.1, undrAll_up ds h'.2⟩
end
theorem it_lst {st : St} {d : D} {xs : List D} (h : lstD st d = some xs) {KI : List D → (Nat → Bool) → Prop} : wIterD d st KI = KI xs (pinOf d) := by
  cases d with
  | list ds => cases h; exact it_list
  | loc n =>
    have : st.cs n = some (.list xs) := by
      simp only [lstD] at h
      split at h
      · rename_i q; cases h; exact q
      · cases h
    exact it_loc this
  | _ => cases h
theorem seq_lst {st : St} {d : D} {xs : List D} (h : lstD st d = some xs) : seqD st d = some xs := by
  cases d <;> first | exact h | cases h
theorem b_min2 {trk : Bool} {i j : Int} {st : St} {Q : D → St → Prop} : wBuiltin trk "min" [.int i, .int j] st Q = Q (.int (min i j)) st := by
  unfold wBuiltin
  rw [if_neg (by decide +kernel), if_neg (by decide +kernel), if_neg (by decide +kernel), if_neg (by decide +kernel), if_pos rfl]
  refine propext ⟨fun h => ?_, fun h => .inl ⟨i, j, rfl, h⟩⟩
  rcases h with ⟨i', j', e, h⟩ | ⟨d, xs, is, i', e, _⟩
  · cases e; exact h
  · cases e
theorem b_min1 {trk : Bool} {is : List Int} {i : Int} {st : St} {Q : D → St → Prop} (h1 : i ∈ is) (h2 : ∀ a ∈ is, i ≤ a) (h : Q (.int i) st) : wBuiltin trk "min" [.list (dI is)] st Q := by
  unfold wBuiltin
  rw [if_neg (by decide +kernel), if_neg (by decide +kernel), if_neg (by decide +kernel), if_neg (by decide +kernel), if_pos rfl]
  exact .inr ⟨_, _, is, i, rfl, rfl, ints_dI is, h1, h2, h⟩
theorem b_max1 {trk : Bool} {is : List Int} {i : Int} {st : St} {Q : D → St → Prop} (h1 : i ∈ is) (h2 : ∀ a ∈ is, a ≤ i) (h : Q (.int i) st) : wBuiltin trk "max" [.list (dI is)] st Q := by
  unfold wBuiltin
  rw [if_neg (by decide +kernel), if_neg (by decide +kernel), if_neg (by decide +kernel), if_neg (by decide +kernel), if_neg (by decide +kernel), if_pos rfl]
  exact ⟨_, _, is, i, rfl, rfl, ints_dI is, h1, h2, h⟩
theorem m_index {is : List Int} {i : Int} {st : St} {Q : D → St → Prop} (h1 : i ∈ is) (h2 : is.length ≤ 1000) (h : Q (.int (is.idxOf i)) st) : wMeth "index" (.list (dI is)) [.int i] st Q := by
  unfold wMeth
  rw [if_neg (by decide +kernel), if_neg (by decide +kernel), if_neg (by decide +kernel), if_pos rfl]
  exact ⟨i, _, is, rfl, rfl, ints_dI is, h1, by rw [dI_len]; exact Nat.le_trans h2 (by decide), h⟩
theorem m_clear {n : Nat} {xs : List D} {st : St} {Q : D → St → Prop} (h1 : st.cs n = some (.list xs)) (h2 : xs.length ≤ 1000) (h : Q .none (st.put n (.list []))) : wMeth "clear" (.loc n) [] st Q := by
  unfold wMeth
  rw [if_neg (by decide +kernel), if_pos rfl]
  exact ⟨n, xs, rfl, rfl, h1, Nat.le_trans h2 (by decide), h⟩
theorem m_extend {n : Nat} {xs ys : List D} {st : St} {Q : D → St → Prop} (h1 : st.cs n = some (.list xs)) (h2 : xs.length + ys.length ≤ 1000) (h : Q .none (st.put n (.list (xs ++ ys)))) : wMeth "extend" (.loc n) [.list ys] st Q := by
  unfold wMeth
  rw [if_neg (by decide +kernel), if_neg (by decide +kernel), if_pos rfl]
  exact ⟨n, _, xs, ys, rfl, rfl, h1, rfl, Nat.le_trans h2 (by decide), h⟩
theorem is_none {a : D} {st : St} {K : Bool → Prop} (h : isValD a = false) : wCmp1 .Is a .none st K = K (isNoneD a) := propext ⟨fun ⟨_, _, q⟩ => q, fun q => ⟨rfl, h, q⟩⟩
theorem isnot_none {a : D} {st : St} {K : Bool → Prop} (h : isValD a = false) : wCmp1 .IsNot a .none st K = K (!isNoneD a) := propext ⟨fun ⟨_, _, q⟩ => q, fun q => ⟨rfl, h, q⟩⟩
theorem lim_le {a : Nat} (h : a ≤ 1000) : a ≤ lim := Nat.le_trans h (by decide)

/- law 07's data -/
noncomputable def smD (b : List Int × Int) : D := .tup [.tup (dI b.1), .int b.2]
noncomputable def prD (p : Int × Int) : D := .tup [.int p.1, .int p.2]
inductive Tr where
  | sum (n : Int)
  | cut (b a : Int) (l r : Tr)
noncomputable def trD : Tr → D
  | .sum n => .tup [.str "sum", .int n]
  | .cut b a l r => .tup [.str "cut", .int b, .int a, trD l, trD r]
noncomputable def Tr.deep : Tr → Nat
  | .sum _ => 1
  | .cut _ _ l r => max l.deep r.deep + 1
noncomputable def lsum : List Int → List (Int × Int) → Int
  | a :: as, p :: ps => min (a * p.1) (a * p.2) + lsum as ps
  | _, _ => 0
noncomputable def least (one : List Int × Int) (bs : List (Int × Int)) : Int := one.2 + lsum one.1 bs
noncomputable def isTree (sm : List (List Int × Int)) : List (Int × Int) → Tr → Bool
  | bs, .sum n => decide (0 ≤ n) && decide (n < sm.length) && decide (0 < least (sm.getD n.toNat ([], 0)) bs)
  | bs, .cut b a l r => decide (0 ≤ b) && decide (b < bs.length) && (decide ((bs.getD b.toNat (0, 0)).1 ≤ a) && decide (a < (bs.getD b.toNat (0, 0)).2)) &&
      isTree sm (bs.set b.toNat ((bs.getD b.toNat (0, 0)).1, a)) l && isTree sm (bs.set b.toNat (a + 1, (bs.getD b.toNat (0, 0)).2)) r
theorem lsum_take : ∀ (ns : List Int) (bs : List (Int × Int)) (i : Nat) (a : Int) (b : Int × Int), ns[i]? = some a → bs[i]? = some b → lsum (ns.take (i + 1)) (bs.take (i + 1)) = lsum (ns.take i) (bs.take i) + min (a * b.1) (a * b.2)
  | n :: ns, h :: hs, 0, a, b, h1, h2 => by simp at h1 h2; subst h1; subst h2; simp [lsum]
  | n :: ns, h :: hs, i + 1, a, b, h1, h2 => by
    have := lsum_take ns hs i a b (by simpa using h1) (by simpa using h2)
    simp only [List.take_succ_cons, lsum, this]; omega
  | [], _, _, _, _, h1, _ => by simp at h1
  | _ :: _, [], _, _, _, _, h2 => by simp at h2
theorem lsum_min (ns : List Int) (hs : List (Int × Int)) : lsum (ns.take (min ns.length hs.length)) (hs.take (min ns.length hs.length)) = lsum ns hs := by
  induction ns generalizing hs with
  | nil => simp [lsum]
  | cons n ns ih =>
    cases hs with
    | nil => simp [lsum]
    | cons h hs => simp only [List.length_cons, Nat.succ_min_succ, List.take_succ_cons, lsum, ih]
theorem zipP_get {ns : List Int} {bx : List (Int × Int)} {i : Nat} {d : D} (h : (zipL (dI ns) (bx.map prD))[i]? = some d) : ∃ a b, ns[i]? = some a ∧ bx[i]? = some b ∧ d = .tup [.int a, prD b] := by
  simp only [zipL, dI, List.getElem?_map, Option.map_eq_some_iff] at h
  obtain ⟨⟨x, y⟩, h1, rfl⟩ := h
  rw [List.getElem?_zip_eq_some] at h1
  simp only [List.getElem?_map, Option.map_eq_some_iff] at h1
  obtain ⟨⟨a, ha, rfl⟩, b, hb, rfl⟩ := h1
  exact ⟨a, b, ha, hb, rfl⟩
theorem enum_get {α : Type} {f : α → D} {xs : List α} {i : Nat} {d : D} (h : (enumL (xs.map f))[i]? = some d) : ∃ a, xs[i]? = some a ∧ d = .tup [.int (i : Nat), f a] := by
  simp only [enumL, List.getElem?_map, List.getElem?_zipIdx, Option.map_map, Option.map_eq_some_iff, Nat.zero_add] at h
  obtain ⟨a, h1, rfl⟩ := h
  exact ⟨a, h1, rfl⟩
theorem pr_get {bs : List (Int × Int)} {k : Nat} (h : k < bs.length) : (bs.map prD)[k]? = some (prD (bs.getD k (0, 0))) ∧ bs.getD k (0, 0) ∈ bs := by simp [h]
theorem sm_get {bs : List (List Int × Int)} {k : Nat} (h : k < bs.length) : (bs.map smD)[k]? = some (smD (bs.getD k ([], 0))) ∧ bs.getD k ([], 0) ∈ bs := by simp [h]
theorem set_cut {α : Type} {f : α → D} {bs : List α} {k : Nat} (h : k < bs.length) (p : α) : ((bs.map f).take k ++ [f p]) ++ (bs.map f).drop (k + 1) = (bs.set k p).map f := by
  rw [List.set_eq_take_append_cons_drop, if_pos h]
  simp
theorem cut_lims {n : Nat} (k : Nat) (h : n ≤ 3) : (n ≤ lim) = True ∧ (min k n ≤ lim) = True ∧ (min k n + 1 ≤ lim) = True ∧ (n - (k + 1) ≤ lim) = True ∧ (min k n + 1 + (n - (k + 1)) ≤ lim) = True := by
  have hlim : lim = 1000000 := rfl
  exact ⟨eq_true (by omega), eq_true (by omega), eq_true (by omega), eq_true (by omega), eq_true (by omega)⟩
theorem wItem_mod {d : D} {x m : Int} {st : St} {Q : D → St → Prop} (h0 : 0 < m) (h1 : m ≤ 1000000) : wItem d (.int (x % m)) st Q = ∃ xs, seqD st d = some xs ∧ ∃ y, xs[(x % m).toNat]? = some y ∧ Q y st :=
  wItem_lit (Int.emod_nonneg x (Int.ne_of_gt h0)) (Int.lt_of_lt_of_le (Int.emod_lt_of_pos x h0) h1)
theorem mod2 (x : Int) : x % 2 = 0 ∨ x % 2 = 1 := by omega
theorem mod3 (x : Int) : x % 3 = 0 ∨ x % 3 = 1 ∨ x % 3 = 2 := by omega
theorem mod4 (x : Int) : x % 4 = 0 ∨ x % 4 = 1 ∨ x % 4 = 2 ∨ x % 4 = 3 := by omega
theorem md {x m c : Int} (h0 : 0 < m) (h1 : m ≤ 500) (hc : c.natAbs ≤ 500) : (x % m - c).natAbs ≤ 1000 := by
  have p1 := Int.emod_nonneg x (Int.ne_of_gt h0)
  have p2 := Int.emod_lt_of_pos x h0
  omega
theorem md0 {x m : Int} (h0 : 0 < m) (h1 : m ≤ 500) : (x % m).natAbs ≤ 1000 := by
  have p1 := Int.emod_nonneg x (Int.ne_of_gt h0)
  have p2 := Int.emod_lt_of_pos x h0
  omega
theorem mdn {x m : Int} (h0 : 0 < m) (h1 : m ≤ 500) : (-(x % m)).natAbs ≤ 1000 := by rw [Int.natAbs_neg]; exact md0 h0 h1
end Mine
end

section
set_option autoImplicit false
set_option linter.unusedSimpArgs false
set_option linter.unusedVariables false
set_option maxRecDepth 100000
namespace Mine
open PySem
noncomputable def atV (sc : List Int) (k : Int) : Int := ((if 0 < sc.length then sc.getD (k % sc.length).toNat 0 else 0) + 17 * k) * 48271 % 1000003
theorem at_pos (sc : List Int) (k : Int) : 0 ≤ atV sc k ∧ atV sc k < 1000003 := by
  unfold atV; exact ⟨Int.emod_nonneg _ (by decide), Int.emod_lt_of_pos _ (by decide)⟩
noncomputable def OkB (bs : List (Int × Int)) : Prop := bs.length ≤ 3 ∧ ∀ p ∈ bs, -1000 ≤ p.1 ∧ p.1 ≤ p.2 ∧ p.2 ≤ 1000
noncomputable def OkS (n : Nat) (one : List Int × Int) : Prop := one.1.length = n ∧ (∀ a ∈ one.1, a.natAbs ≤ 1000) ∧ one.2.natAbs ≤ 1000
theorem big3 {i : Int} (h : i.natAbs ≤ 1000000) : Big i := Nat.lt_of_le_of_lt h (by decide)
theorem mul3 {i j : Int} (hi : i.natAbs ≤ 1000000) (hj : j.natAbs ≤ 1000000) : IntMulOk i j := mulOk (big3 hi) (big3 hj)
noncomputable def SpAt (S : FSpec) : Prop := ∀ (sc : List Int) (k : Int) (st : St) (Q : D → St → Prop), sc.length ≤ 1000 → Q (.int (atV sc k)) st → S [.list (dI sc), .int k] st Q
noncomputable def SpWhole (S : FSpec) : Prop := ∀ (i : Int) (st : St) (Q : D → St → Prop), Q (.bool true) st → S [.int i] st Q
noncomputable def SpValue (S : FSpec) : Prop := ∀ (one : List Int × Int) (hs : List Int) (st : St) (Q : D → St → Prop), OkS hs.length one → hs.length ≤ 3 → (∀ a ∈ hs, a.natAbs ≤ 1000) → Q (.int (one.2 + dot one.1 hs)) st → S [smD one, .list (dI hs)] st Q
noncomputable def SpLeast (S : FSpec) : Prop := ∀ (one : List Int × Int) (sD : D) (bs : List (Int × Int)) (st : St) (Q : D → St → Prop), seqD st sD = some (bs.map prD) → OkB bs → OkS bs.length one → Q (.int (least one bs)) st → S [smD one, sD] st Q
noncomputable def SpLLeast (S : FSpec) : Prop := ∀ (one : List Int × Int) (bs : List (Int × Int)) (st : St) (Q : D → St → Prop), OkB bs → OkS bs.length one → Q (.int (least one bs)) st → S [smD one, .list (bs.map prD)] st Q
noncomputable def SpCut (S : FSpec) : Prop := ∀ (bs : List (Int × Int)) (k : Nat) (a : Int) (st : St) (Q : D → St → Prop), k < bs.length → bs.length ≤ 3 → Q (.tup [.list ((bs.set k ((bs.getD k (0, 0)).1, a)).map prD), .list ((bs.set k (a + 1, (bs.getD k (0, 0)).2)).map prD)]) st → S [.list (bs.map prD), .int k, .int a] st Q
noncomputable def SpWidest (S : FSpec) : Prop := ∀ (sD : D) (bs : List (Int × Int)) (st : St) (Q : D → St → Prop), lstD st sD = some (bs.map prD) → 0 < bs.length → OkB bs →
  (∀ k : Nat, k < bs.length → (∀ p ∈ bs, p.2 - p.1 ≤ (bs.getD k (0, 0)).2 - (bs.getD k (0, 0)).1) → Q (.int k) st) → S [sD] st Q
noncomputable def SpUnit (S : FSpec) : Prop := ∀ (n k : Nat) (a c : Int) (st : St) (Q : D → St → Prop), WfSt st → k < n → n ≤ 3 → Q (smD ((List.replicate n 0).set k a, c)) st → S [.int n, .int k, .int a, .int c] st Q

theorem at_ok {Γ : Ctx} (h1 : Γ.fn "len" = none) : SpAt (wFn Γ (fun _ => false) 60 (kdOf PySem.Challenge.pw_uf010033_07 8) ["_law_script", "_law_k"] (bodyOf PySem.Challenge.pw_uf010033_07 8)) := by
  intro sc k st Q hl1 hQ
  refine fn_intro rfl ?_
  generalize hkd : kdOf PySem.Challenge.pw_uf010033_07 8 = kd
  obtain ⟨kd0, kd1, kd2, kd3⟩ : kd "_law_script" = some .local ∧ kd "_law_k" = some .local ∧ kd "_law_cell" = some .local ∧ kd "len" = some .globalImplicit := by
    subst hkd; exact ⟨rfl, rfl, rfl, rfl⟩
  clear hkd
  dsimp only [bodyOf, PySem.Challenge.pw_uf010033_07, List.getElem?_cons_succ, List.getElem?_cons_zero]
  rw [wSs_cons]
  simp only [own_l, e_int, s_asgN, th_next, bind_nil, bind_cons, true_and, kd2]
  rw [wSs_cons]
  simp only [gl_g, nm_l, upd_str, call_n, e_int, e_name, e_call, es_nil, es_cons, c_one, t_cmp, s_if, ss_nil, th_next, x_gt, blt1, ns_nil, b_len, seqD_list, String.reduceEq, ↓reduceIte, Option.some.injEq, true_and, exists_eq_left', ns_cons, str_name, Bool.not_false, Bool.and_self, forall_const, kd0, kd3, h1]
  refine ⟨by rw [dI_len]; exact Nat.le_trans hl1 (by decide), ?_⟩
  rw [dI_len]
  unfold atV at hQ
  by_cases h0 : 0 < sc.length
  · rw [if_pos h0] at hQ
    rw [if_pos (by simpa using h0)]
    have p1 := Int.emod_nonneg k (b := (sc.length : Int)) (by omega)
    have p2 := Int.emod_lt_of_pos k (b := (sc.length : Int)) (by omega)
    have hg : (dI sc)[(k % (sc.length : Int)).toNat]? = some (.int (sc.getD (k % sc.length).toNat 0)) := by
      have : (k % (sc.length : Int)).toNat < sc.length := by omega
      simp [dI, this]
    rw [wSs_cons]
    simp only [gl_g, own_l, nm_l, upd_str, call_n, e_name, e_bin, e_call, e_itemB, es_nil, es_cons, s_asgN, ss_nil, th_next, x_mod, blt1, ns_nil, b_len, seqD_list, String.reduceEq, ↓reduceIte, Option.some.injEq, true_and, exists_eq_left', ns_cons, str_name, Bool.not_false, Bool.and_self, forall_const, kd0, kd1, kd2, kd3, h1, dI_len]
    refine ⟨Nat.le_trans hl1 (by decide), by omega, ?_⟩
    rw [wItem_lit (by omega) (by omega)]
    simp only [seqD_list, Option.some.injEq, exists_eq_left', hg]
    rw [wSs_cons]
    simp only [nm_l, upd_str, e_int, e_name, e_bin, s_ret, th_ret, fin_ret, x_add, x_mul, x_mod, String.reduceEq, ↓reduceIte, Option.some.injEq, true_and, exists_eq_left', Int.reduceLT, kd1, kd2]
    exact ⟨IntMulOk.of_left (intBits_le_64 (by decide) (by decide)), IntMulOk.of_right (intBits_le_64 (by decide) (by decide)), hQ⟩
  · rw [if_neg h0] at hQ
    rw [if_neg (by simpa using h0)]
    rw [wSs_cons]
    simp only [nm_l, upd_str, e_int, e_name, e_bin, s_ret, th_ret, fin_ret, x_add, x_mul, x_mod, String.reduceEq, ↓reduceIte, Option.some.injEq, true_and, exists_eq_left', Int.reduceLT, kd1, kd2]
    exact ⟨IntMulOk.of_left (intBits_le_64 (by decide) (by decide)), IntMulOk.of_right (intBits_le_64 (by decide) (by decide)), hQ⟩

theorem lwhole_ok {Γ : Ctx} (h1 : Γ.fn "isinstance" = none) (h2 : Γ.gl "int" = some (.val (.type "int"))) (h3 : Γ.gl "bool" = some (.val (.type "bool"))) : SpWhole (wFn Γ (fun _ => false) 60 (kdOf PySem.Challenge.pw_uf010033_07 9) ["_law_thing"] (bodyOf PySem.Challenge.pw_uf010033_07 9)) := by
  intro k st Q hQ
  refine fn_intro rfl ?_
  generalize hkd : kdOf PySem.Challenge.pw_uf010033_07 9 = kd
  obtain ⟨kd0, kd1, kd2, kd3⟩ : kd "_law_thing" = some .local ∧ kd "isinstance" = some .globalImplicit ∧ kd "int" = some .globalImplicit ∧ kd "bool" = some .globalImplicit := by
    subst hkd; exact ⟨rfl, rfl, rfl, rfl⟩
  clear hkd
  dsimp only [bodyOf, PySem.Challenge.pw_uf010033_07, List.getElem?_cons_succ, List.getElem?_cons_zero]
  rw [wSs_cons]
  simp only [gl_g, nm_l, nm_g, upd_str, call_n, e_name, e_boolop, e_un, e_call, es_nil, es_cons, b_one, b_two, s_ret, th_ret, fin_ret, x_not, tr_bool, sa_at, blt2, ns_nil, bind_nil, bind_cons, b_isinstance, ti_ii, ti_ib, ↓reduceIte, Option.some.injEq, true_and, exists_eq_left', Bool.false_eq_true, ns_cons, str_name, Bool.not_false, Bool.and_self, forall_const, kd0, kd1, kd2, kd3, h1, h2, h3]
  exact hQ
theorem whole_ok {Γ : Ctx} (h1 : Γ.fn "isinstance" = none) (h2 : Γ.gl "int" = some (.val (.type "int"))) (h3 : Γ.gl "bool" = some (.val (.type "bool"))) : SpWhole (wFn Γ (fun _ => false) 60 (kdOf PySem.Challenge.pw_uf010033_07 5) ["thing"] (bodyOf PySem.Challenge.pw_uf010033_07 5)) := by
  intro k st Q hQ
  refine fn_intro rfl ?_
  generalize hkd : kdOf PySem.Challenge.pw_uf010033_07 5 = kd
  obtain ⟨kd0, kd1, kd2, kd3⟩ : kd "thing" = some .local ∧ kd "isinstance" = some .globalImplicit ∧ kd "int" = some .globalImplicit ∧ kd "bool" = some .globalImplicit := by
    subst hkd; exact ⟨rfl, rfl, rfl, rfl⟩
  clear hkd
  dsimp only [bodyOf, PySem.Challenge.pw_uf010033_07, List.getElem?_cons_succ, List.getElem?_cons_zero]
  rw [wSs_cons]
  simp only [gl_g, nm_l, nm_g, upd_str, call_n, e_name, e_boolop, e_un, e_call, es_nil, es_cons, b_one, b_two, s_ret, th_ret, fin_ret, x_not, tr_bool, sa_at, blt2, ns_nil, bind_nil, bind_cons, b_isinstance, ti_ii, ti_ib, ↓reduceIte, Option.some.injEq, true_and, exists_eq_left', Bool.false_eq_true, ns_cons, str_name, Bool.not_false, Bool.and_self, forall_const, kd0, kd1, kd2, kd3, h1, h2, h3]
  exact hQ

theorem lvalue_ok {Γ : Ctx} (h1 : Γ.fn "len" = none) (h2 : Γ.fn "range" = none) : SpValue (wFn Γ (fun _ => false) 60 (kdOf PySem.Challenge.pw_uf010033_07 10) ["_law_one", "_law_filling"] (bodyOf PySem.Challenge.pw_uf010033_07 10)) := by
  intro one hs st Q ok hl2 hb2 hQ
  obtain ⟨ns, c⟩ := one
  obtain ⟨hl1, hb1, _⟩ := ok
  refine fn_intro rfl ?_
  generalize hkd : kdOf PySem.Challenge.pw_uf010033_07 10 = kd
  obtain ⟨kd0, kd1, kd2, kd3, kd4, kd5⟩ : kd "_law_one" = some .local ∧ kd "_law_filling" = some .local ∧ kd "_law_found" = some .local ∧ kd "_law_k" = some .local ∧ kd "range" = some .globalImplicit ∧ kd "len" = some .globalImplicit := by
    subst hkd; exact ⟨rfl, rfl, rfl, rfl, rfl, rfl⟩
  clear hkd
  dsimp only [bodyOf, PySem.Challenge.pw_uf010033_07, List.getElem?_cons_succ, List.getElem?_cons_zero]
  rw [wSs_cons]
  simp only [own_l, nm_l, upd_str, e_int, e_name, e_itemC, s_asgN, th_next, bind_nil, bind_cons, wItem_lit, seqD_tup, ↓reduceIte, Option.some.injEq, true_and, exists_eq_left', Int.reduceLE, Int.reduceLT, Int.reduceToNat, List.getElem?_cons_succ, List.getElem?_cons_zero, kd0, kd2, smD]
  rw [wSs_cons]
  simp only [gl_g, own_l, nm_l, upd_str, call_n, e_name, e_call, es_nil, es_cons, i_range, s_for, tg_name, ic_range1, blt1, ns_nil, b_len, hide_false, back_false, seqD_list, String.reduceEq, ↓reduceIte, Option.some.injEq, true_and, exists_eq_left', ns_cons, str_name, str_call, Bool.not_false, Bool.and_self, forall_const, kd1, kd3, kd4, kd5, h1, h2, dI_len]
  have hlim : lim = 1000000 := rfl
  repeat (with_reducible refine And.intro ?_ ?_; focus omega)
  refine wFor_inv (fun i m' st' => st' = st ∧ m' "_law_one" = some (.tup [.tup (dI ns), .int c]) ∧ m' "_law_filling" = some (.list (dI hs)) ∧ m' "_law_found" = some (.int (c + dot (ns.take i) (hs.take i)))) _ [] ⟨rfl, by simp only [upd_str, String.reduceEq, ↓reduceIte], by simp only [upd_str, String.reduceEq, ↓reduceIte], by simp [upd, dot]⟩ ?_ ?_
  · rintro i d m' st' K hd ⟨rfl, m1, m2, hm⟩ hK
    obtain ⟨hi, rfl⟩ := rangeN_get hd
    obtain ⟨a, ha, ha'⟩ := getI (ns := ns) (i := i) (by simp at hl1; omega)
    obtain ⟨b, hb, hb'⟩ := getI (ns := hs) (i := i) (by omega)
    rw [wSs_cons]
    simp only [own_l, nm_l, upd_str, e_int, e_name, e_bin, e_itemC, e_itemN, s_asgN, ss_nil, th_next, x_add, x_mul, wItem_lit, seqD_tup, seqD_list, String.reduceEq, ↓reduceIte, Option.some.injEq, true_and, exists_eq_left', Int.reduceLE, Int.reduceLT, Int.reduceToNat, List.getElem?_cons_zero, kd0, kd1, kd2, kd3, m1, m2, hm, wItem_nat (i := i) (by omega), dI_get ha, dI_get hb]
    refine ⟨mul3 (Nat.le_trans (hb1 a ha') (by decide)) (Nat.le_trans (hb2 b hb') (by decide)), hK _ _ ⟨rfl, ?_, ?_, ?_⟩⟩
    · simp only [upd_str, String.reduceEq, ↓reduceIte, m1]
    · simp only [upd_str, String.reduceEq, ↓reduceIte, m2]
    · simp only [upd_str, ↓reduceIte, Option.some.injEq]
      rw [dot_take ns hs i a b ha hb]
      simp only [Int.add_assoc]
  · rintro m' st' ⟨rfl, m1, m2, hm⟩
    rw [List.nil_append, rangeN_len] at hm
    have e : dot (ns.take hs.length) (hs.take hs.length) = dot ns hs := by
      have := dot_min ns hs
      simp at hl1
      rwa [Nat.min_eq_right (by omega)] at this
    rw [e] at hm
    rw [th_next, wSs_cons]
    simp only [nm_l, e_name, s_ret, th_ret, fin_ret, Option.some.injEq, exists_eq_left', kd2, hm]
    exact hQ

theorem least_ok {Γ : Ctx} (h1 : Γ.fn "zip" = none) (h2 : Γ.fn "min" = none) : SpLeast (wFn Γ (fun _ => false) 60 (kdOf PySem.Challenge.pw_uf010033_07 1) ["one", "stretch"] (bodyOf PySem.Challenge.pw_uf010033_07 1)) := by
  intro one sD bs st Q hs okb ok hQ
  obtain ⟨ns, c⟩ := one
  obtain ⟨hl1, hb1, _⟩ := ok
  obtain ⟨hl2, hb2⟩ := okb
  simp only at hl1 hb1
  refine fn_intro rfl ?_
  generalize hkd : kdOf PySem.Challenge.pw_uf010033_07 1 = kd
  obtain ⟨kd0, kd1, kd2, kd3, kd4, kd5, kd6⟩ : kd "one" = some .local ∧ kd "stretch" = some .local ∧ kd "found" = some .local ∧ kd "number" = some .local ∧ kd "pair" = some .local ∧ kd "zip" = some .globalImplicit ∧ kd "min" = some .globalImplicit := by
    subst hkd; exact ⟨rfl, rfl, rfl, rfl, rfl, rfl, rfl⟩
  clear hkd
  dsimp only [bodyOf, PySem.Challenge.pw_uf010033_07, List.getElem?_cons_succ, List.getElem?_cons_zero]
  rw [wSs_cons]
  simp only [own_l, nm_l, upd_str, e_int, e_name, e_itemC, s_asgN, th_next, bind_nil, bind_cons, wItem_lit, seqD_tup, ↓reduceIte, Option.some.injEq, true_and, exists_eq_left', Int.reduceLE, Int.reduceLT, Int.reduceToNat, List.getElem?_cons_succ, List.getElem?_cons_zero, kd0, kd2, smD]
  rw [wSs_cons]
  simp only [gl_g, nm_l, upd_str, e_int, e_name, e_itemC, es_nil, es_cons, i_zip, s_for, p_tup, ns_nil, wItem_lit, seqD_tup, String.reduceEq, ↓reduceIte, Option.some.injEq, true_and, exists_eq_left', Int.reduceLE, Int.reduceLT, Int.reduceToNat, List.getElem?_cons_zero, ns_cons, str_name, str_sub, te_tup, Bool.not_false, Bool.and_self, kd0, kd1, kd5, h1, ic_zip seqD_tup hs, dI_len, List.length_map]
  refine ⟨lim_le (by omega), lim_le (by omega), ?_⟩
  refine wFor_inv (fun i m' st' => st' = st.hide (fun k => false || pinOf sD k) ∧ m' "found" = some (.int (c + lsum (ns.take i) (bs.take i)))) _ [] ⟨rfl, by simp [upd, lsum]⟩ ?_ ?_
  · rintro i d m' st' K hd ⟨rfl, hm⟩ hK
    obtain ⟨a, b, ha, hb, rfl⟩ := zipP_get hd
    simp only [own_l, tg_two, true_and, kd3, kd4]
    rw [wSs_cons]
    simp only [gl_g, own_l, nm_l, upd_str, call_n, e_int, e_name, e_bin, e_call, e_itemC, es_nil, es_cons, s_asgN, ss_nil, th_next, x_add, x_mul, blt5, ns_nil, wItem_lit, seqD_tup, String.reduceEq, ↓reduceIte, Option.some.injEq, true_and, exists_eq_left', Int.reduceLE, Int.reduceLT, Int.reduceToNat, List.getElem?_cons_succ, List.getElem?_cons_zero, ns_cons, str_bin, Bool.not_false, Bool.and_self, forall_const, kd2, kd3, kd4, kd6, hm, h2, prD, b_min2]
    have q := hb2 b (List.mem_of_getElem? hb)
    have q1 := hb1 a (List.mem_of_getElem? ha)
    refine ⟨mul3 (by omega) (by omega), mul3 (by omega) (by omega), hK _ _ ⟨rfl, ?_⟩⟩
    simp only [upd_str, ↓reduceIte, Option.some.injEq]
    rw [lsum_take ns bs i a b ha hb]
    simp only [Int.add_assoc]
  · rintro m' st' ⟨rfl, hm⟩
    rw [hide_back]
    simp only [List.nil_append] at hm
    have e : (zipL (dI ns) (bs.map prD)).length = min ns.length bs.length := by simp [zipL, dI]
    rw [e, lsum_min] at hm
    rw [th_next, wSs_cons]
    simp only [nm_l, e_name, s_ret, th_ret, fin_ret, Option.some.injEq, exists_eq_left', kd2, hm]
    exact hQ
end Mine
end

section
set_option autoImplicit false
set_option linter.unusedSimpArgs false
set_option linter.unusedVariables false
set_option maxRecDepth 100000
set_option maxHeartbeats 4000000
namespace Mine
open PySem
theorem max_in : ∀ (l : List Int), l ≠ [] → ∃ m ∈ l, ∀ a ∈ l, a ≤ m
  | [], h => absurd rfl h
  | [a], _ => ⟨a, by simp, by simp⟩
  | a :: b :: l, _ => by
    obtain ⟨m, h1, h2⟩ := max_in (b :: l) (by simp)
    by_cases q : a ≤ m
    · exact ⟨m, .tail _ h1, fun x hx => by
        cases hx with
        | head => exact q
        | tail _ hx => exact h2 x hx⟩
    · exact ⟨a, .head _, fun x hx => by
        cases hx with
        | head => exact Int.le_refl _
        | tail _ hx => have := h2 x hx; omega⟩

theorem cut_ok {Γ : Ctx} : SpCut (wFn Γ (fun _ => false) 60 (kdOf PySem.Challenge.pw_uf010033_07 2) ["stretch", "box", "at"] (bodyOf PySem.Challenge.pw_uf010033_07 2)) := by
  intro bs k a st Q hk hl hQ
  obtain ⟨hg, _⟩ := pr_get hk
  have hlim : lim = 1000000 := rfl
  have hk1 : ((k : Int) + 1).toNat = k + 1 := by omega
  obtain ⟨a1, a2, a3, a4, a5⟩ := cut_lims k hl
  refine fn_intro rfl ?_
  generalize hkd : kdOf PySem.Challenge.pw_uf010033_07 2 = kd
  obtain ⟨kd0, kd1, kd2, kd3, kd4, kd5, kd6⟩ : kd "stretch" = some .local ∧ kd "box" = some .local ∧ kd "at" = some .local ∧ kd "low" = some .local ∧ kd "high" = some .local ∧ kd "below" = some .local ∧ kd "above" = some .local := by
    subst hkd; exact ⟨rfl, rfl, rfl, rfl, rfl, rfl, rfl⟩
  clear hkd
  dsimp only [bodyOf, PySem.Challenge.pw_uf010033_07, List.getElem?_cons_succ, List.getElem?_cons_zero]
  rw [wSs_cons]
  simp only [own_l, nm_l, upd_str, e_name, e_itemN, s_asgT, th_next, tg_two, bind_nil, bind_cons, seqD_list, String.reduceEq, ↓reduceIte, Option.some.injEq, true_and, exists_eq_left', te_sub, kd0, kd1, kd3, kd4, wItem_nat (i := k) (by omega), hg, prD]
  rw [wSs_cons]
  simp only [own_l, nm_l, upd_str, e_int, e_name, e_bin, e_slice, e_tup, e_list, es_nil, es_cons, o_none, o_some, s_asgN, th_next, x_add, x_addL, mk_f, String.reduceEq, ↓reduceIte, Option.some.injEq, true_and, exists_eq_left', lim1, lim2, List.length_cons, List.length_nil, Nat.zero_add, Nat.reduceAdd, kd0, kd1, kd2, kd3, kd5, a1, a2, a3, a4, a5, sl_upto (i := (k : Int)) (by omega), sl_from (i := (k : Int) + 1) (by omega), Int.toNat_natCast, hk1, List.length_map, List.length_append, List.length_take, List.length_drop]
  repeat (with_reducible refine And.intro ?_ ?_; focus omega)
  rw [wSs_cons]
  simp only [own_l, nm_l, upd_str, e_int, e_name, e_bin, e_slice, e_tup, e_list, es_nil, es_cons, o_none, o_some, s_asgN, th_next, x_add, x_addL, mk_f, String.reduceEq, ↓reduceIte, Option.some.injEq, true_and, exists_eq_left', lim1, lim2, List.length_cons, List.length_nil, Nat.zero_add, Nat.reduceAdd, kd0, kd1, kd2, kd4, kd6, a1, a2, a3, a4, a5, sl_upto (i := (k : Int)) (by omega), sl_from (i := (k : Int) + 1) (by omega), Int.toNat_natCast, hk1, List.length_map, List.length_append, List.length_take, List.length_drop]
  repeat (with_reducible refine And.intro ?_ ?_; focus omega)
  rw [wSs_cons]
  simp only [nm_l, upd_str, e_name, e_tup, es_nil, es_cons, s_ret, th_ret, fin_ret, String.reduceEq, ↓reduceIte, Option.some.injEq, true_and, exists_eq_left', lim2, List.length_cons, List.length_nil, Nat.zero_add, Nat.reduceAdd, kd5, kd6]
  repeat (with_reducible refine And.intro ?_ ?_; focus omega)
  have e1 := set_cut (f := prD) hk ((bs.getD k (0, 0)).1, a)
  have e2 := set_cut (f := prD) hk (a + 1, (bs.getD k (0, 0)).2)
  simp only [prD] at e1 e2
  rw [← e1, ← e2] at hQ
  exact hQ

theorem widest_ok {Γ : Ctx} (h1 : Γ.fn "max" = none) : SpWidest (wFn Γ (fun _ => false) 60 (kdOf PySem.Challenge.pw_uf010033_07 3) ["stretch"] (bodyOf PySem.Challenge.pw_uf010033_07 3)) := by
  intro sD bs st Q hs h0 okb hQ
  obtain ⟨hl, hb⟩ := okb
  refine fn_intro rfl ?_
  generalize hkd : kdOf PySem.Challenge.pw_uf010033_07 3 = kd
  obtain ⟨kd0, kd1, kd2⟩ : kd "stretch" = some .local ∧ kd "wide" = some .local ∧ kd "max" = some .globalImplicit := by
    subst hkd; exact ⟨rfl, rfl, rfl⟩
  clear hkd
  dsimp only [bodyOf, PySem.Challenge.pw_uf010033_07, List.getElem?_cons_succ, List.getElem?_cons_zero]
  rw [wSs_cons]
  simp only [own_l, nm_l, upd_str, lk_str, e_int, e_name, e_bin, e_itemC, e_comp0, i_name, s_asgN, th_next, tg_name, mk_f, bind_nil, bind_cons, wItem_lit, String.reduceEq, ↓reduceIte, Option.some.injEq, true_and, exists_eq_left', Int.reduceLE, Int.reduceLT, Int.reduceToNat, kd0, kd1, it_lst hs, List.length_map]
  refine ⟨by simp [ScopeOk, ofString_inj, kd0, kd1, kd2, lk_str], lim_le (by omega), ?_⟩
  refine wComp_list (α := Int × Int) prD (fun p => .int (p.2 - p.1)) bs [] (fun p hp K hK => ?_) ?_
  · simp only [x_sub, seqD_tup, Option.some.injEq, exists_eq_left', List.getElem?_cons_succ, List.getElem?_cons_zero, prD]; exact hK
  have e : [] ++ bs.map (fun p => D.int (p.2 - p.1)) = dI (bs.map fun p => p.2 - p.1) := by simp [dI]
  rw [e, hide_back]
  obtain ⟨m, hm1, hm2⟩ := max_in (bs.map fun p => p.2 - p.1) (by intro q; rw [List.map_eq_nil_iff] at q; subst q; cases h0)
  simp only [dI_len, List.length_map]
  refine ⟨lim_le (by omega), ?_⟩
  rw [wSs_cons]
  simp only [gl_g, nm_l, upd_str, call_n, e_name, e_call, e_meth1, es_nil, es_cons, s_ret, th_ret, blt6, me_index, ns_nil, lstD_list, ↓reduceIte, Option.some.injEq, true_and, exists_eq_left', ns_cons, str_name, str_call, ce_name, Bool.not_false, Bool.and_self, forall_const, Nat.reduceBEq, kd1, kd2, h1, Option.isSome_some]
  refine b_max1 hm1 hm2 ?_
  refine m_index hm1 (by rw [List.length_map]; omega) ?_
  rw [fin_ret]
  have hi : (bs.map fun p => p.2 - p.1).idxOf m < bs.length := by
    have := List.idxOf_lt_length_of_mem hm1
    simpa using this
  refine hQ _ hi fun p hp => ?_
  have h3 := hm2 (p.2 - p.1) (List.mem_map.mpr ⟨p, hp, rfl⟩)
  have h4 : (bs.map fun p => p.2 - p.1)[(bs.map fun p => p.2 - p.1).idxOf m]? = some m := by
    rw [List.getElem?_eq_getElem (by simpa using hi)]
    simp [List.getElem_idxOf]
  rw [List.getElem?_map] at h4
  rw [List.getElem?_eq_getElem hi] at h4
  simp only [Option.map_some, Option.some.injEq] at h4
  have h5 : bs.getD ((bs.map fun p => p.2 - p.1).idxOf m) (0, 0) = bs[(bs.map fun p => p.2 - p.1).idxOf m] := by simp [hi]
  rw [h5, h4]; exact h3

noncomputable def mtNum (x : Str) : Bool := x == "_law_numbers"
theorem mtNum_str (a : String) : mtNum (Str.ofString a) = decide (a = "_law_numbers") := ofString_beq a _
theorem unit_ok {Γ : Ctx} (h1 : Γ.fn "tuple" = none) : SpUnit (wFn Γ mtNum 60 (kdOf PySem.Challenge.pw_uf010033_07 12) ["_law_many", "_law_box", "_law_number", "_law_more"] (bodyOf PySem.Challenge.pw_uf010033_07 12)) := by
  intro n k a c st Q wf hk hn hQ
  have hlim : lim = 1000000 := rfl
  refine fn_intro rfl ?_
  generalize hkd : kdOf PySem.Challenge.pw_uf010033_07 12 = kd
  obtain ⟨kd0, kd1, kd2, kd3, kd4, kd5⟩ : kd "_law_many" = some .local ∧ kd "_law_box" = some .local ∧ kd "_law_number" = some .local ∧ kd "_law_more" = some .local ∧ kd "_law_numbers" = some .local ∧ kd "tuple" = some .globalImplicit := by
    subst hkd; exact ⟨rfl, rfl, rfl, rfl, rfl, rfl⟩
  clear hkd
  dsimp only [bodyOf, PySem.Challenge.pw_uf010033_07, List.getElem?_cons_succ, List.getElem?_cons_zero]
  rw [wSs_cons]
  simp only [own_l, nm_l, upd_str, e_int, e_name, e_bin, e_list, es_nil, es_cons, s_asgN, th_next, x_mulL, mk_f, mk_t, bind_nil, bind_cons, ↓reduceIte, Option.some.injEq, true_and, exists_eq_left', lim1, List.length_cons, List.length_nil, Nat.reduceLeDiff, Nat.zero_add, decide_true, kd0, kd4, mtNum_str, Int.toNat_natCast, flat_rep, dI_len, List.length_replicate]
  repeat (with_reducible refine And.intro ?_ ?_; focus omega)
  rw [wSs_cons]
  simp only [nm_l, upd_str, e_name, s_asgS, th_next, String.reduceEq, ↓reduceIte, Option.some.injEq, true_and, exists_eq_left', se_name, kd1, kd2, kd4, wSetItem]
  refine ⟨st.hi, _, rfl, alloc_cs _ _, by omega, by rw [dI_len, List.length_replicate]; omega, by rw [dI_len, List.length_replicate]; omega, ?_⟩
  rw [alloc_put, Int.toNat_natCast, dI_set]
  rw [wSs_cons]
  simp only [gl_g, nm_l, upd_str, call_n, e_name, e_call, e_tup, es_nil, es_cons, s_ret, th_ret, blt4, ns_nil, b_tuple, String.reduceEq, ↓reduceIte, Option.some.injEq, true_and, exists_eq_left', ns_cons, str_name, lim2, Bool.not_false, Bool.and_self, forall_const, List.length_cons, List.length_nil, Nat.zero_add, Nat.reduceAdd, kd3, kd4, kd5, h1, lstD_alloc, dI_len, List.length_set, List.length_replicate]
  repeat (with_reducible refine And.intro ?_ ?_; focus omega)
  refine fin_cut (d' := smD ((List.replicate n 0).set k a, c)) (by simp [St.alloc]) ?_ (by rw [alloc_cut wf]; exact hQ)
  simp only [smD, frz, undrAll, D.undr, undr_dI, Bool.and_true, if_true]

theorem lleast_ok {Γ : Ctx} (h1 : Γ.fn "len" = none) (h2 : Γ.fn "range" = none) (h3 : Γ.fn "min" = none) : SpLLeast (wFn Γ (fun _ => false) 60 (kdOf PySem.Challenge.pw_uf010033_07 18) ["_law_one", "_law_stretch_here"] (bodyOf PySem.Challenge.pw_uf010033_07 18)) := by
  intro one bs st Q okb ok hQ
  obtain ⟨ns, c⟩ := one
  obtain ⟨hl1, hb1, _⟩ := ok
  obtain ⟨hl2, hb2⟩ := okb
  simp only at hl1 hb1
  have hlim : lim = 1000000 := rfl
  refine fn_intro rfl ?_
  generalize hkd : kdOf PySem.Challenge.pw_uf010033_07 18 = kd
  obtain ⟨kd0, kd1, kd2, kd3, kd4, kd5, kd6⟩ : kd "_law_stretch_here" = some .local ∧ kd "_law_found" = some .local ∧ kd "_law_one" = some .cell ∧ kd "_law_k" = some .cell ∧ kd "range" = some .globalImplicit ∧ kd "len" = some .globalImplicit ∧ kd "min" = some .globalImplicit := by
    subst hkd; exact ⟨rfl, rfl, rfl, rfl, rfl, rfl, rfl⟩
  clear hkd
  dsimp only [bodyOf, PySem.Challenge.pw_uf010033_07, List.getElem?_cons_succ, List.getElem?_cons_zero]
  rw [wSs_cons]
  simp only [own_l, nm_c, upd_str, e_int, e_name, e_itemC, s_asgN, th_next, bind_nil, bind_cons, wItem_lit, seqD_tup, ↓reduceIte, Option.some.injEq, true_and, exists_eq_left', Int.reduceLE, Int.reduceLT, Int.reduceToNat, List.getElem?_cons_succ, List.getElem?_cons_zero, kd1, kd2, smD]
  rw [wSs_cons]
  simp only [gl_g, own_c, nm_l, upd_str, call_n, e_name, e_call, es_nil, es_cons, i_range, s_for, tg_name, ic_range1, blt1, ns_nil, b_len, hide_false, back_false, seqD_list, String.reduceEq, ↓reduceIte, Option.some.injEq, true_and, exists_eq_left', ns_cons, str_name, str_call, Bool.not_false, Bool.and_self, forall_const, kd0, kd3, kd4, kd5, h1, h2, List.length_map]
  repeat (with_reducible refine And.intro ?_ ?_; focus omega)
  refine wFor_inv (fun i m' st' => st' = st ∧ m' "_law_one" = some (.tup [.tup (dI ns), .int c]) ∧ m' "_law_stretch_here" = some (.list (bs.map prD)) ∧ m' "_law_found" = some (.int (c + lsum (ns.take i) (bs.take i)))) _ [] ⟨rfl, by simp only [upd_str, String.reduceEq, ↓reduceIte], by simp only [upd_str, String.reduceEq, ↓reduceIte], by simp [upd, lsum]⟩ ?_ ?_
  · rintro i d m' st' K hd ⟨rfl, m1, m2, hm⟩ hK
    obtain ⟨hi, rfl⟩ := rangeN_get hd
    obtain ⟨a, ha, ha'⟩ := getI (ns := ns) (i := i) (by omega)
    obtain ⟨hg, hgm⟩ := pr_get (bs := bs) (k := i) (by omega)
    have hb : bs[i]? = some (bs.getD i (0, 0)) := by simp [show i < bs.length by omega]
    generalize bs.getD i (0, 0) = b at hg hgm hb
    have q := hb2 b hgm
    have q1 := hb1 a ha'
    rw [wSs_cons]
    simp only [gl_g, own_l, nm_l, nm_c, nm_f, upd_str, lk_str, call_n, e_int, e_name, e_bin, e_call, e_itemC, e_itemN, e_comp0, es_nil, es_cons, i_sub, s_asgN, ss_nil, th_next, tg_name, mk_f, it_tup, blt5, ns_nil, hide_false, back_false, wItem_lit, seqD_tup, seqD_list, String.reduceEq, ↓reduceIte, Option.some.injEq, true_and, exists_eq_left', Int.reduceLE, Int.reduceLT, Int.reduceToNat, List.getElem?_cons_zero, ns_cons, str_comp, lim2, Bool.not_false, Bool.and_self, forall_const, List.length_cons, List.length_nil, Nat.zero_add, Nat.reduceAdd, kd0, kd1, kd3, kd6, m1, m2, hm, h3, wItem_nat (i := i) (by omega), hg, prD]
    refine ⟨by simp [ScopeOk, ofString_inj, kd0, kd1, kd2, kd3, kd4, kd5, kd6, lk_str], ?_⟩
    repeat (with_reducible refine And.intro ?_ ?_; focus omega)
    refine wComp_list (α := Int) .int (fun p => .int (a * p)) [b.1, b.2] [] (fun p hp K hK => ?_) ?_
    · simp only [x_mul, Option.some.injEq, exists_eq_left', dI_get ha]
      refine ⟨mul3 (by omega) ?_, hK⟩
      simp at hp; omega
    simp only [true_and, lim2, List.length_cons, List.length_nil, Nat.zero_add, Nat.reduceAdd, List.map_cons, List.map_nil, List.nil_append]
    repeat (with_reducible refine And.intro ?_ ?_; focus omega)
    have e : [D.int (a * b.1), D.int (a * b.2)] = dI [a * b.1, a * b.2] := rfl
    rw [e]
    refine b_min1 (i := min (a * b.1) (a * b.2)) (by simp; omega) (by simp; omega) ?_
    simp only [x_add]
    refine hK _ _ ⟨rfl, ?_, ?_, ?_⟩
    · simp only [upd_str, String.reduceEq, ↓reduceIte, m1]
    · simp only [upd_str, String.reduceEq, ↓reduceIte, m2]
    · simp only [upd_str, ↓reduceIte, Option.some.injEq]
      rw [lsum_take ns bs i a b ha hb]
      simp only [Int.add_assoc]
  · rintro m' st' ⟨rfl, m1, m2, hm⟩
    rw [List.nil_append, rangeN_len] at hm
    have e : lsum (ns.take bs.length) (bs.take bs.length) = lsum ns bs := by
      have := lsum_min ns bs
      rwa [Nat.min_eq_right (by omega)] at this
    rw [e] at hm
    rw [th_next, wSs_cons]
    simp only [nm_l, e_name, s_ret, th_ret, fin_ret, Option.some.injEq, exists_eq_left', kd1, hm]
    exact hQ
end Mine
end

section
set_option autoImplicit false
set_option linter.unusedVariables false
namespace Mine
open PySem

noncomputable def wid (p : Int × Int) : Nat := (p.2 - p.1).toNat
noncomputable def width (bs : List (Int × Int)) : Nat := (bs.map wid).sum
noncomputable def InB : List (Int × Int) → List Int → Prop
  | [], [] => True
  | p :: ps, a :: as => p.1 ≤ a ∧ a ≤ p.2 ∧ InB ps as
  | _, _ => False
noncomputable def good (sm : List (List Int × Int)) (f : List Int) : Prop := ∀ s ∈ sm, s.2 + dot s.1 f ≤ 0

theorem width_set : ∀ (bs : List (Int × Int)) (k : Nat) (q : Int × Int), k < bs.length → width (bs.set k q) + wid (bs.getD k (0, 0)) = width bs + wid q
  | p :: bs, 0, q, _ => by simp [width]; omega
  | p :: bs, k + 1, q, h => by
    have := width_set bs k q (by simpa using h)
    simp only [width, List.set_cons_succ, List.map_cons, List.sum_cons, List.getD_cons_succ] at this ⊢
    omega
  | [], _, _, h => by simp at h
theorem width_cut {bs : List (Int × Int)} {b k : Nat} {p : Int × Int} {a : Int} (hb : b < bs.length) (hp : bs.getD b (0, 0) = p) (h1 : p.1 ≤ a) (h2 : a < p.2) (hw : width bs < k + 1) : 0 < k ∧ width (bs.set b (p.1, a)) < k ∧ width (bs.set b (a + 1, p.2)) < k := by
  have e1 := width_set bs b (p.1, a) hb
  have e2 := width_set bs b (a + 1, p.2) hb
  rw [hp] at e1 e2
  simp only [wid] at e1 e2
  omega
theorem mid_ok {x y : Int} (h : x ≤ y) (q : ¬ x = y) : x ≤ (x + y) / 2 ∧ (x + y) / 2 < y := by omega
theorem okB_set {bs : List (Int × Int)} {k : Nat} {q : Int × Int} (h : OkB bs) (hq : -1000 ≤ q.1 ∧ q.1 ≤ q.2 ∧ q.2 ≤ 1000) : OkB (bs.set k q) := by
  refine ⟨by rw [List.length_set]; exact h.1, fun p hp => ?_⟩
  rcases List.mem_or_eq_of_mem_set hp with hp | rfl
  · exact h.2 p hp
  · exact hq
theorem inB_set : ∀ {bs : List (Int × Int)} {k : Nat} {q : Int × Int} {f : List Int}, k < bs.length → (bs.getD k (0, 0)).1 ≤ q.1 → q.2 ≤ (bs.getD k (0, 0)).2 → InB (bs.set k q) f → InB bs f
  | p :: bs, 0, q, a :: f, _, h1, h2, h => by
    simp only [List.set_cons_zero, InB, List.getD_cons_zero] at h h1 h2 ⊢
    exact ⟨by omega, by omega, h.2.2⟩
  | p :: bs, k + 1, q, a :: f, hk, h1, h2, h => by
    simp only [List.set_cons_succ, InB, List.getD_cons_succ] at h h1 h2 ⊢
    exact ⟨h.1, h.2.1, inB_set (by simpa using hk) h1 h2 h.2.2⟩
  | p :: bs, 0, q, [], _, _, _, h => by simp [InB] at h
  | p :: bs, k + 1, q, [], _, _, _, h => by simp [InB] at h
  | [], _, _, _, h, _, _, _ => by simp at h
theorem inB_part : ∀ {bs : List (Int × Int)} {k : Nat} {q : Int × Int} {f : List Int}, k < bs.length → q.1 ≤ f.getD k 0 → f.getD k 0 ≤ q.2 → InB bs f → InB (bs.set k q) f
  | p :: bs, 0, q, a :: f, _, h1, h2, h => by
    simp only [List.set_cons_zero, InB, List.getD_cons_zero] at h h1 h2 ⊢
    exact ⟨h1, h2, h.2.2⟩
  | p :: bs, k + 1, q, a :: f, hk, h1, h2, h => by
    simp only [List.set_cons_succ, InB, List.getD_cons_succ] at h h1 h2 ⊢
    exact ⟨h.1, h.2.1, inB_part (by simpa using hk) h1 h2 h.2.2⟩
  | p :: bs, 0, q, [], _, _, _, h => by simp [InB] at h
  | p :: bs, k + 1, q, [], _, _, _, h => by simp [InB] at h
  | [], _, _, _, h, _, _, _ => by simp at h
theorem inB_at : ∀ {bs : List (Int × Int)} {k : Nat} {f : List Int}, k < bs.length → InB bs f → (bs.getD k (0, 0)).1 ≤ f.getD k 0 ∧ f.getD k 0 ≤ (bs.getD k (0, 0)).2
  | p :: bs, 0, a :: f, _, h => by simp only [InB, List.getD_cons_zero] at h ⊢; exact ⟨h.1, h.2.1⟩
  | p :: bs, k + 1, a :: f, hk, h => by simp only [InB, List.getD_cons_succ] at h ⊢; exact inB_at (by simpa using hk) h.2.2
  | p :: bs, 0, [], _, h => by simp [InB] at h
  | p :: bs, k + 1, [], _, h => by simp [InB] at h
  | [], _, _, h, _ => by simp at h
theorem inB_len : ∀ {bs : List (Int × Int)} {f : List Int}, InB bs f → f.length = bs.length
  | [], [], _ => rfl
  | p :: bs, a :: f, h => by simp only [InB] at h; simp [inB_len h.2.2]
  | [], _ :: _, h => by simp [InB] at h
  | _ :: _, [], h => by simp [InB] at h
theorem min_le_mul (a lo hi x : Int) (h1 : lo ≤ x) (h2 : x ≤ hi) : min (a * lo) (a * hi) ≤ a * x := by
  rcases Int.le_total 0 a with h | h
  · have := Int.mul_le_mul_of_nonneg_left h1 h; omega
  · have := Int.mul_le_mul_of_nonpos_left h h2; omega
theorem lsum_le : ∀ (ns : List Int) (bs : List (Int × Int)) (f : List Int), InB bs f → lsum ns bs ≤ dot ns f
  | [], _, _, _ => by simp [lsum, dot]
  | a :: ns, [], [], _ => by simp [lsum, dot]
  | a :: ns, p :: bs, x :: f, h => by
    simp only [InB] at h
    have h1 := lsum_le ns bs f h.2.2
    have h2 := min_le_mul a p.1 p.2 x h.1 h.2.1
    simp only [lsum, dot]; omega
  | a :: ns, [], _ :: _, h => by simp [InB] at h
  | a :: ns, _ :: _, [], h => by simp [InB] at h
theorem tree_no {sm : List (List Int × Int)} : ∀ (t : Tr) (bs : List (Int × Int)) (f : List Int), isTree sm bs t = true → InB bs f → ¬ good sm f
  | .sum n, bs, f, h, hf, hg => by
    simp only [isTree, Bool.and_eq_true, decide_eq_true_eq] at h
    obtain ⟨⟨h0, h1⟩, h2⟩ := h
    have hm := (sm_get (bs := sm) (k := n.toNat) (by omega)).2
    have := hg _ hm
    have h3 := lsum_le (sm.getD n.toNat ([], 0)).1 bs f hf
    unfold least at h2
    omega
  | .cut b a l r, bs, f, h, hf, hg => by
    simp only [isTree, Bool.and_eq_true, decide_eq_true_eq] at h
    obtain ⟨⟨⟨⟨h0, h1⟩, h2, h3⟩, hl⟩, hr⟩ := h
    have hk : b.toNat < bs.length := by omega
    have ha := inB_at hk hf
    by_cases q : f.getD b.toNat 0 ≤ a
    · exact tree_no l _ f hl (inB_part hk ha.1 q hf) hg
    · exact tree_no r _ f hr (inB_part hk (by simp only; omega) ha.2 hf) hg
theorem lsum_point : ∀ (ns : List Int) (bs : List (Int × Int)), (∀ p ∈ bs, p.1 = p.2) → lsum ns bs = dot ns (bs.map (·.1))
  | [], _, _ => by simp [lsum, dot]
  | _ :: _, [], _ => by simp [lsum, dot]
  | a :: ns, p :: bs, h => by
    have h1 := lsum_point ns bs fun q hq => h q (.tail _ hq)
    have h2 := h p (.head _)
    simp only [lsum, dot, List.map_cons, h1, ← h2]; omega
theorem inB_low : ∀ (bs : List (Int × Int)), (∀ p ∈ bs, p.1 ≤ p.2) → InB bs (bs.map (·.1))
  | [], _ => by simp [InB]
  | p :: bs, h => by
    simp only [List.map_cons, InB]
    exact ⟨Int.le_refl _, h p (.head _), inB_low bs fun q hq => h q (.tail _ hq)⟩

theorem wFor_ret {step : D → Loc → St → (Fl → Loc → St → Prop) → Prop} {Q : Fl → Loc → St → Prop} (I : Nat → Loc → St → Prop) (R : Nat → D → Loc → St → Prop) : ∀ (items pre : List D) {m : Loc} {st : St}, I pre.length m st →
    (∀ i d m st K, (pre ++ items)[i]? = some d → I i m st → (∀ m' st', I (i + 1) m' st' → K .next m' st') → (∀ r m' st', R i r m' st' → K (.ret r) m' st') → step d m st K) →
    (∀ i r m st, R i r m st → Q (.ret r) m st) → (∀ m st, I (pre ++ items).length m st → Q .next m st) → wFor step items m st Q
  | [], pre, m, st, h0, _, _, hQ => hQ m st (by simpa using h0)
  | d :: ds, pre, m, st, h0, hs, hr, hQ => by
    refine hs pre.length d m st _ (by simp) h0 (fun m' st' h1 => ?_) fun r m' st' h1 => hr _ r m' st' h1
    refine wFor_ret I R ds (pre ++ [d]) (by simpa using h1) (fun i d m st K hi => hs i d m st K (by simpa using hi)) hr fun m st h => hQ m st (by simpa using h)
theorem iv_none : isValD .none = false := rfl
theorem iv_list {ds : List D} : isValD (.list ds) = false := rfl
theorem in_none : isNoneD .none = true := rfl
theorem in_list {ds : List D} : isNoneD (.list ds) = false := rfl
noncomputable def Has (Γ : Ctx) (x : Str) (P : FSpec → Prop) : Prop := ∃ S, Γ.fn x = some S ∧ P S
noncomputable def SpTried (k : Nat) (S : FSpec) : Prop := ∀ (sD mD : D) (bs : List (Int × Int)) (sm : List (List Int × Int)) (st : St) (Q : D → St → Prop), lstD st sD = some (bs.map prD) → lstD (st.hide (pinOf mD)) sD = some (bs.map prD) →
  lstD st mD = some (sm.map smD) → 0 < bs.length → OkB bs → (∀ s ∈ sm, OkS bs.length s) → sm.length ≤ 10 → width bs < k →
  (∀ t, isTree sm bs t = true → t.deep ≤ k → Q (.tup [trD t, .none]) st) → (∀ f, InB bs f → good sm f → Q (.tup [.none, .list (dI f)]) st) → S [sD, mD] st Q
noncomputable def SpTree (k : Nat) (S : FSpec) : Prop := ∀ (bs : List (Int × Int)) (sm : List (List Int × Int)) (t : Tr) (st : St) (Q : D → St → Prop), OkB bs → (∀ s ∈ sm, OkS bs.length s) → sm.length ≤ 10 → t.deep ≤ k →
  Q (.bool (isTree sm bs t)) st → S [.list (bs.map prD), .list (sm.map smD), trD t] st Q
end Mine
end

section
set_option autoImplicit false
set_option linter.unusedSimpArgs false
set_option linter.unusedVariables false
set_option maxRecDepth 100000
set_option maxHeartbeats 4000000
namespace Mine
open PySem

theorem tried_ok {Γ : Ctx} {k : Nat} (h1 : Γ.fn "enumerate" = none) (h2 : Γ.fn "list" = none) (hL : Has Γ "least_of" SpLeast) (hW : Has Γ "widest" SpWidest) (hC : Has Γ "cut_at" SpCut) (hT : 0 < k → Has Γ "tried" (SpTried k)) :
    SpTried (k + 1) (wFn Γ (fun _ => false) 60 (kdOf PySem.Challenge.pw_uf010033_07 4) ["stretch", "some"] (bodyOf PySem.Challenge.pw_uf010033_07 4)) := by
  intro sD mD bs sm st Q hs hsh hm h0 okb oks hsm hwd hQ1 hQ2
  obtain ⟨L, hL, hL'⟩ := hL
  obtain ⟨Wd, hW, hW'⟩ := hW
  obtain ⟨C, hC, hC'⟩ := hC
  have hlim : lim = 1000000 := rfl
  have hsq := seq_lst hs
  have hbl := okb.1
  have hbl1 : (bs.length ≤ lim) = True := eq_true (lim_le (Nat.le_trans hbl (by decide)))
  have hsl1 : (sm.length ≤ lim) = True := eq_true (lim_le (Nat.le_trans hsm (by decide)))
  refine fn_intro rfl ?_
  generalize hkd : kdOf PySem.Challenge.pw_uf010033_07 4 = kd
  obtain ⟨kd0, kd1, kd2, kd3, kd4, kd5, kd6, kd7, kd8, kd9, kd10, kd11, kd12, kd13, kd14, kd15, kd16, kd17⟩ : kd "stretch" = some .local ∧ kd "some" = some .local ∧ kd "number" = some .local ∧ kd "one" = some .local ∧ kd "box" = some .local ∧ kd "low" = some .local ∧ kd "high" = some .local ∧ kd "at" = some .local ∧ kd "below" = some .local ∧ kd "above" = some .local ∧ kd "first" = some .local ∧ kd "second" = some .local ∧ kd "enumerate" = some .globalImplicit ∧ kd "least_of" = some .globalImplicit ∧ kd "widest" = some .globalImplicit ∧ kd "cut_at" = some .globalImplicit ∧ kd "list" = some .globalImplicit ∧ kd "tried" = some .globalImplicit := by
    subst hkd; exact ⟨rfl, rfl, rfl, rfl, rfl, rfl, rfl, rfl, rfl, rfl, rfl, rfl, rfl, rfl, rfl, rfl, rfl, rfl⟩
  clear hkd
  dsimp only [bodyOf, PySem.Challenge.pw_uf010033_07, List.getElem?_cons_succ, List.getElem?_cons_zero]
  rw [wSs_cons]
  simp only [gl_g, nm_l, upd_str, e_name, es_nil, es_cons, i_enum, s_for, ns_nil, bind_nil, bind_cons, String.reduceEq, ↓reduceIte, Option.some.injEq, true_and, exists_eq_left', ns_cons, str_name, te_tup, Bool.not_false, Bool.and_self, kd1, kd12, hsl1, h1, ic_enum hm, List.length_map]
  repeat (with_reducible refine And.intro ?_ ?_; focus omega)
  refine wFor_ret (fun i m' st' => st' = st.hide (pinOf mD) ∧ m' "stretch" = some sD ∧ m' "some" = some mD ∧ ∀ j, j < i → least (sm.getD j ([], 0)) bs ≤ 0)
    (fun i r m' st' => st' = st.hide (pinOf mD) ∧ r = .tup [.tup [.str "sum", .int (i : Nat)], .none] ∧ i < sm.length ∧ 0 < least (sm.getD i ([], 0)) bs) _ [] ⟨rfl, by simp only [upd_str, ↓reduceIte], by simp only [upd_str, String.reduceEq, ↓reduceIte], fun j hj => by simp at hj⟩ ?_ ?_ ?_
  · rintro i d m' st' K hd ⟨rfl, m1, m2, hj⟩ hK hR
    obtain ⟨a, ha, rfl⟩ := enum_get hd
    have hi : i < sm.length := (List.getElem?_eq_some_iff.mp ha).1
    have hga : sm.getD i ([], 0) = a := by simp [ha]
    have ham := List.mem_of_getElem? ha
    simp only [own_l, tg_two, true_and, kd2, kd3]
    rw [wSs_cons]
    simp only [gl_g, nm_l, upd_str, call_s, e_int, e_name, e_call, es_nil, es_cons, c_one, t_cmp, s_if, ss_nil, th_next, ns_nil, String.reduceEq, ↓reduceIte, Option.some.injEq, reduceCtorEq, true_and, exists_eq_left', ns_cons, str_name, Bool.not_false, Bool.and_self, false_implies, kd0, kd3, kd13, hL, m1]
    refine hL' a sD bs _ _ (seq_lst hsh) okb (oks a ham) ?_
    simp only [x_gt]
    by_cases q : 0 < least a bs
    · rw [if_pos (by simpa using q)]
      rw [wSs_cons]
      simp only [nm_l, upd_str, e_none, e_str, e_name, e_tup, es_nil, es_cons, s_ret, th_ret, String.reduceEq, ↓reduceIte, Option.some.injEq, true_and, exists_eq_left', lim2, List.length_cons, List.length_nil, Nat.zero_add, Nat.reduceAdd, kd2]
      exact hR _ _ _ ⟨rfl, rfl, hi, by rw [hga]; exact q⟩
    · rw [if_neg (by simpa using q)]
      refine hK _ _ ⟨rfl, ?_, ?_, fun j hj' => ?_⟩
      · simp only [upd_str, String.reduceEq, ↓reduceIte, m1]
      · simp only [upd_str, String.reduceEq, ↓reduceIte, m2]
      · by_cases e : j = i
        · subst e; rw [hga]; omega
        · exact hj j (by omega)
  · rintro i r m' st' ⟨rfl, rfl, hi, hl⟩
    rw [hide_back, th_ret, fin_ret]
    exact hQ1 (.sum i) (by simp only [isTree, Int.toNat_natCast, Bool.and_eq_true, decide_eq_true_eq]; exact ⟨⟨by omega, by omega⟩, hl⟩) (by simp only [Tr.deep]; omega)
  rintro m' st' ⟨rfl, m1, m2, hj⟩
  rw [hide_back]
  have hj' : ∀ s ∈ sm, least s bs ≤ 0 := fun s hs => by
    obtain ⟨i, hi, rfl⟩ := List.getElem_of_mem hs
    have := hj i (by simp [enumL]; exact hi)
    simpa [hi] using this
  clear hj
  rw [th_next, wSs_cons]
  simp only [gl_g, own_l, nm_l, call_s, e_name, e_call, es_nil, es_cons, s_asgN, th_next, ns_nil, Option.some.injEq, reduceCtorEq, true_and, exists_eq_left', ns_cons, str_name, Bool.not_false, Bool.and_self, false_implies, kd0, kd4, kd14, hW, m1]
  refine hW' sD bs _ _ hs h0 okb fun b hb hmax => ?_
  obtain ⟨hg, hgm⟩ := pr_get hb
  generalize hp : bs.getD b (0, 0) = p at hg hgm hmax
  have hpo := okb.2 p hgm
  rw [wSs_cons]
  simp only [own_l, nm_l, upd_str, e_name, e_itemN, s_asgT, th_next, tg_two, String.reduceEq, ↓reduceIte, Option.some.injEq, true_and, exists_eq_left', te_sub, kd0, kd4, kd5, kd6, m1, hsq, wItem_nat (i := b) (by have := okb.1; omega), hg, prD]
  rw [wSs_cons]
  simp only [nm_l, upd_str, e_name, c_one, t_cmp, s_if, ss_nil, th_next, x_eq, String.reduceEq, ↓reduceIte, Option.some.injEq, exists_eq_left', kd5, kd6]
  by_cases q : p.1 = p.2
  · rw [if_pos (by simpa using q)]
    rw [wSs_cons]
    simp only [own_l, nm_l, upd_str, lk_str, e_none, e_int, e_name, e_itemC, e_tup, e_comp0, es_nil, es_cons, i_name, s_ret, th_ret, tg_name, mk_f, wItem_lit, String.reduceEq, ↓reduceIte, Option.some.injEq, true_and, exists_eq_left', Int.reduceLE, Int.reduceLT, Int.reduceToNat, lim2, List.length_cons, List.length_nil, Nat.zero_add, Nat.reduceAdd, kd0, hbl1, m1, it_lst hs, List.length_map]
    refine ⟨by simp [ScopeOk, ofString_inj, kd0, kd1, kd2, kd3, kd4, kd5, kd6, kd7, kd8, kd9, kd10, kd11, kd12, kd13, kd14, kd15, kd16, kd17, hbl1, hsl1, lk_str], ?_⟩
    repeat (with_reducible refine And.intro ?_ ?_; focus omega)
    refine wComp_list (α := Int × Int) prD (fun p => .int p.1) bs [] (fun p hp K hK => ?_) ?_
    · simp only [seqD_tup, Option.some.injEq, exists_eq_left', List.getElem?_cons_zero, prD]; exact hK
    have e : [] ++ bs.map (fun p => D.int p.1) = dI (bs.map (·.1)) := by simp [dI]
    rw [e, hide_back]
    simp only [fin_ret, true_and, dI_len, hbl1, List.length_map]
    refine hQ2 _ (inB_low bs fun p hp => (okb.2 p hp).2.1) fun s hs => ?_
    have h3 := hj' s hs
    unfold least at h3
    rw [lsum_point s.1 bs fun p hp => by have := hmax p hp; have := okb.2 p hp; omega] at h3
    exact h3
  rw [if_neg (by simpa using q)]
  rw [wSs_cons]
  simp only [own_l, nm_l, upd_str, e_int, e_name, e_bin, s_asgN, th_next, x_add, x_div, String.reduceEq, ↓reduceIte, Option.some.injEq, true_and, exists_eq_left', Int.reduceLT, Int.reducePow, kd5, kd6, kd7]
  generalize hat : (p.1 + p.2) / 2 = a
  have ha1 : p.1 ≤ a ∧ a < p.2 := by rw [← hat]; exact mid_ok hpo.2.1 q
  rw [wSs_cons]
  simp only [gl_g, nm_l, upd_str, call_n, call_s, e_name, e_call, es_nil, es_cons, s_asgT, th_next, mk_f, blt3, ns_nil, b_list, String.reduceEq, ↓reduceIte, Option.some.injEq, reduceCtorEq, true_and, exists_eq_left', ns_cons, str_name, str_call, te_call, Bool.not_false, Bool.and_self, forall_const, false_implies, kd0, kd4, kd7, kd15, kd16, hbl1, h2, hC, m1, hsq, List.length_map]
  refine hC' bs b a _ _ hb okb.1 ?_
  rw [hp]
  obtain ⟨hk0, hws1, hws2⟩ := width_cut hb hp ha1.1 ha1.2 hwd
  obtain ⟨T, hT, hT'⟩ := hT hk0
  have in1 : ∀ f, InB (bs.set b (p.1, a)) f → InB bs f := fun f h => inB_set hb (by rw [hp]; exact Int.le_refl _) (by rw [hp]; simp only; omega) h
  have in2 : ∀ f, InB (bs.set b (a + 1, p.2)) f → InB bs f := fun f h => inB_set hb (by rw [hp]; simp only; omega) (by rw [hp]; exact Int.le_refl _) h
  simp only [own_l, tg_two, true_and, kd8, kd9]
  rw [wSs_cons]
  simp only [gl_g, own_l, nm_l, upd_str, call_s, e_name, e_call, es_nil, es_cons, s_asgN, th_next, ns_nil, String.reduceEq, ↓reduceIte, Option.some.injEq, reduceCtorEq, true_and, exists_eq_left', ns_cons, str_name, Bool.not_false, Bool.and_self, false_implies, kd1, kd8, kd10, kd17, hT, m2]
  refine hT' _ mD (bs.set b (p.1, a)) sm _ _ rfl rfl hm (by rw [List.length_set]; exact h0) (okB_set okb ⟨hpo.1, ha1.1, by simp only; omega⟩) (by rw [List.length_set]; exact oks) hsm hws1 (fun t1 ht1 hd1 => ?_) fun f hf hgf => ?_
  · rw [wSs_cons]
    simp only [nm_l, upd_str, e_none, e_int, e_name, e_itemC, c_one, t_cmp, s_if, ss_nil, th_next, wItem_lit, seqD_tup, ↓reduceIte, Option.some.injEq, exists_eq_left', Int.reduceLE, Int.reduceLT, Int.reduceToNat, List.getElem?_cons_succ, List.getElem?_cons_zero, Bool.false_eq_true, Bool.not_true, kd10, isnot_none iv_none, in_none]
    rw [wSs_cons]
    simp only [gl_g, own_l, nm_l, upd_str, call_s, e_name, e_call, es_nil, es_cons, s_asgN, th_next, ns_nil, String.reduceEq, ↓reduceIte, Option.some.injEq, reduceCtorEq, true_and, exists_eq_left', ns_cons, str_name, Bool.not_false, Bool.and_self, false_implies, kd1, kd9, kd11, kd17, hT, m2]
    refine hT' _ mD (bs.set b (a + 1, p.2)) sm _ _ rfl rfl hm (by rw [List.length_set]; exact h0) (okB_set okb ⟨by simp only; omega, by simp only; omega, hpo.2.2⟩) (by rw [List.length_set]; exact oks) hsm hws2 (fun t2 ht2 hd2 => ?_) fun f hf hgf => ?_
    · rw [wSs_cons]
      simp only [nm_l, upd_str, e_none, e_int, e_name, e_itemC, c_one, t_cmp, s_if, ss_nil, th_next, wItem_lit, seqD_tup, ↓reduceIte, Option.some.injEq, exists_eq_left', Int.reduceLE, Int.reduceLT, Int.reduceToNat, List.getElem?_cons_succ, List.getElem?_cons_zero, Bool.false_eq_true, Bool.not_true, kd11, isnot_none iv_none, in_none]
      rw [wSs_cons]
      simp only [nm_l, upd_str, e_none, e_int, e_str, e_name, e_itemC, e_tup, es_nil, es_cons, s_ret, th_ret, fin_ret, wItem_lit, seqD_tup, String.reduceEq, ↓reduceIte, Option.some.injEq, true_and, exists_eq_left', Int.reduceLE, Int.reduceLT, Int.reduceToNat, List.getElem?_cons_zero, lim2, lim5, List.length_cons, List.length_nil, Nat.zero_add, Nat.reduceAdd, kd4, kd7, kd10, kd11]
      repeat (with_reducible refine And.intro ?_ ?_; focus omega)
      refine hQ1 (.cut b a t1 t2) ?_ (by simp only [Tr.deep]; omega)
      simp only [isTree, Int.toNat_natCast, hp, Bool.and_eq_true, decide_eq_true_eq]
      exact ⟨⟨⟨⟨by omega, by omega⟩, by omega, by omega⟩, ht1⟩, ht2⟩
    · rw [wSs_cons]
      simp only [nm_l, upd_str, e_none, e_int, e_name, e_itemC, c_one, t_cmp, s_if, ss_nil, th_next, wItem_lit, seqD_tup, ↓reduceIte, Option.some.injEq, exists_eq_left', Int.reduceLE, Int.reduceLT, Int.reduceToNat, List.getElem?_cons_succ, List.getElem?_cons_zero, Bool.not_false, kd11, isnot_none iv_list, in_list]
      rw [wSs_cons]
      simp only [nm_l, upd_str, e_name, s_ret, th_ret, fin_ret, ↓reduceIte, Option.some.injEq, exists_eq_left', kd11]
      exact hQ2 f (in2 f hf) hgf
  · rw [wSs_cons]
    simp only [nm_l, upd_str, e_none, e_int, e_name, e_itemC, c_one, t_cmp, s_if, ss_nil, th_next, wItem_lit, seqD_tup, ↓reduceIte, Option.some.injEq, exists_eq_left', Int.reduceLE, Int.reduceLT, Int.reduceToNat, List.getElem?_cons_succ, List.getElem?_cons_zero, Bool.not_false, kd10, isnot_none iv_list, in_list]
    rw [wSs_cons]
    simp only [nm_l, upd_str, e_name, s_ret, th_ret, fin_ret, ↓reduceIte, Option.some.injEq, exists_eq_left', kd10]
    exact hQ2 f (in1 f hf) hgf
end Mine
end

section
set_option autoImplicit false
set_option linter.unusedSimpArgs false
set_option linter.unusedVariables false
set_option maxRecDepth 100000
set_option maxHeartbeats 4000000
namespace Mine
open PySem
theorem st_cs : (Str.ofString "cut" == Str.ofString "sum") = false := by rw [ofString_beq]; exact beq_eq_false_iff_ne.mpr (by decide)
theorem isTree_ok {Γ : Ctx} {k : Nat} (h1 : Γ.fn "isinstance" = none) (h2 : Γ.fn "len" = none) (h3 : Γ.fn "list" = none) (g1 : Γ.gl "tuple" = some (.val (.type "tuple"))) (hL : Has Γ "least_of" SpLeast) (hW : Has Γ "is_whole" SpWhole) (hC : Has Γ "cut_at" SpCut) (hT : 0 < k → Has Γ "is_tree" (SpTree k)) :
    SpTree (k + 1) (wFn Γ (fun _ => false) 60 (kdOf PySem.Challenge.pw_uf010033_07 6) ["stretch", "some", "tree"] (bodyOf PySem.Challenge.pw_uf010033_07 6)) := by
  intro bs sm t st Q okb oks hsm hd hQ
  obtain ⟨L, hL, hL'⟩ := hL
  obtain ⟨Wd, hW, hW'⟩ := hW
  obtain ⟨C, hC, hC'⟩ := hC
  have hlim : lim = 1000000 := rfl
  have hbl := okb.1
  have hbl1 : (bs.length ≤ lim) = True := eq_true (lim_le (Nat.le_trans hbl (by decide)))
  have hsl1 : (sm.length ≤ lim) = True := eq_true (lim_le (Nat.le_trans hsm (by decide)))
  refine fn_intro rfl ?_
  generalize hkd : kdOf PySem.Challenge.pw_uf010033_07 6 = kd
  obtain ⟨kd0, kd1, kd2, kd3, kd4, kd5, kd6, kd7, kd8, kd9, kd10, kd11, kd12, kd13, kd14⟩ : kd "stretch" = some .local ∧ kd "some" = some .local ∧ kd "tree" = some .local ∧ kd "low" = some .local ∧ kd "high" = some .local ∧ kd "below" = some .local ∧ kd "above" = some .local ∧ kd "isinstance" = some .globalImplicit ∧ kd "tuple" = some .globalImplicit ∧ kd "len" = some .globalImplicit ∧ kd "is_whole" = some .globalImplicit ∧ kd "least_of" = some .globalImplicit ∧ kd "cut_at" = some .globalImplicit ∧ kd "list" = some .globalImplicit ∧ kd "is_tree" = some .globalImplicit := by
    subst hkd; exact ⟨rfl, rfl, rfl, rfl, rfl, rfl, rfl, rfl, rfl, rfl, rfl, rfl, rfl, rfl, rfl⟩
  clear hkd
  dsimp only [bodyOf, PySem.Challenge.pw_uf010033_07, List.getElem?_cons_succ, List.getElem?_cons_zero]
  cases t with
  | sum n =>
    simp only [trD]
    rw [wSs_cons]
    simp only [gl_g, nm_l, nm_g, upd_str, call_n, call_s, e_int, e_name, e_call, e_itemC, es_nil, es_cons, c_one, t_not, t_bool, t_cmp, t_call, a_nil, a_cons, s_if, ss_nil, th_next, x_lt, tr_bool, sa_of, blt1, blt2, ns_nil, bind_nil, bind_cons, b_len, b_isinstance, ti_tt, wItem_lit, seqD_tup, String.reduceEq, ↓reduceIte, Option.some.injEq, reduceCtorEq, true_and, exists_eq_left', Int.reduceLE, Int.reduceLT, Int.reduceToNat, List.getElem?_cons_succ, List.getElem?_cons_zero, Bool.false_eq_true, ns_cons, str_name, str_sub, lim2, Bool.not_false, Bool.not_true, Bool.and_self, forall_const, List.length_cons, List.length_nil, Nat.zero_add, Nat.reduceAdd, decide_false, Int.cast_ofNat_Int, bo_oa, false_implies, kd2, kd7, kd8, kd9, kd10, h1, h2, g1, hW]
    repeat (with_reducible refine And.intro ?_ ?_; focus omega)
    refine hW' _ _ _ ?_
    simp only [tr_bool, sa_of, ↓reduceIte, Option.some.injEq, exists_eq_left', Bool.false_eq_true, Bool.not_true]
    rw [wSs_cons]
    simp only [nm_l, upd_str, e_int, e_str, e_name, e_itemC, c_one, t_cmp, s_if, ss_nil, th_next, x_eqS, wItem_lit, seqD_tup, String.reduceEq, ↓reduceIte, Option.some.injEq, exists_eq_left', Int.reduceLE, Int.reduceLT, Int.reduceToNat, List.getElem?_cons_zero, beq_self_eq_true, kd2]
    rw [wSs_cons]
    simp only [gl_g, nm_l, upd_str, call_n, e_int, e_name, e_boolop, e_cmp, e_call, e_itemC, e_itemS, es_nil, es_cons, b_one, b_two, c_one, c_two, s_ret, th_ret, fin_ret, x_lt, x_le, x_eq, tr_bool, sa_af, sa_at, blt1, ns_nil, b_len, wItem_lit, seqD_tup, seqD_list, String.reduceEq, ↓reduceIte, Option.some.injEq, true_and, exists_eq_left', Int.reduceLE, Int.reduceLT, Int.reduceToNat, List.getElem?_cons_succ, List.getElem?_cons_zero, Bool.false_eq_true, ns_cons, str_name, str_sub, lim2, Bool.not_false, Bool.and_self, forall_const, List.length_cons, List.length_nil, Nat.zero_add, Nat.reduceAdd, Int.cast_ofNat_Int, beq_self_eq_true, kd0, kd1, kd2, kd9, kd11, hsl1, h2, List.length_map]
    repeat (with_reducible refine And.intro ?_ ?_; focus omega)
    by_cases q0 : 0 ≤ n
    · simp only [↓reduceIte, decide_true, q0]
      repeat (with_reducible refine And.intro ?_ ?_; focus omega)
      by_cases q1 : n < (sm.length : Int)
      · simp only [call_s, sa_at, ↓reduceIte, Option.some.injEq, reduceCtorEq, true_and, Bool.false_eq_true, decide_true, false_implies, q1, hL]
        obtain ⟨hg, hgm⟩ := sm_get (bs := sm) (k := n.toNat) (by omega)
        rw [wItem_lit q0 (by omega)]
        simp only [seqD_list, Option.some.injEq, exists_eq_left', hg]
        refine hL' _ _ bs _ _ rfl okb (oks _ hgm) ?_
        simp only [fin_ret, x_gt]
        simp only [isTree, q0, q1, decide_true, Bool.true_and] at hQ
        exact hQ
      · simp only [sa_af, ↓reduceIte, decide_false, q1]
        simp only [isTree, q1, decide_false, Bool.and_false, Bool.false_and] at hQ
        exact hQ
    · simp only [↓reduceIte, Bool.false_eq_true, decide_false, q0]
      simp only [isTree, q0, decide_false, Bool.false_and] at hQ
      exact hQ
  | cut b a l r =>
    simp only [Tr.deep] at hd
    obtain ⟨T, hT, hT'⟩ := hT (by have : ∀ t : Tr, 0 < t.deep := (fun t => by cases t <;> simp [Tr.deep]); have := this l; omega)
    simp only [trD]
    rw [wSs_cons]
    simp only [gl_g, nm_l, nm_g, upd_str, call_n, call_s, e_int, e_name, e_call, e_itemC, es_nil, es_cons, c_one, t_not, t_bool, t_cmp, t_call, a_nil, a_cons, s_if, ss_nil, th_next, x_lt, tr_bool, sa_of, blt1, blt2, ns_nil, bind_nil, bind_cons, b_len, b_isinstance, ti_tt, wItem_lit, seqD_tup, String.reduceEq, ↓reduceIte, Option.some.injEq, reduceCtorEq, true_and, exists_eq_left', Int.reduceLE, Int.reduceLT, Int.reduceToNat, List.getElem?_cons_succ, List.getElem?_cons_zero, Bool.false_eq_true, ns_cons, str_name, str_sub, lim5, Bool.not_false, Bool.not_true, Bool.and_self, forall_const, List.length_cons, List.length_nil, Nat.zero_add, Nat.reduceAdd, decide_false, Int.cast_ofNat_Int, bo_oa, false_implies, kd2, kd7, kd8, kd9, kd10, h1, h2, g1, hW]
    repeat (with_reducible refine And.intro ?_ ?_; focus omega)
    refine hW' _ _ _ ?_
    simp only [tr_bool, sa_of, ↓reduceIte, Option.some.injEq, exists_eq_left', Bool.false_eq_true, Bool.not_true]
    rw [wSs_cons]
    simp only [nm_l, upd_str, e_int, e_str, e_name, e_itemC, c_one, t_cmp, s_if, ss_nil, th_next, x_eqS, wItem_lit, seqD_tup, String.reduceEq, ↓reduceIte, Option.some.injEq, exists_eq_left', Int.reduceLE, Int.reduceLT, Int.reduceToNat, List.getElem?_cons_zero, Bool.false_eq_true, kd2, st_cs]
    rw [wSs_cons]
    simp only [gl_g, nm_l, upd_str, call_n, call_s, e_int, e_str, e_name, e_call, e_itemC, es_nil, es_cons, c_one, c_two, t_not, t_bool, t_cmp, t_call, a_nil, a_cons, s_if, ss_nil, th_next, x_lt, x_le, x_ne, x_neS, sa_of, sa_ot, blt1, ns_nil, b_len, wItem_lit, seqD_tup, seqD_list, String.reduceEq, ↓reduceIte, Option.some.injEq, reduceCtorEq, true_and, exists_eq_left', Int.reduceLE, Int.reduceLT, Int.reduceToNat, List.getElem?_cons_succ, List.getElem?_cons_zero, Bool.false_eq_true, ns_cons, str_name, str_sub, lim5, Bool.not_false, Bool.not_true, Bool.and_self, forall_const, List.length_cons, List.length_nil, Nat.zero_add, Nat.reduceAdd, Int.cast_ofNat_Int, beq_self_eq_true, bo_oa, false_implies, kd0, kd2, kd9, kd10, hbl1, h2, hW, List.length_map]
    repeat (with_reducible refine And.intro ?_ ?_; focus omega)
    by_cases q0 : 0 ≤ b
    · simp only [↓reduceIte, decide_true, q0]
      repeat (with_reducible refine And.intro ?_ ?_; focus omega)
      by_cases q1 : b < (bs.length : Int)
      · simp only [sa_of, ↓reduceIte, Bool.false_eq_true, Bool.not_true, decide_true, q1]
        refine hW' _ _ _ ?_
        obtain ⟨k', rfl⟩ : ∃ k' : Nat, b = (k' : Int) := ⟨b.toNat, by omega⟩
        obtain ⟨hg, hgm⟩ := pr_get (bs := bs) (k := k') (by omega)
        have hpo := okb.2 _ hgm
        generalize hp : bs.getD k' (0, 0) = p at hg hgm hpo
        simp only [isTree, q0, q1, decide_true, Bool.true_and, Int.toNat_natCast, hp] at hQ
        simp only [tr_bool, sa_of, ↓reduceIte, Option.some.injEq, exists_eq_left', Bool.false_eq_true, Bool.not_true]
        rw [wSs_cons]
        simp only [own_l, nm_l, upd_str, e_int, e_name, e_itemC, e_itemS, s_asgT, th_next, tg_two, wItem_lit, seqD_tup, seqD_list, String.reduceEq, ↓reduceIte, Option.some.injEq, true_and, exists_eq_left', Int.reduceLE, Int.reduceLT, Int.reduceToNat, List.getElem?_cons_succ, List.getElem?_cons_zero, te_sub, kd0, kd2, kd3, kd4, wItem_nat (i := k') (by omega), hg, prD]
        rw [wSs_cons]
        simp only [nm_l, upd_str, e_int, e_name, e_itemC, c_one, c_two, t_not, t_cmp, s_if, ss_nil, th_next, x_lt, x_le, wItem_lit, seqD_tup, String.reduceEq, ↓reduceIte, Option.some.injEq, exists_eq_left', Int.reduceLE, Int.reduceLT, Int.reduceToNat, List.getElem?_cons_succ, List.getElem?_cons_zero, Bool.not_false, kd2, kd3, kd4]
        by_cases q2 : p.1 ≤ a
        · simp only [↓reduceIte, decide_true, q2]
          by_cases q3 : a < p.2
          · simp only [↓reduceIte, Bool.false_eq_true, Bool.not_true, decide_true, q3]
            rw [wSs_cons]
            simp only [gl_g, nm_l, upd_str, call_n, call_s, e_int, e_name, e_call, e_itemC, es_nil, es_cons, s_asgT, th_next, mk_f, blt3, ns_nil, b_list, wItem_lit, seqD_tup, seqD_list, String.reduceEq, ↓reduceIte, Option.some.injEq, reduceCtorEq, true_and, exists_eq_left', Int.reduceLE, Int.reduceLT, Int.reduceToNat, List.getElem?_cons_succ, List.getElem?_cons_zero, ns_cons, str_name, str_call, str_sub, te_call, Bool.not_false, Bool.and_self, forall_const, false_implies, kd0, kd2, kd12, kd13, hbl1, h3, hC, List.length_map]
            repeat (with_reducible refine And.intro ?_ ?_; focus omega)
            refine hC' bs k' a _ _ (by omega) okb.1 ?_
            rw [hp]
            simp only [own_l, tg_two, true_and, kd5, kd6]
            rw [wSs_cons]
            simp only [gl_g, nm_l, upd_str, call_s, e_int, e_name, e_boolop, e_call, e_itemC, es_nil, es_cons, b_one, b_two, s_ret, th_ret, ns_nil, wItem_lit, seqD_tup, String.reduceEq, ↓reduceIte, Option.some.injEq, reduceCtorEq, true_and, exists_eq_left', Int.reduceLE, Int.reduceLT, Int.reduceToNat, List.getElem?_cons_succ, List.getElem?_cons_zero, ns_cons, str_name, str_sub, Bool.not_false, Bool.and_self, false_implies, kd1, kd2, kd5, kd6, kd14, hT]
            refine hT' _ sm l _ _ (okB_set okb ⟨hpo.1, q2, by simp only; omega⟩) (by rw [List.length_set]; exact oks) hsm (by omega) ?_
            simp only [fin_ret, tr_bool, Option.some.injEq, exists_eq_left']
            simp only [q2, q3, decide_true, Bool.true_and] at hQ
            cases e : isTree sm (bs.set k' (p.1, a)) l with
            | false =>
              rw [e] at hQ
              simp only [Bool.false_and] at hQ
              simp only [sa_af, ↓reduceIte]
              exact hQ
            | true =>
              rw [e] at hQ
              simp only [Bool.true_and] at hQ
              simp only [sa_at, ↓reduceIte, Bool.false_eq_true]
              refine hT' _ sm r _ _ (okB_set okb ⟨by simp only; omega, by simp only; omega, hpo.2.2⟩) (by rw [List.length_set]; exact oks) hsm (by omega) ?_
              simp only [fin_ret]
              exact hQ
          · simp only [↓reduceIte, Bool.not_false, decide_false, q3]
            rw [wSs_cons]
            simp only [e_bool, s_ret, th_ret, fin_ret]
            simp only [q3, decide_false, Bool.and_false, Bool.false_and] at hQ
            exact hQ
        · simp only [↓reduceIte, Bool.false_eq_true, decide_false, q2]
          rw [wSs_cons]
          simp only [e_bool, s_ret, th_ret, fin_ret]
          simp only [q2, decide_false, Bool.false_and] at hQ
          exact hQ
      · simp only [sa_ot, ↓reduceIte, Bool.not_false, decide_false, q1]
        rw [wSs_cons]
        simp only [e_bool, s_ret, th_ret, fin_ret]
        simp only [isTree, q1, decide_false, Bool.and_false, Bool.false_and] at hQ
        exact hQ
    · simp only [↓reduceIte, Bool.false_eq_true, decide_false, q0]
      rw [wSs_cons]
      simp only [e_bool, s_ret, th_ret, fin_ret]
      simp only [isTree, q0, decide_false, Bool.false_and] at hQ
      exact hQ
end Mine
end

section
set_option autoImplicit false
set_option linter.unusedSimpArgs false
set_option linter.unusedVariables false
set_option maxRecDepth 100000
set_option maxHeartbeats 4000000
namespace Mine
open PySem
theorem lisTree_ok {Γ : Ctx} {k : Nat} (h1 : Γ.fn "isinstance" = none) (h2 : Γ.fn "len" = none) (g1 : Γ.gl "tuple" = some (.val (.type "tuple"))) (hL : Has Γ "_law_least" SpLLeast) (hW : Has Γ "_law_whole" SpWhole) (hT : 0 < k → Has Γ "_law_is_tree" (SpTree k)) :
    SpTree (k + 1) (wFn Γ (fun _ => false) 60 (kdOf PySem.Challenge.pw_uf010033_07 19) ["_law_stretch_here", "_law_some", "_law_tree"] (bodyOf PySem.Challenge.pw_uf010033_07 19)) := by
  intro bs sm t st Q okb oks hsm hd hQ
  obtain ⟨L, hL, hL'⟩ := hL
  obtain ⟨Wd, hW, hW'⟩ := hW
  have hlim : lim = 1000000 := rfl
  have hbl := okb.1
  have hbl1 : (bs.length ≤ lim) = True := eq_true (lim_le (Nat.le_trans hbl (by decide)))
  have hsl1 : (sm.length ≤ lim) = True := eq_true (lim_le (Nat.le_trans hsm (by decide)))
  refine fn_intro rfl ?_
  generalize hkd : kdOf PySem.Challenge.pw_uf010033_07 19 = kd
  obtain ⟨kd0, kd1, kd2, kd3, kd4, kd5, kd6, kd7, kd8, kd9, kd10, kd11⟩ : kd "_law_stretch_here" = some .local ∧ kd "_law_some" = some .local ∧ kd "_law_tree" = some .local ∧ kd "_law_pair" = some .local ∧ kd "_law_below" = some .local ∧ kd "_law_above" = some .local ∧ kd "isinstance" = some .globalImplicit ∧ kd "tuple" = some .globalImplicit ∧ kd "len" = some .globalImplicit ∧ kd "_law_whole" = some .globalImplicit ∧ kd "_law_least" = some .globalImplicit ∧ kd "_law_is_tree" = some .globalImplicit := by
    subst hkd; exact ⟨rfl, rfl, rfl, rfl, rfl, rfl, rfl, rfl, rfl, rfl, rfl, rfl⟩
  clear hkd
  dsimp only [bodyOf, PySem.Challenge.pw_uf010033_07, List.getElem?_cons_succ, List.getElem?_cons_zero]
  cases t with
  | sum n =>
    simp only [trD]
    rw [wSs_cons]
    simp only [gl_g, nm_l, nm_g, upd_str, call_n, call_s, e_int, e_name, e_call, e_itemC, es_nil, es_cons, c_one, t_not, t_bool, t_cmp, t_call, a_nil, a_cons, s_if, ss_nil, th_next, x_lt, tr_bool, sa_of, blt1, blt2, ns_nil, bind_nil, bind_cons, b_len, b_isinstance, ti_tt, wItem_lit, seqD_tup, String.reduceEq, ↓reduceIte, Option.some.injEq, reduceCtorEq, true_and, exists_eq_left', Int.reduceLE, Int.reduceLT, Int.reduceToNat, List.getElem?_cons_succ, List.getElem?_cons_zero, Bool.false_eq_true, ns_cons, str_name, str_sub, lim2, Bool.not_false, Bool.not_true, Bool.and_self, forall_const, List.length_cons, List.length_nil, Nat.zero_add, Nat.reduceAdd, decide_false, Int.cast_ofNat_Int, bo_oa, false_implies, kd2, kd6, kd7, kd8, kd9, h1, h2, g1, hW]
    repeat (with_reducible refine And.intro ?_ ?_; focus omega)
    refine hW' _ _ _ ?_
    simp only [tr_bool, sa_of, ↓reduceIte, Option.some.injEq, exists_eq_left', Bool.false_eq_true, Bool.not_true]
    by_cases q0 : n < 0
    · simp only [sa_ot, ↓reduceIte, decide_true, q0]
      rw [wSs_cons]
      simp only [e_bool, s_ret, th_ret, fin_ret]
      simp only [isTree, show ¬ 0 ≤ n by omega, decide_false, Bool.false_and] at hQ
      exact hQ
    simp only [sa_of, ↓reduceIte, Bool.false_eq_true, decide_false, q0]
    have q0' : 0 ≤ n := by omega
    rw [wSs_cons]
    simp only [nm_l, upd_str, e_int, e_str, e_name, e_itemC, c_one, t_cmp, s_if, ss_nil, th_next, x_eqS, wItem_lit, seqD_tup, String.reduceEq, ↓reduceIte, Option.some.injEq, exists_eq_left', Int.reduceLE, Int.reduceLT, Int.reduceToNat, List.getElem?_cons_zero, beq_self_eq_true, kd2]
    rw [wSs_cons]
    simp only [gl_g, nm_l, upd_str, call_n, e_int, e_name, e_boolop, e_cmp, e_call, e_itemC, e_itemS, es_nil, es_cons, b_one, b_two, c_one, s_ret, th_ret, fin_ret, x_lt, x_eq, tr_bool, sa_at, blt1, ns_nil, b_len, wItem_lit, seqD_tup, seqD_list, String.reduceEq, ↓reduceIte, Option.some.injEq, true_and, exists_eq_left', Int.reduceLE, Int.reduceLT, Int.reduceToNat, List.getElem?_cons_succ, List.getElem?_cons_zero, Bool.false_eq_true, ns_cons, str_name, str_sub, lim2, Bool.not_false, Bool.and_self, forall_const, List.length_cons, List.length_nil, Nat.zero_add, Nat.reduceAdd, Int.cast_ofNat_Int, beq_self_eq_true, kd0, kd1, kd2, kd8, kd10, hsl1, h2, List.length_map]
    repeat (with_reducible refine And.intro ?_ ?_; focus omega)
    by_cases q1 : n < (sm.length : Int)
    · simp only [call_s, sa_at, ↓reduceIte, Option.some.injEq, reduceCtorEq, true_and, Bool.false_eq_true, decide_true, false_implies, q1, hL]
      obtain ⟨hg, hgm⟩ := sm_get (bs := sm) (k := n.toNat) (by omega)
      rw [wItem_lit q0' (by omega)]
      simp only [seqD_list, Option.some.injEq, exists_eq_left', hg]
      refine hL' _ bs _ _ okb (oks _ hgm) ?_
      simp only [fin_ret, x_gt]
      simp only [isTree, q0', q1, decide_true, Bool.true_and] at hQ
      exact hQ
    · simp only [sa_af, ↓reduceIte, decide_false, q1]
      simp only [isTree, q1, decide_false, Bool.and_false, Bool.false_and] at hQ
      exact hQ
  | cut b a l r =>
    simp only [Tr.deep] at hd
    obtain ⟨T, hT, hT'⟩ := hT (by have : ∀ t : Tr, 0 < t.deep := (fun t => by cases t <;> simp [Tr.deep]); have := this l; omega)
    simp only [trD]
    rw [wSs_cons]
    simp only [gl_g, nm_l, nm_g, upd_str, call_n, call_s, e_int, e_name, e_call, e_itemC, es_nil, es_cons, c_one, t_not, t_bool, t_cmp, t_call, a_nil, a_cons, s_if, ss_nil, th_next, x_lt, tr_bool, sa_of, blt1, blt2, ns_nil, bind_nil, bind_cons, b_len, b_isinstance, ti_tt, wItem_lit, seqD_tup, String.reduceEq, ↓reduceIte, Option.some.injEq, reduceCtorEq, true_and, exists_eq_left', Int.reduceLE, Int.reduceLT, Int.reduceToNat, List.getElem?_cons_succ, List.getElem?_cons_zero, Bool.false_eq_true, ns_cons, str_name, str_sub, lim5, Bool.not_false, Bool.not_true, Bool.and_self, forall_const, List.length_cons, List.length_nil, Nat.zero_add, Nat.reduceAdd, decide_false, Int.cast_ofNat_Int, bo_oa, false_implies, kd2, kd6, kd7, kd8, kd9, h1, h2, g1, hW]
    repeat (with_reducible refine And.intro ?_ ?_; focus omega)
    refine hW' _ _ _ ?_
    simp only [tr_bool, sa_of, ↓reduceIte, Option.some.injEq, exists_eq_left', Bool.false_eq_true, Bool.not_true]
    by_cases q0 : b < 0
    · simp only [sa_ot, ↓reduceIte, decide_true, q0]
      rw [wSs_cons]
      simp only [e_bool, s_ret, th_ret, fin_ret]
      simp only [isTree, show ¬ 0 ≤ b by omega, decide_false, Bool.false_and] at hQ
      exact hQ
    simp only [sa_of, ↓reduceIte, Bool.false_eq_true, decide_false, q0]
    obtain ⟨k', rfl⟩ : ∃ k' : Nat, b = (k' : Int) := ⟨b.toNat, by omega⟩
    have q0' : 0 ≤ (k' : Int) := by omega
    rw [wSs_cons]
    simp only [nm_l, upd_str, e_int, e_str, e_name, e_itemC, c_one, t_cmp, s_if, ss_nil, th_next, x_eqS, wItem_lit, seqD_tup, String.reduceEq, ↓reduceIte, Option.some.injEq, exists_eq_left', Int.reduceLE, Int.reduceLT, Int.reduceToNat, List.getElem?_cons_zero, Bool.false_eq_true, kd2, st_cs]
    rw [wSs_cons]
    simp only [gl_g, nm_l, upd_str, call_n, call_s, e_int, e_str, e_name, e_call, e_itemC, es_nil, es_cons, c_one, t_not, t_bool, t_cmp, t_call, a_nil, a_cons, s_if, ss_nil, th_next, x_ge, x_ne, x_neS, sa_of, blt1, ns_nil, b_len, wItem_lit, seqD_tup, seqD_list, String.reduceEq, ↓reduceIte, Option.some.injEq, reduceCtorEq, true_and, exists_eq_left', Int.reduceLE, Int.reduceLT, Int.reduceToNat, List.getElem?_cons_succ, List.getElem?_cons_zero, Bool.false_eq_true, ns_cons, str_name, str_sub, lim5, Bool.not_false, Bool.not_true, Bool.and_self, forall_const, List.length_cons, List.length_nil, Nat.zero_add, Nat.reduceAdd, Int.cast_ofNat_Int, beq_self_eq_true, bo_oa, false_implies, kd0, kd2, kd8, kd9, hbl1, h2, hW, List.length_map]
    repeat (with_reducible refine And.intro ?_ ?_; focus omega)
    by_cases q1 : (k' : Int) ≥ (bs.length : Int)
    · simp only [sa_ot, ↓reduceIte, decide_true, q1]
      rw [wSs_cons]
      simp only [e_bool, s_ret, th_ret, fin_ret]
      simp only [isTree, show ¬ (k' : Int) < bs.length by omega, decide_false, Bool.and_false, Bool.false_and] at hQ
      exact hQ
    simp only [sa_of, ↓reduceIte, Bool.false_eq_true, decide_false, q1]
    refine hW' _ _ _ ?_
    obtain ⟨hg, hgm⟩ := pr_get (bs := bs) (k := k') (by omega)
    have hpo := okb.2 _ hgm
    generalize hp : bs.getD k' (0, 0) = p at hg hgm hpo
    simp only [isTree, q0', show (k' : Int) < bs.length by omega, decide_true, Bool.true_and, Int.toNat_natCast, hp] at hQ
    simp only [tr_bool, sa_of, ↓reduceIte, Option.some.injEq, exists_eq_left', Bool.false_eq_true, Bool.not_true]
    rw [wSs_cons]
    simp only [own_l, nm_l, upd_str, e_int, e_name, e_itemC, e_itemS, s_asgN, th_next, wItem_lit, seqD_tup, seqD_list, String.reduceEq, ↓reduceIte, Option.some.injEq, true_and, exists_eq_left', Int.reduceLE, Int.reduceLT, Int.reduceToNat, List.getElem?_cons_succ, List.getElem?_cons_zero, kd0, kd2, kd3, wItem_nat (i := k') (by omega), hg]
    rw [wSs_cons]
    simp only [nm_l, upd_str, e_int, e_name, e_itemC, c_one, c_two, t_not, t_cmp, s_if, ss_nil, th_next, x_lt, x_le, wItem_lit, seqD_tup, String.reduceEq, ↓reduceIte, Option.some.injEq, exists_eq_left', Int.reduceLE, Int.reduceLT, Int.reduceToNat, List.getElem?_cons_succ, List.getElem?_cons_zero, Bool.not_false, kd2, kd3, prD]
    by_cases q2 : p.1 ≤ a
    · simp only [↓reduceIte, decide_true, q2]
      by_cases q3 : a < p.2
      · simp only [↓reduceIte, Bool.false_eq_true, Bool.not_true, decide_true, q3]
        have hk1 : ((k' : Int) + 1).toNat = k' + 1 := by omega
        obtain ⟨a1, a2, a3, a4, a5⟩ := cut_lims k' hbl
        have e1 := set_cut (f := prD) (k := k') (bs := bs) (by omega) (p.1, a)
        have e2 := set_cut (f := prD) (k := k') (bs := bs) (by omega) (a + 1, p.2)
        simp only [prD] at e1 e2
        rw [wSs_cons]
        simp only [own_l, nm_l, upd_str, e_int, e_name, e_bin, e_slice, e_itemC, e_tup, e_list, es_nil, es_cons, o_none, o_some, s_asgN, th_next, x_add, x_addL, mk_f, wItem_lit, seqD_tup, String.reduceEq, ↓reduceIte, Option.some.injEq, true_and, exists_eq_left', Int.reduceLE, Int.reduceLT, Int.reduceToNat, List.getElem?_cons_succ, List.getElem?_cons_zero, lim1, lim2, List.length_cons, List.length_nil, Nat.zero_add, Nat.reduceAdd, kd0, kd2, kd3, kd4, hbl1, a2, a3, a4, a5, sl_upto (i := (k' : Int)) (by omega), sl_from (i := (k' : Int) + 1) (by omega), Int.toNat_natCast, hk1, List.length_map, List.length_append, List.length_take, List.length_drop]
        repeat (with_reducible refine And.intro ?_ ?_; focus omega)
        rw [wSs_cons]
        simp only [own_l, nm_l, upd_str, e_int, e_name, e_bin, e_slice, e_itemC, e_tup, e_list, es_nil, es_cons, o_none, o_some, s_asgN, th_next, x_add, x_addL, mk_f, wItem_lit, seqD_tup, String.reduceEq, ↓reduceIte, Option.some.injEq, true_and, exists_eq_left', Int.reduceLE, Int.reduceLT, Int.reduceToNat, List.getElem?_cons_succ, List.getElem?_cons_zero, lim1, lim2, List.length_cons, List.length_nil, Nat.zero_add, Nat.reduceAdd, kd0, kd2, kd3, kd5, hbl1, a2, a3, a4, a5, sl_upto (i := (k' : Int)) (by omega), sl_from (i := (k' : Int) + 1) (by omega), Int.toNat_natCast, hk1, List.length_map, List.length_append, List.length_take, List.length_drop]
        repeat (with_reducible refine And.intro ?_ ?_; focus omega)
        rw [wSs_cons]
        simp only [gl_g, nm_l, upd_str, call_s, e_int, e_name, e_boolop, e_call, e_itemC, es_nil, es_cons, b_one, b_two, s_ret, th_ret, ns_nil, wItem_lit, seqD_tup, String.reduceEq, ↓reduceIte, Option.some.injEq, reduceCtorEq, true_and, exists_eq_left', Int.reduceLE, Int.reduceLT, Int.reduceToNat, List.getElem?_cons_succ, List.getElem?_cons_zero, ns_cons, str_name, str_sub, Bool.not_false, Bool.and_self, false_implies, kd1, kd2, kd4, kd5, kd11, hT]
        have f1 : List.take k' (bs.map prD) ++ [D.tup [D.int p.1, D.int a]] ++ List.drop (k' + 1) (bs.map prD) = (bs.set k' (p.1, a)).map prD := e1
        have f2 : List.take k' (bs.map prD) ++ [D.tup [D.int (a + 1), D.int p.2]] ++ List.drop (k' + 1) (bs.map prD) = (bs.set k' (a + 1, p.2)).map prD := e2
        rw [f1, f2]
        refine hT' _ sm l _ _ (okB_set okb ⟨hpo.1, q2, by simp only; omega⟩) (by rw [List.length_set]; exact oks) hsm (by omega) ?_
        simp only [fin_ret, tr_bool, Option.some.injEq, exists_eq_left']
        simp only [q2, q3, decide_true, Bool.true_and] at hQ
        cases e : isTree sm (bs.set k' (p.1, a)) l with
        | false =>
          rw [e] at hQ
          simp only [Bool.false_and] at hQ
          simp only [sa_af, ↓reduceIte]
          exact hQ
        | true =>
          rw [e] at hQ
          simp only [Bool.true_and] at hQ
          simp only [sa_at, ↓reduceIte, Bool.false_eq_true]
          refine hT' _ sm r _ _ (okB_set okb ⟨by simp only; omega, by simp only; omega, hpo.2.2⟩) (by rw [List.length_set]; exact oks) hsm (by omega) ?_
          simp only [fin_ret]
          exact hQ
      · simp only [↓reduceIte, Bool.not_false, decide_false, q3]
        rw [wSs_cons]
        simp only [e_bool, s_ret, th_ret, fin_ret]
        simp only [q3, decide_false, Bool.and_false, Bool.false_and] at hQ
        exact hQ
    · simp only [↓reduceIte, Bool.false_eq_true, decide_false, q2]
      rw [wSs_cons]
      simp only [e_bool, s_ret, th_ret, fin_ret]
      simp only [q2, decide_false, Bool.false_and] at hQ
      exact hQ
end Mine
end

section
set_option autoImplicit false
set_option linter.unusedSimpArgs false
set_option linter.unusedVariables false
set_option maxRecDepth 100000
set_option maxHeartbeats 4000000
namespace Mine
open PySem
theorem rangeN_map (n : Nat) : rangeL 0 (n : Int) = (List.range n).map fun i : Nat => D.int (i : Int) := by simp [rangeL]
noncomputable def SpWord (S : FSpec) : Prop := ∀ (cell : Int) (n : Nat) (st : St) (Q : D → St → Prop), WfSt st → 0 ≤ cell → 1 ≤ n → n ≤ 3 → (∀ one, OkS n one → Q (smD one) st) → S [.int cell, .int n] st Q
theorem okS_unit {n k : Nat} {a c : Int} (ha : a.natAbs ≤ 1000) (hc : c.natAbs ≤ 1000) : OkS n ((List.replicate n 0).set k a, c) := by
  refine ⟨by simp, fun x hx => ?_, hc⟩
  rcases List.mem_or_eq_of_mem_set hx with hx | rfl
  · rw [List.eq_of_mem_replicate hx]; decide
  · exact ha
theorem emod_nat (x : Int) {n : Nat} (h : 1 ≤ n) : ∃ b : Nat, x % (n : Int) = (b : Int) ∧ b < n := by
  have p1 := Int.emod_nonneg x (b := (n : Int)) (by omega)
  have p2 := Int.emod_lt_of_pos x (b := (n : Int)) (by omega)
  exact ⟨(x % (n : Int)).toNat, by omega, by omega⟩
theorem get3 {k : Nat} (h : k < 3) (a b c : Int) : [D.int a, D.int b, D.int c][k]? = some (.int ([a, b, c].getD k 1)) := by
  have : k = 0 ∨ k = 1 ∨ k = 2 := by omega
  rcases this with rfl | rfl | rfl <;> rfl
theorem getD3 {k : Nat} (h : k < 3) (a b c : Int) (P : Int → Prop) (pa : P a) (pb : P b) (pc : P c) : P ([a, b, c].getD k 1) := by
  have : k = 0 ∨ k = 1 ∨ k = 2 := by omega
  rcases this with rfl | rfl | rfl
  · exact pa
  · exact pb
  · exact pc
theorem okS_map {n : Nat} {g : Nat → Int} {c : Int} (hg : ∀ k, k < n → (g k).natAbs ≤ 1000) (hc : c.natAbs ≤ 1000) : OkS n ((List.range n).map g, c) := by
  refine ⟨by simp, fun x hx => ?_, hc⟩
  obtain ⟨k, hk, rfl⟩ := List.mem_map.mp hx
  exact hg k (List.mem_range.mp hk)

theorem set_at {n : Nat} {xs : List D} {k : Int} {v : D} {st : St} {K : St → Prop} (h : st.cs n = some (.list xs)) (h0 : 0 ≤ k) (h1 : k < xs.length) (h2 : xs.length ≤ lim) (h3 : K (st.put n (.list (xs.set k.toNat v)))) : wSetItem (.loc n) (.int k) v st K := ⟨n, xs, rfl, h, h0, h1, h2, h3⟩
theorem word_ok {Γ : Ctx} (h1 : Γ.fn "list" = none) (h2 : Γ.fn "tuple" = none) (h3 : Γ.fn "range" = none) (hU : Has Γ "_law_unit" SpUnit) : SpWord (wFn Γ mtNum 60 (kdOf PySem.Challenge.pw_uf010033_07 13) ["_law_cell", "_law_many"] (bodyOf PySem.Challenge.pw_uf010033_07 13)) := by
  intro cell n st Q wf hc hn1 hn3 hQ
  obtain ⟨U, hU, hU'⟩ := hU
  have hlim : lim = 1000000 := rfl
  obtain ⟨b, hb, hbn⟩ := emod_nat (cell / 6) hn1
  refine fn_intro rfl ?_
  generalize hkd : kdOf PySem.Challenge.pw_uf010033_07 13 = kd
  obtain ⟨kd0, kd1, kd2, kd3, kd4, kd5, kd6, kd7, kd8, kd9⟩ : kd "_law_many" = some .local ∧ kd "_law_way" = some .local ∧ kd "_law_box" = some .local ∧ kd "_law_more" = some .local ∧ kd "_law_numbers" = some .local ∧ kd "_law_cell" = some .cell ∧ kd "_law_unit" = some .globalImplicit ∧ kd "list" = some .globalImplicit ∧ kd "tuple" = some .globalImplicit ∧ kd "range" = some .globalImplicit := by
    subst hkd; exact ⟨rfl, rfl, rfl, rfl, rfl, rfl, rfl, rfl, rfl, rfl⟩
  clear hkd
  dsimp only [bodyOf, PySem.Challenge.pw_uf010033_07, List.getElem?_cons_succ, List.getElem?_cons_zero]
  rw [wSs_cons]
  simp only [own_l, nm_c, upd_str, e_int, e_name, e_bin, s_asgN, th_next, x_mod, bind_nil, bind_cons, String.reduceEq, ↓reduceIte, Option.some.injEq, true_and, exists_eq_left', Int.reduceLT, decide_false, kd1, kd5, mtNum_str]
  rw [wSs_cons]
  simp only [own_l, nm_l, nm_c, upd_str, e_int, e_name, e_bin, s_asgN, th_next, x_div, x_mod, String.reduceEq, ↓reduceIte, Option.some.injEq, true_and, exists_eq_left', Int.reduceLT, Int.reducePow, decide_false, kd0, kd2, kd5, mtNum_str, hb]
  repeat (with_reducible refine And.intro ?_ ?_; focus omega)
  rw [wSs_cons]
  simp only [own_l, nm_c, upd_str, e_int, e_name, e_bin, s_asgN, th_next, x_div, x_mod, String.reduceEq, ↓reduceIte, Option.some.injEq, true_and, exists_eq_left', Int.reduceLT, Int.reducePow, decide_false, kd3, kd5, mtNum_str]
  rw [wSs_cons]
  simp only [nm_l, upd_str, e_int, e_name, c_one, t_cmp, s_if, ss_nil, th_next, x_lt, String.reduceEq, ↓reduceIte, Option.some.injEq, exists_eq_left', kd1]
  by_cases q1 : cell % 6 < 2
  · simp only [↓reduceIte, decide_true, q1]
    rw [wSs_cons]
    simp only [gl_g, nm_l, upd_str, call_s, e_int, e_name, e_un, e_call, es_nil, es_cons, s_ret, th_ret, x_neg, ns_nil, String.reduceEq, ↓reduceIte, Option.some.injEq, reduceCtorEq, true_and, exists_eq_left', ns_cons, str_name, str_const, str_un, Bool.not_false, Bool.and_self, false_implies, kd0, kd2, kd3, kd6, hU]
    refine hU' n b 1 _ _ _ wf hbn hn3 ?_
    simp only [fin_ret]
    exact hQ _ (okS_unit (by decide) (mdn (by decide) (by decide)))
  simp only [↓reduceIte, Bool.false_eq_true, decide_false, q1]
  rw [wSs_cons]
  simp only [nm_l, upd_str, e_int, e_name, c_one, t_cmp, s_if, ss_nil, th_next, x_lt, String.reduceEq, ↓reduceIte, Option.some.injEq, exists_eq_left', kd1]
  by_cases q2 : cell % 6 < 4
  · simp only [↓reduceIte, decide_true, q2]
    rw [wSs_cons]
    simp only [gl_g, nm_l, upd_str, call_s, e_int, e_name, e_un, e_call, es_nil, es_cons, s_ret, th_ret, x_neg, ns_nil, String.reduceEq, ↓reduceIte, Option.some.injEq, reduceCtorEq, true_and, exists_eq_left', ns_cons, str_name, str_un, Bool.not_false, Bool.and_self, Int.reduceNeg, false_implies, kd0, kd2, kd3, kd6, hU]
    refine hU' n b (-1) _ _ _ wf hbn hn3 ?_
    simp only [fin_ret, Int.reduceNeg]
    exact hQ _ (okS_unit (by decide) (md0 (by decide) (by decide)))
  simp only [↓reduceIte, Bool.false_eq_true, decide_false, q2]
  rw [wSs_cons]
  simp only [nm_l, upd_str, e_int, e_name, c_one, t_bool, t_cmp, a_nil, a_cons, s_if, ss_nil, th_next, x_gt, x_eq, String.reduceEq, ↓reduceIte, Option.some.injEq, exists_eq_left', beq_self_eq_true, kd0, kd1]
  have rest : wSs Γ mtNum 54 kd ((bodyOf PySem.Challenge.pw_uf010033_07 13).drop 6) (upd (upd (upd (upd (upd (fun _ => none) "_law_many" (.int n)) "_law_cell" (.int cell)) "_law_way" (.int (cell % 6))) "_law_box" (.int b)) "_law_more" (.int (cell / 18 % 5))) st (finK Q st) := by
    dsimp only [bodyOf, PySem.Challenge.pw_uf010033_07, List.getElem?_cons_succ, List.getElem?_cons_zero, List.drop]
    rw [wSs_cons]
    simp only [nm_c, upd_str, e_int, e_name, e_bin, c_one, t_cmp, s_if, ss_nil, th_next, x_div, x_mod, x_gt, String.reduceEq, ↓reduceIte, Option.some.injEq, true_and, exists_eq_left', Int.reduceLT, Int.reducePow, kd5]
    by_cases q4 : cell / 90 % 4 > 0
    · simp only [↓reduceIte, decide_true, q4]
      rw [wSs_cons]
      simp only [gl_g, own_l, nm_l, nm_c, nm_f, upd_str, lk_str, call_n, e_int, e_name, e_bin, e_call, e_itemN, e_tup, e_list, e_comp0, es_nil, es_cons, i_range, s_ret, th_ret, tg_name, x_sub, x_div, x_mod, mk_f, ic_range1, blt4, ns_nil, b_tuple, hide_false, back_false, lstD_list, String.reduceEq, ↓reduceIte, Option.some.injEq, true_and, exists_eq_left', Int.reduceLT, ns_cons, str_name, str_comp, lim2, lim3, Bool.not_false, Bool.and_self, forall_const, List.length_cons, List.length_nil, Int.reducePow, Nat.zero_add, Nat.reduceAdd, kd0, kd5, kd8, kd9, h2, h3]
      refine ⟨by simp [ScopeOk, ofString_inj, kd0, kd1, kd2, kd3, kd4, kd5, kd6, kd7, kd8, kd9, lk_str], ?_⟩
      repeat (with_reducible refine And.intro ?_ ?_; focus omega)
      rw [rangeN_map]
      refine wComp_list (α := Nat) _ (fun k => .int (cell / [18, 90, 450].getD k 1 % 5 - 2)) _ [] (fun k hk K hK => ?_) ?_
      · rw [List.mem_range] at hk
        simp only [x_sub, x_div, x_mod, seqD_list, Option.some.injEq, true_and, exists_eq_left', Int.reduceLT, Int.reducePow, wItem_nat (i := k) (by omega), get3 (k := k) (by omega)]
        repeat (with_reducible refine And.intro ?_ ?_; focus omega)
        refine ⟨?_, ?_, hK⟩
        · exact getD3 (k := k) (by omega) 18 90 450 (fun x => 0 < x) (by decide) (by decide) (by decide)
        · exact getD3 (k := k) (by omega) 18 90 450 (fun x => x < 1073741824) (by decide) (by decide) (by decide)
      have e : [] ++ (List.range n).map (fun k => D.int (cell / [18, 90, 450].getD k 1 % 5 - 2)) = dI ((List.range n).map fun k => cell / [18, 90, 450].getD k 1 % 5 - 2) := by simp [dI]
      rw [e]
      simp only [fin_ret, dI_len, List.length_map, List.length_range]
      repeat (with_reducible refine And.intro ?_ ?_; focus omega)
      exact hQ ((List.range n).map fun k => cell / [18, 90, 450].getD k 1 % 5 - 2, _) (okS_map (fun k _ => md (by decide) (by decide) (by decide)) (md (by decide) (by decide) (by decide)))
    simp only [↓reduceIte, Bool.false_eq_true, decide_false, q4]
    rw [wSs_cons]
    simp only [gl_g, own_l, nm_l, nm_c, nm_f, upd_str, lk_str, call_n, e_int, e_name, e_bin, e_call, e_itemN, e_tup, e_list, e_comp0, es_nil, es_cons, i_range, s_ret, th_ret, tg_name, x_sub, x_div, x_mod, mk_f, ic_range1, blt4, ns_nil, b_tuple, hide_false, back_false, lstD_list, String.reduceEq, ↓reduceIte, Option.some.injEq, true_and, exists_eq_left', Int.reduceLT, ns_cons, str_name, str_comp, lim2, lim3, Bool.not_false, Bool.and_self, forall_const, List.length_cons, List.length_nil, Int.reducePow, Nat.zero_add, Nat.reduceAdd, kd0, kd5, kd8, kd9, h2, h3]
    refine ⟨by simp [ScopeOk, ofString_inj, kd0, kd1, kd2, kd3, kd4, kd5, kd6, kd7, kd8, kd9, lk_str], ?_⟩
    repeat (with_reducible refine And.intro ?_ ?_; focus omega)
    rw [rangeN_map]
    refine wComp_list (α := Nat) _ (fun k => .int (cell / [18, 342, 6498].getD k 1 % 19 - 9)) _ [] (fun k hk K hK => ?_) ?_
    · rw [List.mem_range] at hk
      simp only [x_sub, x_div, x_mod, seqD_list, Option.some.injEq, true_and, exists_eq_left', Int.reduceLT, Int.reducePow, wItem_nat (i := k) (by omega), get3 (k := k) (by omega)]
      repeat (with_reducible refine And.intro ?_ ?_; focus omega)
      refine ⟨?_, ?_, hK⟩
      · exact getD3 (k := k) (by omega) 18 342 6498 (fun x => 0 < x) (by decide) (by decide) (by decide)
      · exact getD3 (k := k) (by omega) 18 342 6498 (fun x => x < 1073741824) (by decide) (by decide) (by decide)
    have e : [] ++ (List.range n).map (fun k => D.int (cell / [18, 342, 6498].getD k 1 % 19 - 9)) = dI ((List.range n).map fun k => cell / [18, 342, 6498].getD k 1 % 19 - 9) := by simp [dI]
    rw [e]
    simp only [fin_ret, dI_len, List.length_map, List.length_range]
    repeat (with_reducible refine And.intro ?_ ?_; focus omega)
    exact hQ ((List.range n).map fun k => cell / [18, 342, 6498].getD k 1 % 19 - 9, _) (okS_map (fun k _ => md (by decide) (by decide) (by decide)) (md (by decide) (by decide) (by decide)))
  cases q3 : (cell % 6 == 4) with
  | false =>
    simp only [sa_af, ↓reduceIte, Bool.false_eq_true]
    exact rest
  | true =>
    simp only [sa_at, ↓reduceIte, Bool.false_eq_true]
    by_cases q5 : (n : Int) > 1
    · simp only [sa_at, ↓reduceIte, Bool.false_eq_true, decide_true, q5]
      obtain ⟨d, hd, hdn⟩ := emod_nat ((b : Int) + 1) hn1
      rw [wSs_cons]
      simp only [gl_g, own_l, nm_l, upd_str, call_n, call_s, e_int, e_name, e_call, e_itemC, es_nil, es_cons, s_asgN, th_next, mk_t, blt3, ns_nil, b_list, wItem_lit, String.reduceEq, ↓reduceIte, Option.some.injEq, reduceCtorEq, true_and, exists_eq_left', Int.reduceLE, Int.reduceLT, Int.reduceToNat, ns_cons, str_name, str_const, str_sub, Bool.not_false, Bool.and_self, forall_const, decide_true, false_implies, kd0, kd2, kd4, kd6, kd7, mtNum_str, h1, hU]
      refine hU' n b 1 0 _ _ wf hbn hn3 ?_
      simp only [seqD_tup, Option.some.injEq, exists_eq_left', List.getElem?_cons_zero, dI_len, smD, List.length_set, List.length_replicate]
      repeat (with_reducible refine And.intro ?_ ?_; focus omega)
      rw [wSs_cons]
      simp only [nm_l, upd_str, e_int, e_name, e_bin, e_un, s_asgS, th_next, x_add, x_mod, x_neg, String.reduceEq, ↓reduceIte, Option.some.injEq, true_and, exists_eq_left', se_bin, Int.reduceNeg, kd0, kd2, kd4, hd]
      repeat (with_reducible refine And.intro ?_ ?_; focus omega)
      refine set_at (alloc_cs _ _) (by omega) (by rw [dI_len, List.length_set, List.length_replicate]; omega) (by rw [dI_len, List.length_set, List.length_replicate]; omega) ?_
      rw [alloc_put, Int.toNat_natCast, dI_set]
      rw [wSs_cons]
      simp only [gl_g, nm_l, nm_c, upd_str, call_n, e_int, e_name, e_bin, e_call, e_tup, es_nil, es_cons, s_ret, th_ret, x_sub, x_div, x_mod, blt4, ns_nil, b_tuple, String.reduceEq, ↓reduceIte, Option.some.injEq, true_and, exists_eq_left', Int.reduceLT, ns_cons, str_name, lim2, Bool.not_false, Bool.and_self, forall_const, List.length_cons, List.length_nil, Int.reducePow, Nat.zero_add, Nat.reduceAdd, Int.reduceNeg, dI_len, kd4, kd5, kd8, h2, lstD_alloc, List.length_set, List.length_replicate]
      repeat (with_reducible refine And.intro ?_ ?_; focus omega)
      refine fin_cut (d' := smD (((List.replicate n 0).set b 1).set d (-1), cell / 90 % 5 - 2)) (by simp [St.alloc]) ?_ ?_
      · simp only [smD, frz, undrAll, D.undr, undr_dI, Bool.and_true, if_true]
      · rw [alloc_cut wf]
        refine hQ _ ⟨by simp, fun x hx => ?_, md (by decide) (by decide) (by decide)⟩
        rcases List.mem_or_eq_of_mem_set hx with hx | rfl
        · rcases List.mem_or_eq_of_mem_set hx with hx | rfl
          · rw [List.eq_of_mem_replicate hx]; decide
          · decide
        · decide
    · simp only [sa_af, ↓reduceIte, Bool.false_eq_true, decide_false, q5]
      exact rest
end Mine
end

section
set_option autoImplicit false
set_option linter.unusedSimpArgs false
set_option linter.unusedVariables false
set_option maxRecDepth 100000
set_option maxHeartbeats 4000000
namespace Mine
open PySem
noncomputable def mtFound (x : Str) : Bool := x == "_law_found"
theorem mtFound_str (a : String) : mtFound (Str.ofString a) = decide (a = "_law_found") := ofString_beq a _
noncomputable def Box (bs : List (Int × Int)) : Prop := ∀ p ∈ bs, -3 ≤ p.1 ∧ p.1 ≤ p.2 ∧ p.2 ≤ 11
noncomputable def SpStretch (S : FSpec) : Prop := ∀ (sc : List Int) (st : St) (Q : D → St → Prop), WfSt st → sc.length ≤ 1000 → (∀ bs, 1 ≤ bs.length → bs.length ≤ 3 → Box bs → Q (.list (bs.map prD)) st) → S [.list (dI sc)] st Q
theorem frz_prs (hi : Nat) (st : St) (k : Nat) (bs : List (Int × Int)) : (bs.map prD).mapM (frz hi st (k + 1)) = some (bs.map prD) := by
  induction bs with
  | nil => rfl
  | cons b bs ih =>
    rw [List.map_cons, List.mapM_cons, ih]
    have : frz hi st (k + 1) (prD b) = some (prD b) := by simp only [prD, frz, undrAll, D.undr, Bool.and_self, if_true]
    rw [this]; rfl
theorem stretch_ok {Γ : Ctx} (h1 : Γ.fn "range" = none) (hA : Has Γ "_law_at" SpAt) : SpStretch (wFn Γ mtFound 60 (kdOf PySem.Challenge.pw_uf010033_07 20) ["_law_script"] (bodyOf PySem.Challenge.pw_uf010033_07 20)) := by
  intro sc st Q wf hsc hQ
  obtain ⟨A, hA, hA'⟩ := hA
  have hlim : lim = 1000000 := rfl
  refine fn_intro rfl ?_
  generalize hkd : kdOf PySem.Challenge.pw_uf010033_07 20 = kd
  obtain ⟨kd0, kd1, kd2, kd3, kd4, kd5, kd6, kd7⟩ : kd "_law_script" = some .local ∧ kd "_law_many" = some .local ∧ kd "_law_found" = some .local ∧ kd "_law_k" = some .local ∧ kd "_law_cell" = some .local ∧ kd "_law_low" = some .local ∧ kd "_law_at" = some .globalImplicit ∧ kd "range" = some .globalImplicit := by
    subst hkd; exact ⟨rfl, rfl, rfl, rfl, rfl, rfl, rfl, rfl⟩
  clear hkd
  dsimp only [bodyOf, PySem.Challenge.pw_uf010033_07, List.getElem?_cons_succ, List.getElem?_cons_zero]
  rw [wSs_cons]
  simp only [gl_g, own_l, nm_l, upd_str, call_s, e_int, e_name, e_bin, e_call, es_nil, es_cons, s_asgN, th_next, ns_nil, bind_nil, bind_cons, String.reduceEq, ↓reduceIte, Option.some.injEq, reduceCtorEq, true_and, exists_eq_left', ns_cons, str_name, str_const, Bool.not_false, Bool.and_self, decide_false, false_implies, kd0, kd1, kd6, mtFound_str, hA]
  refine hA' _ _ _ _ hsc ?_
  obtain ⟨c0, c1⟩ := at_pos sc 0
  generalize atV sc 0 = cell at c0 c1
  obtain ⟨n, hn, hn1, hn3⟩ : ∃ n : Nat, 1 + cell % 3 = (n : Int) ∧ 1 ≤ n ∧ n ≤ 3 := ⟨(1 + cell % 3).toNat, by omega, by omega, by omega⟩
  simp only [x_add, x_mod, true_and, Int.reduceLT, hn]
  rw [wSs_cons]
  simp only [own_l, e_list, es_nil, s_asgN, th_next, mk_t, true_and, lim0, List.length_nil, decide_true, kd2, mtFound_str]
  repeat (with_reducible refine And.intro ?_ ?_; focus omega)
  rw [wSs_cons]
  simp only [gl_g, own_l, nm_l, upd_str, e_name, es_nil, es_cons, i_range, s_for, tg_name, ic_range1, ns_nil, hide_false, back_false, String.reduceEq, ↓reduceIte, Option.some.injEq, true_and, exists_eq_left', ns_cons, str_name, Bool.not_false, Bool.and_self, kd1, kd3, kd7, h1]
  repeat (with_reducible refine And.intro ?_ ?_; focus omega)
  refine wFor_inv (fun i m' st' => ∃ bs : List (Int × Int), bs.length = i ∧ Box bs ∧ st' = st.alloc (.list (bs.map prD)) ∧ m' "_law_script" = some (.list (dI sc)) ∧ m' "_law_many" = some (.int n) ∧ m' "_law_found" = some (.loc st.hi)) _ []
    ⟨[], rfl, (fun p hp => by cases hp), rfl, by simp only [upd_str, String.reduceEq, ↓reduceIte], by simp only [upd_str, String.reduceEq, ↓reduceIte], by simp only [upd_str, ↓reduceIte]⟩ ?_ ?_
  · rintro i d m' st' K hd ⟨bs, hbl, hbb, rfl, f1, f2, f3⟩ hK
    obtain ⟨hi, rfl⟩ := rangeN_get hd
    rw [wSs_cons]
    simp only [gl_g, own_l, nm_l, upd_str, call_s, e_int, e_name, e_bin, e_call, es_nil, es_cons, s_asgN, th_next, x_add, ns_nil, String.reduceEq, ↓reduceIte, Option.some.injEq, reduceCtorEq, true_and, exists_eq_left', ns_cons, str_name, str_bin, Bool.not_false, Bool.and_self, decide_false, false_implies, kd0, kd3, kd4, kd6, mtFound_str, hA, f1]
    refine hA' _ _ _ _ hsc ?_
    obtain ⟨c0, c1⟩ := at_pos sc (1 + i)
    generalize atV sc (1 + i) = cell at c0 c1
    rw [wSs_cons]
    simp only [own_l, nm_l, upd_str, e_int, e_name, e_bin, s_asgN, th_next, x_sub, x_mod, String.reduceEq, ↓reduceIte, Option.some.injEq, true_and, exists_eq_left', Int.reduceLT, decide_false, kd4, kd5, mtFound_str]
    rw [wSs_cons]
    have hg : ∃ w : Int, 1 ≤ w ∧ w ≤ 10 ∧ [D.int 10, D.int 6, D.int 3][((n : Int) - 1).toNat]? = some (.int w) := by
      have : n = 1 ∨ n = 2 ∨ n = 3 := by omega
      rcases this with rfl | rfl | rfl
      · exact ⟨10, by decide, by decide, rfl⟩
      · exact ⟨6, by decide, by decide, rfl⟩
      · exact ⟨3, by decide, by decide, rfl⟩
    obtain ⟨w, w1, w2, hw⟩ := hg
    simp only [nm_l, upd_str, e_int, e_name, e_bin, e_meth1, e_itemB, e_tup, e_list, es_nil, es_cons, s_expr, ss_nil, th_next, x_sub, x_div, mk_f, me_append, ns_nil, String.reduceEq, ↓reduceIte, Option.some.injEq, true_and, exists_eq_left', Int.reduceLT, ns_cons, str_tup, ce_name, ce_call, lim2, lim3, Bool.not_false, Bool.and_self, List.length_cons, List.length_nil, Int.reducePow, Nat.zero_add, Nat.reduceAdd, beq_self_eq_true, kd1, kd2, kd4, kd5, f2, f3, lstD_alloc, Option.isSome_some]
    repeat (with_reducible refine And.intro ?_ ?_; focus omega)
    rw [wItem_lit (by omega) (by omega)]
    simp only [x_add, x_mod, seqD_list, Option.some.injEq, exists_eq_left', hw]
    repeat (with_reducible refine And.intro ?_ ?_; focus omega)
    rw [m_append]
    refine ⟨_, alloc_cs _ _, by rw [List.length_map]; omega, ?_⟩
    rw [alloc_put]
    have p1 := Int.emod_nonneg (cell / 6) (b := w) (by omega)
    have p2 := Int.emod_lt_of_pos (cell / 6) (b := w) (by omega)
    refine hK _ _ ⟨bs ++ [(cell % 6 - 3, cell % 6 - 3 + cell / 6 % w)], by simp [hbl], fun p hp => ?_, by simp [prD], ?_, ?_, ?_⟩
    · rcases List.mem_append.mp hp with hp | hp
      · exact hbb p hp
      · rw [List.mem_singleton.mp hp]; simp only; omega
    · simp only [upd_str, String.reduceEq, ↓reduceIte, f1]
    · simp only [upd_str, String.reduceEq, ↓reduceIte, f2]
    · simp only [upd_str, String.reduceEq, ↓reduceIte, f3]
  rintro m' st' ⟨bs, hbl, hbb, rfl, f1, f2, f3⟩
  rw [List.nil_append, rangeN_len] at hbl
  rw [th_next, wSs_cons]
  simp only [nm_l, e_name, s_ret, th_ret, Option.some.injEq, exists_eq_left', kd2, f3]
  refine fin_cut (d' := .list (bs.map prD)) (by simp [St.alloc]) ?_ (by rw [alloc_cut wf]; exact hQ bs (by omega) (by omega) hbb)
  rw [frz, if_neg (Nat.lt_irrefl _), alloc_cs]
  show Option.map _ ((bs.map prD).mapM (frz _ _ 2)) = _
  rw [frz_prs]; rfl

/- all fillings -/
noncomputable def span (p : Int × Int) : List Int := (List.range (p.2 + 1 - p.1).toNat).map fun i : Nat => p.1 + (i : Int)
noncomputable def fill1 (found : List (List Int)) (p : Int × Int) : List (List Int) := found.flatMap fun f => (span p).map fun h => f ++ [h]
noncomputable def allIn (bs : List (Int × Int)) : List (List Int) := bs.foldl fill1 [[]]
noncomputable def fD (f : List Int) : D := .list (dI f)
theorem mem_span {p : Int × Int} {h : Int} : h ∈ span p ↔ p.1 ≤ h ∧ h ≤ p.2 := by
  simp only [span, List.mem_map, List.mem_range]
  constructor
  · rintro ⟨i, hi, rfl⟩; omega
  · intro hh; exact ⟨(h - p.1).toNat, by omega, by omega⟩
theorem inB_app : ∀ (bs : List (Int × Int)) (p : Int × Int) (f : List Int) (h : Int), InB (bs ++ [p]) (f ++ [h]) ↔ InB bs f ∧ p.1 ≤ h ∧ h ≤ p.2
  | [], p, [], h => by simp [InB]
  | q :: bs, p, a :: f, h => by simp only [List.cons_append, InB, inB_app bs p f h, and_assoc]
  | [], p, a :: f, h => by cases f <;> simp [InB]
  | q :: bs, p, [], h => by cases bs <;> simp [InB]
theorem mem_allIn (bs : List (Int × Int)) (f : List Int) : f ∈ allIn bs ↔ InB bs f := by
  have key : ∀ (n : Nat) (bs : List (Int × Int)) (f : List Int), bs.length = n → (f ∈ allIn bs ↔ InB bs f) := by
    intro n
    induction n with
    | zero =>
      intro bs f h
      have : bs = [] := List.length_eq_zero_iff.mp h
      subst this
      cases f <;> simp [allIn, InB]
    | succ n ih =>
      intro bs f h
      have hne : bs ≠ [] := by intro e; subst e; cases h
      obtain ⟨q, p, rfl⟩ : ∃ q p, bs = q ++ [p] := ⟨bs.dropLast, bs.getLast hne, (List.dropLast_concat_getLast hne).symm⟩
      have hq : q.length = n := by simpa using h
      have e : allIn (q ++ [p]) = fill1 (allIn q) p := by simp [allIn, List.foldl_append]
      rw [e]
      simp only [fill1, List.mem_flatMap, List.mem_map]
      constructor
      · rintro ⟨g, hg, x, hx, rfl⟩
        exact (inB_app q p g x).mpr ⟨(ih q g hq).mp hg, mem_span.mp hx⟩
      · intro hf
        have hl := inB_len hf
        have hfe : f ≠ [] := by intro e; subst e; simp at hl
        obtain ⟨g, x, rfl⟩ : ∃ g x, f = g ++ [x] := ⟨f.dropLast, f.getLast hfe, (List.dropLast_concat_getLast hfe).symm⟩
        obtain ⟨h1, h2⟩ := (inB_app q p g x).mp hf
        exact ⟨g, (ih q g hq).mpr h1, x, mem_span.mpr h2, rfl⟩
  exact key _ bs f rfl
theorem fill_len {p : Int × Int} (hp : -3 ≤ p.1 ∧ p.1 ≤ p.2 ∧ p.2 ≤ 11) : ∀ (found : List (List Int)), (fill1 found p).length ≤ found.length * 15
  | [] => by simp [fill1]
  | f :: fs => by
    have := fill_len hp fs
    simp only [fill1] at this ⊢
    rw [List.flatMap_cons, List.length_append, List.length_cons, Nat.add_mul, Nat.one_mul]
    have h2 : ((span p).map fun h => f ++ [h]).length ≤ 15 := by simp [span]; omega
    omega
theorem rangeD (a b : Int) : rangeL a (b + 1) = (span (a, b)).map .int := by simp [rangeL, span]
noncomputable def SpAllIn (S : FSpec) : Prop := ∀ (bs : List (Int × Int)) (st : St) (Q : D → St → Prop), bs.length ≤ 3 → Box bs → Q (.list ((allIn bs).map fD)) st → S [.list (bs.map prD)] st Q
theorem allIn_ok {Γ : Ctx} (h1 : Γ.fn "range" = none) : SpAllIn (wFn Γ (fun _ => false) 60 (kdOf PySem.Challenge.pw_uf010033_07 21) ["_law_stretch_here"] (bodyOf PySem.Challenge.pw_uf010033_07 21)) := by
  intro bs st Q hb3 hbb hQ
  have hlim : lim = 1000000 := rfl
  refine fn_intro rfl ?_
  generalize hkd : kdOf PySem.Challenge.pw_uf010033_07 21 = kd
  obtain ⟨kd0, kd1, kd2, kd3, kd4, kd5⟩ : kd "_law_stretch_here" = some .local ∧ kd "_law_found" = some .local ∧ kd "_law_pair" = some .local ∧ kd "_law_more" = some .local ∧ kd "_law_filling" = some .cell ∧ kd "range" = some .globalImplicit := by
    subst hkd; exact ⟨rfl, rfl, rfl, rfl, rfl, rfl⟩
  clear hkd
  dsimp only [bodyOf, PySem.Challenge.pw_uf010033_07, List.getElem?_cons_succ, List.getElem?_cons_zero]
  rw [wSs_cons]
  simp only [own_l, e_list, es_nil, es_cons, s_asgN, th_next, mk_f, bind_nil, bind_cons, true_and, lim0, lim1, List.length_cons, List.length_nil, Nat.zero_add, kd1]
  repeat (with_reducible refine And.intro ?_ ?_; focus omega)
  rw [wSs_cons]
  simp only [own_l, nm_l, upd_str, e_name, i_name, s_for, tg_name, it_list, hide_false, back_false, String.reduceEq, ↓reduceIte, Option.some.injEq, true_and, exists_eq_left', kd0, kd2, List.length_map]
  repeat (with_reducible refine And.intro ?_ ?_; focus omega)
  refine wFor_inv (fun i m' st' => st' = st ∧ (allIn (bs.take i)).length ≤ 15 ^ i ∧ m' "_law_found" = some (.list ((allIn (bs.take i)).map fD))) _ [] ⟨rfl, by simp [allIn], by simp only [upd_str, ↓reduceIte, Option.some.injEq, List.length_nil]; rfl⟩ ?_ ?_
  · rintro i d m' st' K hd ⟨rfl, hln, f1⟩ hK
    simp only [List.nil_append, List.getElem?_map, Option.map_eq_some_iff] at hd
    obtain ⟨p, hp, rfl⟩ := hd
    have hi : i < bs.length := (List.getElem?_eq_some_iff.mp hp).1
    have hpp := hbb p (List.mem_of_getElem? hp)
    have e15 : 15 ^ i ≤ 15 ^ 2 := Nat.pow_le_pow_right (by decide) (by omega)
    have hnext : allIn (bs.take (i + 1)) = fill1 (allIn (bs.take i)) p := by
      rw [List.take_add_one, hp]; simp [allIn, List.foldl_append]
    have hfl := fill_len hpp (allIn (bs.take i))
    have hf3 : ∀ f ∈ allIn (bs.take i), f.length ≤ 3 := fun f hf => by
      have := inB_len ((mem_allIn _ f).mp hf)
      rw [List.length_take] at this; omega
    generalize allIn (bs.take i) = found at hln f1 hnext hfl hf3
    rw [wSs_cons]
    simp only [own_l, e_list, es_nil, s_asgN, th_next, mk_f, true_and, lim0, List.length_nil, kd3]
    repeat (with_reducible refine And.intro ?_ ?_; focus omega)
    rw [wSs_cons]
    simp only [own_c, nm_l, upd_str, e_name, i_name, s_for, tg_name, it_list, hide_false, back_false, String.reduceEq, ↓reduceIte, Option.some.injEq, true_and, exists_eq_left', kd1, kd4, f1, List.length_map]
    repeat (with_reducible refine And.intro ?_ ?_; focus omega)
    refine wFor_inv (fun j m2 st2 => st2 = st' ∧ m2 "_law_pair" = some (prD p) ∧ m2 "_law_more" = some (.list ((fill1 (found.take j) p).map fD))) _ [] ⟨rfl, by simp only [upd_str, String.reduceEq, ↓reduceIte], by simp only [upd_str, ↓reduceIte, Option.some.injEq, List.length_nil]; rfl⟩ ?_ ?_
    · rintro j d m2 st2 K2 hd ⟨rfl, n1, n2⟩ hK2
      simp only [List.nil_append, List.getElem?_map, Option.map_eq_some_iff] at hd
      obtain ⟨f, hf, rfl⟩ := hd
      have hnj : fill1 (found.take (j + 1)) p = fill1 (found.take j) p ++ (span p).map fun h => f ++ [h] := by
        rw [List.take_add_one, hf]; simp [fill1]
      have hflj := fill_len hpp (found.take (j + 1))
      have hlj : (found.take (j + 1)).length ≤ found.length := by rw [List.length_take]; omega
      have hsp : (span p).length ≤ 15 := by simp [span]; omega
      rw [wSs_cons]
      simp only [gl_g, own_l, nm_l, nm_f, upd_str, lk_str, e_int, e_name, e_bin, e_itemC, e_list, e_comp0, es_nil, es_cons, i_range, s_asgN, ss_nil, th_next, tg_name, x_add, x_addL, mk_f, ic_range2, ns_nil, hide_false, back_false, wItem_lit, seqD_tup, String.reduceEq, ↓reduceIte, Option.some.injEq, true_and, exists_eq_left', Int.reduceLE, Int.reduceLT, Int.reduceToNat, List.getElem?_cons_succ, List.getElem?_cons_zero, ns_cons, str_bin, str_sub, lim1, Bool.not_false, Bool.and_self, List.length_cons, List.length_nil, Nat.zero_add, kd2, kd3, kd5, h1, n1, n2, prD]
      refine ⟨by simp [ScopeOk, ofString_inj, kd0, kd1, kd2, kd3, kd4, kd5, lk_str], ?_⟩
      repeat (with_reducible refine And.intro ?_ ?_; focus omega)
      rw [rangeD]
      refine wComp_list (α := Int) .int (fun h => fD (f ++ [h])) (span (p.1, p.2)) [] (fun h hh K3 hK3 => ?_) ?_
      · have := hf3 f (List.mem_of_getElem? hf)
        simp only [x_addL, mk_f, List.length_cons, List.length_nil, Nat.zero_add, dI_len, fD, List.length_append]
        repeat (with_reducible refine And.intro ?_ ?_; focus omega)
        have e : D.list (dI f ++ [.int h]) = fD (f ++ [h]) := by simp [fD, dI]
        rw [e]; exact hK3
      have e : [] ++ (span (p.1, p.2)).map (fun h => fD (f ++ [h])) = ((span p).map fun h => f ++ [h]).map fD := by simp
      rw [e]
      simp only [List.length_map, List.length_append]
      rw [hnj, List.length_append, List.length_map] at hflj
      repeat (with_reducible refine And.intro ?_ ?_; focus omega)
      refine hK2 _ _ ⟨rfl, ?_, ?_⟩
      · simp only [upd_str, String.reduceEq, ↓reduceIte, n1, prD]
      · simp only [upd_str, ↓reduceIte, Option.some.injEq]
        rw [hnj, List.map_append]
    · rintro m2 st2 ⟨rfl, n1, n2⟩
      have el : ([] ++ found.map fD).length = found.length := by simp
      rw [el, List.take_length] at n2
      rw [th_next, wSs_cons]
      simp only [own_l, nm_l, e_name, s_asgN, ss_nil, th_next, Option.some.injEq, true_and, exists_eq_left', kd1, kd3, n2]
      refine hK _ _ ⟨rfl, ?_, ?_⟩
      · rw [hnext, Nat.pow_succ]; omega
      · simp only [upd_str, ↓reduceIte, Option.some.injEq]
        rw [hnext]
  · rintro m' st' ⟨rfl, hln, f1⟩
    have el : ([] ++ bs.map prD).length = bs.length := by simp
    rw [el, List.take_length] at f1
    rw [th_next, wSs_cons]
    simp only [nm_l, e_name, s_ret, th_ret, fin_ret, Option.some.injEq, exists_eq_left', kd1, f1]
    exact hQ
end Mine
end

section
set_option autoImplicit false
set_option linter.unusedSimpArgs false
set_option linter.unusedVariables false
set_option maxRecDepth 100000
set_option maxHeartbeats 4000000
namespace Mine
open PySem
theorem wComp_filter {α : Type} {step : D → St → (Option D → St → Prop) → Prop} {Q : List D → St → Prop} (emb g : α → D) (c : α → Bool) {st : St} : ∀ (l : List α) (acc : List D), (∀ a ∈ l, ∀ k, k (if c a then some (g a) else none) st → step (emb a) st k) → Q (acc ++ (l.filter c).map g) st → wComp step (l.map emb) acc st Q
  | [], acc, _, hQ => by simpa [wComp] using hQ
  | a :: l, acc, hs, hQ => by
    refine hs a (.head _) _ ?_
    cases h : c a with
    | true =>
      rw [List.filter_cons_of_pos h] at hQ
      exact wComp_filter emb g c l (acc ++ [g a]) (fun b hb => hs b (.tail _ hb)) (by simpa using hQ)
    | false =>
      rw [List.filter_cons_of_neg (by simp [h])] at hQ
      exact wComp_filter emb g c l acc (fun b hb => hs b (.tail _ hb)) hQ
noncomputable def hold (sm : List (List Int × Int)) (f : List Int) : Bool := sm.all fun s => decide (s.2 + dot s.1 f ≤ 0)
theorem hold_iff (sm : List (List Int × Int)) (f : List Int) : hold sm f = true ↔ good sm f := by simp [hold, good]
noncomputable def SpHolds (S : FSpec) : Prop := ∀ (sm : List (List Int × Int)) (f : List Int) (st : St) (Q : D → St → Prop), (∀ s ∈ sm, OkS f.length s) → sm.length ≤ 10 → f.length ≤ 3 → (∀ a ∈ f, a.natAbs ≤ 1000) → Q (.bool (hold sm f)) st → S [.list (sm.map smD), fD f] st Q
/-- a list is compared with [] -/
theorem eq_nil {st : St} {K : Bool → Prop} {ns : List Int} (h : K ns.isEmpty) : wCmp1 .Eq (.list (dI ns)) (.list []) st K := by
  refine ⟨.list (ns.map .int), .list [], ?_, ?_, ?_, ?_⟩
  · simp only [pyD, D.py, pys_dI, Option.map_some]
  · rfl
  · show min _ _ ≤ 1000
    have : (PyData.list []).depth = 1 := rfl
    omega
  · cases ns with
    | nil => exact h
    | cons n ns => exact h
theorem holds_ok {Γ : Ctx} (hV : Has Γ "_law_value" SpValue) : SpHolds (wFn Γ (fun _ => false) 60 (kdOf PySem.Challenge.pw_uf010033_07 22) ["_law_some", "_law_filling"] (bodyOf PySem.Challenge.pw_uf010033_07 22)) := by
  intro sm f st Q oks hsm hf3 hfb hQ
  obtain ⟨V, hV, hV'⟩ := hV
  have hlim : lim = 1000000 := rfl
  refine fn_intro rfl ?_
  generalize hkd : kdOf PySem.Challenge.pw_uf010033_07 22 = kd
  obtain ⟨kd0, kd1⟩ : kd "_law_some" = some .local ∧ kd "_law_filling" = some .cell := by
    subst hkd; exact ⟨rfl, rfl⟩
  clear hkd
  dsimp only [bodyOf, PySem.Challenge.pw_uf010033_07, List.getElem?_cons_succ, List.getElem?_cons_zero]
  rw [wSs_cons]
  simp only [gl_g, own_l, nm_l, nm_f, upd_str, lk_str, call_s, e_int, e_name, e_cmp, e_call, e_list, e_comp1, es_nil, es_cons, c_one, t_cmp, i_name, s_ret, th_ret, tg_name, mk_f, it_list, ns_nil, bind_nil, bind_cons, hide_false, back_false, String.reduceEq, ↓reduceIte, Option.some.injEq, reduceCtorEq, true_and, exists_eq_left', ns_cons, str_name, lim0, Bool.not_false, Bool.and_self, List.length_nil, false_implies, kd0, List.length_map, hV]
  refine ⟨by simp [ScopeOk, ofString_inj, kd0, kd1, lk_str], ?_⟩
  repeat (with_reducible refine And.intro ?_ ?_; focus omega)
  refine wComp_filter (α := List Int × Int) smD (fun _ => .int 1) (fun s => decide (s.2 + dot s.1 f > 0)) sm [] (fun s hs K hK => ?_) ?_
  · refine hV' s f _ _ (oks s hs) hf3 hfb ?_
    by_cases q : s.2 + dot s.1 f > 0
    · simp only [x_gt, ↓reduceIte, decide_true, q] at hK ⊢
      exact hK
    · simp only [x_gt, ↓reduceIte, Bool.false_eq_true, decide_false, q] at hK ⊢
      exact hK
  have e : [] ++ (sm.filter fun s => decide (s.2 + dot s.1 f > 0)).map (fun _ => D.int 1) = dI ((sm.filter fun s => decide (s.2 + dot s.1 f > 0)).map fun _ => 1) := by simp [dI, Function.comp_def]
  rw [e]
  have hl : (sm.filter fun s => decide (s.2 + dot s.1 f > 0)).length ≤ sm.length := List.length_filter_le _ _
  simp only [fin_ret, dI_len, List.length_map]
  repeat (with_reducible refine And.intro ?_ ?_; focus omega)
  refine eq_nil ?_
  have e2 : ((sm.filter fun s => decide (s.2 + dot s.1 f > 0)).map fun _ => (1 : Int)).isEmpty = hold sm f := by
    rw [Bool.eq_iff_iff, List.isEmpty_iff, List.map_eq_nil_iff, List.filter_eq_nil_iff, hold_iff]
    refine ⟨fun h s hs => ?_, fun h s hs => ?_⟩
    · have := h s hs; simp only [decide_eq_true_eq] at this; omega
    · have := h s hs; simp only [decide_eq_true_eq]; omega
  rw [e2]
  exact hQ

/- changed trees -/
noncomputable def SpChanged (k : Nat) (S : FSpec) : Prop := ∀ (t : Tr) (cells : List Int) (st : St) (Q : D → St → Prop), 1 ≤ cells.length → cells.length ≤ k → cells.length ≤ 10 → (∀ c ∈ cells, 0 ≤ c) → (∀ t', t'.deep ≤ t.deep + 1 → Q (trD t') st) → S [trD t, .list (dI cells)] st Q
theorem changed_ok {Γ : Ctx} {k : Nat} (h1 : Γ.fn "len" = none) (hT : 0 < k → Has Γ "_law_changed" (SpChanged k)) : SpChanged (k + 1) (wFn Γ (fun _ => false) 60 (kdOf PySem.Challenge.pw_uf010033_07 23) ["_law_tree", "_law_cells"] (bodyOf PySem.Challenge.pw_uf010033_07 23)) := by
  intro t cells st Q hc1 hck hc10 hcp hQ
  have hlim : lim = 1000000 := rfl
  obtain ⟨cell, rest, rfl⟩ : ∃ c r, cells = c :: r := by cases cells with
    | nil => simp at hc1
    | cons c r => exact ⟨c, r, rfl⟩
  have hc0 : 0 ≤ cell := hcp cell (.head _)
  have hg0 : (dI (cell :: rest))[0]? = some (.int cell) := rfl
  simp only [List.length_cons] at hck hc10
  refine fn_intro rfl ?_
  generalize hkd : kdOf PySem.Challenge.pw_uf010033_07 23 = kd
  obtain ⟨kd0, kd1, kd2, kd3, kd4, kd5, kd6⟩ : kd "_law_tree" = some .local ∧ kd "_law_cells" = some .local ∧ kd "_law_cell" = some .local ∧ kd "_law_more" = some .local ∧ kd "_law_way" = some .local ∧ kd "len" = some .globalImplicit ∧ kd "_law_changed" = some .globalImplicit := by
    subst hkd; exact ⟨rfl, rfl, rfl, rfl, rfl, rfl, rfl⟩
  clear hkd
  dsimp only [bodyOf, PySem.Challenge.pw_uf010033_07, List.getElem?_cons_succ, List.getElem?_cons_zero]
  rw [wSs_cons]
  simp only [own_l, nm_l, upd_str, e_int, e_name, e_itemC, s_asgN, th_next, bind_nil, bind_cons, wItem_lit, seqD_list, String.reduceEq, ↓reduceIte, Option.some.injEq, true_and, exists_eq_left', Int.reduceLE, Int.reduceLT, Int.reduceToNat, kd1, kd2, hg0]
  rw [wSs_cons]
  simp only [own_l, nm_l, upd_str, e_int, e_name, e_bin, e_un, e_itemB, e_list, es_nil, es_cons, s_asgN, th_next, x_div, x_mod, x_neg, mk_f, ↓reduceIte, Option.some.injEq, true_and, exists_eq_left', Int.reduceLT, lim4, List.length_cons, List.length_nil, Int.reducePow, Nat.zero_add, Nat.reduceAdd, Int.reduceNeg, kd2, kd3]
  repeat (with_reducible refine And.intro ?_ ?_; focus omega)
  obtain ⟨more, hmore⟩ : ∃ m : Int, [D.int 1, D.int (-1), D.int 2, D.int cell][(cell / 7 % 4).toNat]? = some (.int m) := by
    rcases mod4 (cell / 7) with e | e | e | e <;> rw [e] <;> exact ⟨_, rfl⟩
  rw [wItem_mod (by decide) (by decide)]
  simp only [seqD_list, Option.some.injEq, exists_eq_left', Int.reduceNeg, hmore]
  cases t with
  | sum n =>
    simp only [trD]
    rw [wSs_cons]
    simp only [nm_l, upd_str, e_int, e_str, e_name, e_itemC, c_one, t_cmp, s_if, ss_nil, th_next, x_eqS, wItem_lit, seqD_tup, String.reduceEq, ↓reduceIte, Option.some.injEq, exists_eq_left', Int.reduceLE, Int.reduceLT, Int.reduceToNat, List.getElem?_cons_zero, beq_self_eq_true, kd0]
    rw [wSs_cons]
    simp only [nm_l, upd_str, e_int, e_str, e_name, e_bin, e_un, e_itemC, e_itemB, e_tup, e_list, es_nil, es_cons, s_ret, th_ret, x_add, x_div, x_mod, x_neg, mk_f, wItem_lit, seqD_tup, String.reduceEq, ↓reduceIte, Option.some.injEq, true_and, exists_eq_left', Int.reduceLE, Int.reduceLT, Int.reduceToNat, List.getElem?_cons_succ, List.getElem?_cons_zero, lim2, lim3, lim5, List.length_cons, List.length_nil, Int.reducePow, Nat.zero_add, Nat.reduceAdd, Int.reduceNeg, kd0, kd2, kd3]
    repeat (with_reducible refine And.intro ?_ ?_; focus omega)
    rw [wItem_mod (by decide) (by decide)]
    simp only [fin_ret, seqD_list, Option.some.injEq, exists_eq_left', Int.reduceNeg]
    rcases mod3 (cell / 28) with e | e | e <;> rw [e]
    · exact ⟨_, rfl, hQ (.sum (n + more)) (by simp [Tr.deep])⟩
    · exact ⟨_, rfl, hQ (.sum (-1)) (by simp [Tr.deep])⟩
    · exact ⟨_, rfl, hQ (.cut (cell % 3) (cell / 3 % 9) (.sum n) (.sum n)) (by simp [Tr.deep])⟩
  | cut b a l r =>
    have dl : ∀ t' : Tr, t'.deep ≤ l.deep + 1 → (Tr.cut b a t' r).deep ≤ (Tr.cut b a l r).deep + 1 := fun t' h => by simp only [Tr.deep]; omega
    have dr : ∀ t' : Tr, t'.deep ≤ r.deep + 1 → (Tr.cut b a l t').deep ≤ (Tr.cut b a l r).deep + 1 := fun t' h => by simp only [Tr.deep]; omega
    simp only [trD]
    rw [wSs_cons]
    simp only [nm_l, upd_str, e_int, e_str, e_name, e_itemC, c_one, t_cmp, s_if, ss_nil, th_next, x_eqS, wItem_lit, seqD_tup, String.reduceEq, ↓reduceIte, Option.some.injEq, exists_eq_left', Int.reduceLE, Int.reduceLT, Int.reduceToNat, List.getElem?_cons_zero, Bool.false_eq_true, kd0, st_cs]
    rw [wSs_cons]
    simp only [own_l, nm_l, upd_str, e_int, e_name, e_bin, s_asgN, th_next, x_mod, String.reduceEq, ↓reduceIte, Option.some.injEq, true_and, exists_eq_left', Int.reduceLT, kd2, kd4]
    have rest6 : wSs Γ (fun _ => false) 54 kd ((bodyOf PySem.Challenge.pw_uf010033_07 23).drop 6) (upd (upd (upd (upd (upd (fun _ => none) "_law_cells" (.list (dI (cell :: rest)))) "_law_tree" (.tup [.str "cut", .int b, .int a, trD l, trD r])) "_law_cell" (.int cell)) "_law_more" (.int more)) "_law_way" (.int (cell % 7))) st (finK Q st) := by
      dsimp only [bodyOf, PySem.Challenge.pw_uf010033_07, List.getElem?_cons_succ, List.getElem?_cons_zero, List.drop]
      rw [wSs_cons]
      simp only [nm_l, upd_str, e_int, e_name, c_one, t_cmp, s_if, ss_nil, th_next, x_eq, ↓reduceIte, Option.some.injEq, exists_eq_left', kd4]
      cases q4 : (cell % 7 == 4) with
      | true =>
        simp only [↓reduceIte]
        rw [wSs_cons]
        simp only [nm_l, upd_str, e_int, e_str, e_name, e_bin, e_slice, e_itemC, e_tup, es_nil, es_cons, o_none, o_some, s_ret, th_ret, x_add, wItem_lit, seqD_tup, String.reduceEq, ↓reduceIte, Option.some.injEq, true_and, exists_eq_left', Int.reduceLE, Int.reduceLT, Int.reduceToNat, List.getElem?_cons_succ, List.getElem?_cons_zero, lim2, List.length_cons, List.length_nil, Nat.zero_add, Nat.reduceAdd, kd0, kd3]
        repeat (with_reducible refine And.intro ?_ ?_; focus omega)
        refine sl_tfrom (a := 2) (by decide) (show (2 : Nat) ≤ 5 from by decide) (show 5 ≤ lim from by decide) ?_
        simp only [fin_ret, x_addT, true_and, lim5, List.length_cons, List.length_nil, Nat.zero_add, Nat.reduceAdd, List.drop_succ_cons, List.drop_zero, List.cons_append, List.nil_append]
        repeat (with_reducible refine And.intro ?_ ?_; focus omega)
        exact hQ (.cut (b + more) a l r) (by simp only [Tr.deep]; omega)
      | false =>
        simp only [↓reduceIte, Bool.false_eq_true]
        rw [wSs_cons]
        simp only [nm_l, upd_str, e_int, e_name, c_one, t_cmp, s_if, ss_nil, th_next, x_eq, ↓reduceIte, Option.some.injEq, exists_eq_left', kd4]
        cases q5 : (cell % 7 == 5) with
        | true =>
          simp only [↓reduceIte]
          rw [wSs_cons]
          simp only [nm_l, upd_str, e_int, e_str, e_name, e_bin, e_slice, e_itemC, e_tup, es_nil, es_cons, o_none, o_some, s_ret, th_ret, x_add, wItem_lit, seqD_tup, String.reduceEq, ↓reduceIte, Option.some.injEq, true_and, exists_eq_left', Int.reduceLE, Int.reduceLT, Int.reduceToNat, List.getElem?_cons_succ, List.getElem?_cons_zero, lim3, List.length_cons, List.length_nil, Nat.zero_add, Nat.reduceAdd, kd0, kd3]
          repeat (with_reducible refine And.intro ?_ ?_; focus omega)
          refine sl_tfrom (a := 3) (by decide) (show (3 : Nat) ≤ 5 from by decide) (show 5 ≤ lim from by decide) ?_
          simp only [fin_ret, x_addT, true_and, lim5, List.length_cons, List.length_nil, Nat.zero_add, Nat.reduceAdd, List.drop_succ_cons, List.drop_zero, List.cons_append, List.nil_append]
          repeat (with_reducible refine And.intro ?_ ?_; focus omega)
          exact hQ (.cut b (a + more) l r) (by simp only [Tr.deep]; omega)
        | false =>
          simp only [↓reduceIte, Bool.false_eq_true]
          rw [wSs_cons]
          simp only [nm_l, upd_str, e_int, e_str, e_name, e_bin, e_itemC, e_itemB, e_tup, e_list, es_nil, es_cons, s_ret, th_ret, x_div, x_mod, mk_f, wItem_lit, seqD_tup, String.reduceEq, ↓reduceIte, Option.some.injEq, true_and, exists_eq_left', Int.reduceLE, Int.reduceLT, Int.reduceToNat, List.getElem?_cons_succ, List.getElem?_cons_zero, lim2, lim5, List.length_cons, List.length_nil, Int.reducePow, Nat.zero_add, Nat.reduceAdd, kd0, kd2]
          repeat (with_reducible refine And.intro ?_ ?_; focus omega)
          rw [wItem_mod (by decide) (by decide)]
          simp only [fin_ret, seqD_list, Option.some.injEq, exists_eq_left']
          rcases mod2 (cell / 28) with e | e <;> rw [e]
          · exact ⟨_, rfl, hQ (.cut b a r l) (by simp only [Tr.deep]; omega)⟩
          · exact ⟨_, rfl, hQ l (by simp only [Tr.deep]; omega)⟩
    have hdr : (dI (cell :: rest)).drop 1 = dI rest := rfl
    have hlen : (dI (cell :: rest)).length = rest.length + 1 := by rw [dI_len]; rfl
    have rest5 : wSs Γ (fun _ => false) 55 kd ((bodyOf PySem.Challenge.pw_uf010033_07 23).drop 5) (upd (upd (upd (upd (upd (fun _ => none) "_law_cells" (.list (dI (cell :: rest)))) "_law_tree" (.tup [.str "cut", .int b, .int a, trD l, trD r])) "_law_cell" (.int cell)) "_law_more" (.int more)) "_law_way" (.int (cell % 7))) st (finK Q st) := by
      dsimp only [bodyOf, PySem.Challenge.pw_uf010033_07, List.getElem?_cons_succ, List.getElem?_cons_zero, List.drop]
      rw [wSs_cons]
      simp only [gl_g, nm_l, upd_str, call_n, e_int, e_name, e_call, es_nil, es_cons, c_one, t_bool, t_cmp, a_nil, a_cons, s_if, ss_nil, th_next, x_lt, x_gt, blt1, ns_nil, b_len, seqD_list, String.reduceEq, ↓reduceIte, Option.some.injEq, true_and, exists_eq_left', ns_cons, str_name, Bool.not_false, Bool.and_self, forall_const, List.length_cons, beq_self_eq_true, dI_len, kd1, kd4, kd5, h1]
      by_cases q4 : cell % 7 < 4
      · simp only [sa_at, ↓reduceIte, Bool.false_eq_true, decide_true, q4]
        repeat (with_reducible refine And.intro ?_ ?_; focus omega)
        by_cases q5 : ((rest.length + 1 : Nat) : Int) > 1
        · obtain ⟨T, hT, hT'⟩ := hT (by omega)
          simp only [sa_at, ↓reduceIte, Bool.false_eq_true, decide_true, q5]
          rw [wSs_cons]
          simp only [gl_g, nm_l, upd_str, e_int, e_name, e_bin, e_call, e_slice, e_itemC, e_tup, es_nil, es_cons, o_none, o_some, s_ret, th_ret, ns_nil, wItem_lit, seqD_tup, String.reduceEq, ↓reduceIte, Option.some.injEq, true_and, exists_eq_left', Int.reduceLE, Int.reduceLT, Int.reduceToNat, List.getElem?_cons_succ, List.getElem?_cons_zero, ns_cons, str_sub, lim1, Bool.not_false, Bool.and_self, List.length_cons, List.length_nil, Nat.zero_add, kd0, kd1, kd6]
          refine sl_tupto (b := 4) (show (4 : Nat) < 5 from by decide) (show 5 ≤ lim from by decide) ?_
          simp only [call_s, x_addT, mk_f, Option.some.injEq, reduceCtorEq, true_and, Int.reduceToNat, lim5, List.length_cons, List.length_nil, Nat.zero_add, Nat.reduceAdd, dI_len, false_implies, hT, sl_from (i := 1) (by decide), hdr, hlen, List.take_succ_cons, List.take_zero, List.cons_append, List.nil_append]
          repeat (with_reducible refine And.intro ?_ ?_; focus omega)
          refine hT' r rest _ _ (by omega) (by omega) (by omega) (fun c hc => hcp c (.tail _ hc)) fun t' ht' => ?_
          simp only [fin_ret]
          repeat (with_reducible refine And.intro ?_ ?_; focus omega)
          exact hQ _ (dr t' ht')
        · simp only [sa_af, ↓reduceIte, Bool.false_eq_true, decide_false, q5]
          exact rest6
      · simp only [sa_af, ↓reduceIte, Bool.false_eq_true, decide_false, q4]
        exact rest6
    rw [wSs_cons]
    simp only [gl_g, nm_l, upd_str, call_n, e_int, e_name, e_call, es_nil, es_cons, c_one, t_bool, t_cmp, a_nil, a_cons, s_if, ss_nil, th_next, x_lt, x_gt, blt1, ns_nil, b_len, seqD_list, String.reduceEq, ↓reduceIte, Option.some.injEq, true_and, exists_eq_left', ns_cons, str_name, Bool.not_false, Bool.and_self, forall_const, List.length_cons, beq_self_eq_true, dI_len, kd1, kd4, kd5, h1]
    by_cases q4 : cell % 7 < 2
    · simp only [sa_at, ↓reduceIte, Bool.false_eq_true, decide_true, q4]
      repeat (with_reducible refine And.intro ?_ ?_; focus omega)
      by_cases q5 : ((rest.length + 1 : Nat) : Int) > 1
      · obtain ⟨T, hT, hT'⟩ := hT (by omega)
        simp only [sa_at, ↓reduceIte, Bool.false_eq_true, decide_true, q5]
        rw [wSs_cons]
        simp only [gl_g, nm_l, upd_str, e_int, e_name, e_bin, e_call, e_slice, e_itemC, e_tup, es_nil, es_cons, o_none, o_some, s_ret, th_ret, ns_nil, wItem_lit, seqD_tup, String.reduceEq, ↓reduceIte, Option.some.injEq, true_and, exists_eq_left', Int.reduceLE, Int.reduceLT, Int.reduceToNat, List.getElem?_cons_succ, List.getElem?_cons_zero, ns_cons, str_sub, lim2, Bool.not_false, Bool.and_self, List.length_cons, List.length_nil, Nat.zero_add, Nat.reduceAdd, kd0, kd1, kd6]
        refine sl_tupto (b := 3) (show (3 : Nat) < 5 from by decide) (show 5 ≤ lim from by decide) ?_
        simp only [call_s, x_addT, mk_f, Option.some.injEq, reduceCtorEq, true_and, Int.reduceToNat, lim5, List.length_cons, List.length_nil, Nat.zero_add, Nat.reduceAdd, dI_len, false_implies, hT, sl_from (i := 1) (by decide), hdr, hlen, List.take_succ_cons, List.take_zero, List.cons_append, List.nil_append]
        repeat (with_reducible refine And.intro ?_ ?_; focus omega)
        refine hT' l rest _ _ (by omega) (by omega) (by omega) (fun c hc => hcp c (.tail _ hc)) fun t' ht' => ?_
        simp only [fin_ret]
        repeat (with_reducible refine And.intro ?_ ?_; focus omega)
        exact hQ _ (dl t' ht')
      · simp only [sa_af, ↓reduceIte, Bool.false_eq_true, decide_false, q5]
        exact rest5
    · simp only [sa_af, ↓reduceIte, Bool.false_eq_true, decide_false, q4]
      exact rest5
end Mine
end

section
set_option autoImplicit false
set_option linter.unusedSimpArgs false
set_option linter.unusedVariables false
set_option maxRecDepth 100000
set_option maxHeartbeats 4000000
namespace Mine
open PySem
theorem x_neB {a b : Bool} {st : St} {K : Bool → Prop} : wCmp1 .NotEq (.bool a) (.bool b) st K = K (!(a == b)) := by
  refine propext ⟨fun ⟨x, y, h1, h2, _, h3⟩ => ?_, fun h => ⟨.bool a, .bool b, rfl, rfl, by show min _ _ ≤ 1000; cases a <;> cases b <;> decide, ?_⟩⟩
  · cases h1; cases h2; cases a <;> cases b <;> exact h3
  · cases a <;> cases b <;> exact h
theorem ti_bb {b : Bool} : typeIs (.bool b) "bool" = some true := by simp [typeIs]
theorem ti_ll {ds : List D} : typeIs (.list ds) "list" = some true := by simp [typeIs]
noncomputable def prP (p : Int × Int) : PyData := .tuple [.int p.1, .int p.2]
noncomputable def smP (b : List Int × Int) : PyData := .tuple [.tuple (b.1.map .int), .int b.2]
theorem py_pr (p : Int × Int) : (prD p).py = some (prP p) := rfl
theorem py_sm (b : List Int × Int) : (smD b).py = some (smP b) := by simp only [smD, D.py, pys, pys_dI, Option.map_some, smP]
section
variable {α : Type} {f : α → D} {g : α → PyData}
theorem pys_map (h : ∀ a, (f a).py = some (g a)) (l : List α) : pys (l.map f) = some (l.map g) := by
  induction l with
  | nil => rfl
  | cons b bx ih => simp only [List.map_cons, pys, h, ih]
theorem lay_map (h : ∀ a, (g a).canLay0 = true) (l : List α) : PyData.canLayAll0 (l.map g) = true := by
  induction l with
  | nil => rfl
  | cons b bx ih => simp only [List.map_cons, PyData.canLayAll0, h, ih, Bool.and_self]
theorem deep_map {n : Nat} (h : ∀ a, (g a).depth ≤ n) (l : List α) : PyData.depthAll (l.map g) ≤ n := by
  induction l with
  | nil => exact Nat.zero_le _
  | cons b bx ih => have := h b; simp only [List.map_cons, PyData.depthAll]; omega
theorem pyD_of {st : St} {k : Nat} {d : D} {x : PyData} (h : d.py = some x) : pyD st k d = some x := by
  cases k with
  | zero => exact h
  | succ k => cases d with
    | tup ds => simp only [pyD, h]
    | list ds => simp only [pyD, h]
    | loc n => cases h
    | _ => exact h
theorem mapM_of {st : St} {k : Nat} (h : ∀ a, (f a).py = some (g a)) (l : List α) : (l.map f).mapM (pyD st k) = some (l.map g) := by
  induction l with
  | nil => rfl
  | cons b bx ih => rw [List.map_cons, List.mapM_cons, ih, pyD_of (h b)]; rfl
theorem pyD_loc {st : St} {k n : Nat} (h : ∀ a, (f a).py = some (g a)) {l : List α} (hc : st.cs n = some (.list (l.map f))) : pyD st (k + 1) (.loc n) = some (.list (l.map g)) := by
  simp only [pyD, hc, mapM_of h l, Option.map_some]
end
noncomputable def handP (bs : List (Int × Int)) (sm : List (List Int × Int)) : PyData := .list [.list (bs.map prP), .list (sm.map smP)]
theorem py_hand (bs : List (Int × Int)) (sm : List (List Int × Int)) : (D.list [.list (bs.map prD), .list (sm.map smD)]).py = some (handP bs sm) := by
  simp only [D.py, pys, pys_map py_pr, pys_map py_sm, Option.map_some, handP]
theorem deep_pr (p : Int × Int) : (prP p).depth ≤ 2 := by simp [prP, PyData.depth, PyData.depthAll]
theorem deep_sm (p : List Int × Int) : (smP p).depth ≤ 2 := by simp [smP, PyData.depth, PyData.depthAll, deep_ints]
theorem lay_pr (p : Int × Int) : (prP p).canLay0 = true := by simp [prP, PyData.canLay0, PyData.canLayAll0]
theorem lay_sm (p : List Int × Int) : (smP p).canLay0 = true := by simp [smP, PyData.canLay0, PyData.canLayAll0, lay_ints]
theorem ne_hand {st : St} {d : D} {bs : List (Int × Int)} {sm : List (List Int × Int)} {K : Bool → Prop} (hd : pyD st 3 d = some (handP bs sm)) (hn : ∀ i, d ≠ .int i) (hs : ∀ x, d ≠ .str x) (h : K false) :
    wCmp1 .NotEq d (.list [.list (bs.map prD), .list (sm.map smD)]) st K := by
  have h1 := deep_map deep_pr bs
  have h2 := deep_map deep_sm sm
  have dp : (handP bs sm).depth ≤ 1000 := by simp only [handP, PyData.depth, PyData.depthAll]; omega
  have ly : (handP bs sm).canLay0 = true := by simp only [handP, PyData.canLay0, PyData.canLayAll0, lay_map lay_pr, lay_map lay_sm, Bool.and_self]
  have key : ∃ x y, pyD st 3 d = some x ∧ pyD st 3 (.list [.list (bs.map prD), .list (sm.map smD)]) = some y ∧ deepOk x y ∧ K (!(PyData.eqv x y)) :=
    ⟨_, _, hd, pyD_of (py_hand bs sm), deep_ok dp, by rw [PySem.SeqAt.eqv_refl _ ly]; exact h⟩
  cases d with
  | int i => exact absurd rfl (hn i)
  | str x => exact absurd rfl (hs x)
  | _ => exact key

noncomputable def SpRight (S : FSpec) : Prop := ∀ (bs : List (Int × Int)) (sm : List (List Int × Int)) (t : Tr) (sc : List Int) (st : St) (Q : D → St → Prop), OkB bs → (∀ s ∈ sm, OkS bs.length s) → sm.length ≤ 10 → t.deep ≤ 43 → sc.length ≤ 1000 → Q (.bool true) st →
  S [.list (bs.map prD), .list (sm.map smD), trD t, .list (dI sc)] st Q
theorem right_ok {Γ : Ctx} (h1 : Γ.fn "range" = none) (h2 : Γ.fn "list" = none) (h3 : Γ.fn "isinstance" = none) (g1 : Γ.gl "bool" = some (.val (.type "bool"))) (hA : Has Γ "_law_at" SpAt) (hC : Has Γ "_law_changed" (SpChanged 5)) (hT : Has Γ "is_tree" (SpTree 44)) (hU : Has Γ "_law_is_tree" (SpTree 44)) :
    SpRight (wFn Γ (fun _ => false) 60 (kdOf PySem.Challenge.pw_uf010033_07 24) ["_law_stretch_here", "_law_some", "_law_tree", "_law_script"] (bodyOf PySem.Challenge.pw_uf010033_07 24)) := by
  intro bs sm t sc st Q okb oks hsm hd hsc hQ
  obtain ⟨A, hA, hA'⟩ := hA
  obtain ⟨C, hC, hC'⟩ := hC
  obtain ⟨T, hT, hT'⟩ := hT
  obtain ⟨U, hU, hU'⟩ := hU
  have hlim : lim = 1000000 := rfl
  have hbl := okb.1
  have hbl1 : (bs.length ≤ lim) = True := eq_true (lim_le (Nat.le_trans hbl (by decide)))
  have hsl1 : (sm.length ≤ lim) = True := eq_true (lim_le (Nat.le_trans hsm (by decide)))
  refine fn_intro rfl ?_
  generalize hkd : kdOf PySem.Challenge.pw_uf010033_07 24 = kd
  obtain ⟨kd0, kd1, kd2, kd3, kd4, kd5, kd6, kd7, kd8, kd9, kd10, kd11, kd12, kd13⟩ : kd "_law_stretch_here" = some .local ∧ kd "_law_some" = some .local ∧ kd "_law_tree" = some .local ∧ kd "_law_one" = some .local ∧ kd "_law_handed" = some .local ∧ kd "_law_found" = some .local ∧ kd "_law_script" = some .cell ∧ kd "_law_changed" = some .globalImplicit ∧ kd "range" = some .globalImplicit ∧ kd "list" = some .globalImplicit ∧ kd "is_tree" = some .globalImplicit ∧ kd "isinstance" = some .globalImplicit ∧ kd "bool" = some .globalImplicit ∧ kd "_law_is_tree" = some .globalImplicit := by
    subst hkd; exact ⟨rfl, rfl, rfl, rfl, rfl, rfl, rfl, rfl, rfl, rfl, rfl, rfl, rfl, rfl⟩
  clear hkd
  dsimp only [bodyOf, PySem.Challenge.pw_uf010033_07, List.getElem?_cons_succ, List.getElem?_cons_zero]
  rw [wSs_cons]
  simp only [gl_g, own_l, nm_l, nm_f, upd_str, lk_str, call_s, e_int, e_name, e_bin, e_call, e_list, e_comp0, es_nil, es_cons, i_range, i_list, s_for, tg_name, mk_f, it_list, ic_range1, ns_nil, bind_nil, bind_cons, hide_false, back_false, String.reduceEq, ↓reduceIte, Option.some.injEq, reduceCtorEq, true_and, exists_eq_left', ns_cons, str_name, str_const, str_bin, str_comp, lim3, Bool.not_false, Bool.and_self, List.length_cons, List.length_nil, Nat.zero_add, Nat.reduceAdd, false_implies, kd2, kd3, kd7, kd8, h1, hA, hC]
  refine ⟨by simp [ScopeOk, ofString_inj, kd0, kd1, kd2, kd3, kd4, kd5, kd6, kd7, kd8, kd9, kd10, kd11, kd12, kd13, hbl1, hsl1, lk_str], ?_⟩
  repeat (with_reducible refine And.intro ?_ ?_; focus omega)
  have e5 : rangeL 0 5 = (List.range 5).map fun i : Nat => D.int (i : Int) := rangeN_map 5
  rw [e5]
  refine wComp_list (α := Nat) _ (fun k => .int (atV sc (30 + k))) _ [] (fun k hk K hK => hA' _ _ _ _ hsc hK) ?_
  have e : [] ++ (List.range 5).map (fun k : Nat => D.int (atV sc (30 + k))) = dI ((List.range 5).map fun k : Nat => atV sc (30 + k)) := by simp [dI, Function.comp_def]
  rw [e]
  simp only [true_and, lim5, dI_len, List.length_map, List.length_range]
  repeat (with_reducible refine And.intro ?_ ?_; focus omega)
  refine hC' t _ _ _ (by simp) (by simp) (by simp) (fun c hc => by obtain ⟨k, _, rfl⟩ := List.mem_map.mp hc; exact (at_pos _ _).1) fun t' ht' => ?_
  repeat (with_reducible refine And.intro ?_ ?_; focus omega)
  refine wFor_inv (fun i m' st' => st' = st ∧ m' "_law_stretch_here" = some (.list (bs.map prD)) ∧ m' "_law_some" = some (.list (sm.map smD))) _ [] ⟨rfl, by simp only [upd_str, ↓reduceIte], by simp only [upd_str, String.reduceEq, ↓reduceIte]⟩ ?_ ?_
  · rintro i d m' st' K hdd ⟨rfl, f1, f2⟩ hK
    obtain ⟨u, rfl, hu⟩ : ∃ u, d = trD u ∧ u.deep ≤ 44 := by
      rcases i with _ | _ | _ | i
      · exact ⟨t, by simpa using hdd.symm, by omega⟩
      · exact ⟨t', by simpa using hdd.symm, by omega⟩
      · exact ⟨t, by simpa using hdd.symm, by omega⟩
      · simp at hdd
    rw [wSs_cons]
    simp only [gl_g, own_l, nm_l, upd_str, call_n, e_name, e_call, e_list, es_nil, es_cons, s_asgN, th_next, mk_f, blt3, ns_nil, b_list, seqD_list, String.reduceEq, ↓reduceIte, Option.some.injEq, true_and, exists_eq_left', ns_cons, str_name, lim2, Bool.not_false, Bool.and_self, forall_const, List.length_cons, List.length_nil, Nat.zero_add, Nat.reduceAdd, kd0, kd1, kd4, kd9, hbl1, hsl1, h2, f1, f2, List.length_map]
    repeat (with_reducible refine And.intro ?_ ?_; focus omega)
    rw [wSs_cons]
    simp only [gl_g, own_l, nm_l, upd_str, call_s, e_int, e_name, e_call, e_itemC, es_nil, es_cons, s_asgN, th_next, ns_nil, wItem_lit, seqD_list, String.reduceEq, ↓reduceIte, Option.some.injEq, reduceCtorEq, true_and, exists_eq_left', Int.reduceLE, Int.reduceLT, Int.reduceToNat, List.getElem?_cons_succ, List.getElem?_cons_zero, ns_cons, str_name, str_sub, Bool.not_false, Bool.and_self, false_implies, kd3, kd4, kd5, kd10, hT]
    refine hT' bs sm u _ _ okb oks hsm hu ?_
    rw [wSs_cons]
    simp only [gl_g, nm_l, nm_g, upd_str, call_n, call_s, e_name, e_call, e_list, es_nil, es_cons, c_one, t_not, t_bool, t_cmp, t_call, a_nil, a_cons, s_if, ss_nil, th_next, tr_bool, mk_f, sa_of, blt2, ns_nil, b_isinstance, String.reduceEq, ↓reduceIte, Option.some.injEq, reduceCtorEq, true_and, exists_eq_left', Bool.false_eq_true, ns_cons, str_name, lim2, Bool.not_false, Bool.not_true, Bool.and_self, forall_const, List.length_cons, List.length_nil, Nat.zero_add, Nat.reduceAdd, bo_oa, false_implies, kd0, kd1, kd3, kd4, kd5, kd11, kd12, kd13, h3, g1, ti_bb, hU, f1, f2]
    refine hU' bs sm u _ _ okb oks hsm hu ?_
    simp only [sa_of, ↓reduceIte, Bool.false_eq_true, Bool.not_true, beq_self_eq_true, x_neB]
    repeat (with_reducible refine And.intro ?_ ?_; focus omega)
    refine ne_hand (pyD_of (py_hand bs sm)) (fun _ h => by cases h) (fun _ h => by cases h) ?_
    simp only [sa_of, ↓reduceIte, Bool.false_eq_true]
    refine hK _ _ ⟨rfl, ?_, ?_⟩
    · simp only [upd_str, String.reduceEq, ↓reduceIte, f1]
    · simp only [upd_str, String.reduceEq, ↓reduceIte, f2]
  · rintro m' st' ⟨rfl, f1, f2⟩
    rw [th_next, wSs_cons]
    simp only [e_bool, s_ret, th_ret, fin_ret]
    exact hQ
end Mine
end

section
set_option autoImplicit false
set_option linter.unusedSimpArgs false
set_option linter.unusedVariables false
set_option maxRecDepth 100000
set_option maxHeartbeats 4000000
namespace Mine
open PySem
theorem wComp_any {α β : Type} {step : D → St → (Option D → St → Prop) → Prop} {Q : List D → St → Prop} (emb : α → D) (g : β → D) (P : β → Prop) {st : St} : ∀ (l : List α) (acc : List D), (∀ a ∈ l, ∀ k, (∀ b, P b → k (some (g b)) st) → step (emb a) st k) →
    (∀ bs : List β, bs.length = l.length → (∀ b ∈ bs, P b) → Q (acc ++ bs.map g) st) → wComp step (l.map emb) acc st Q
  | [], acc, _, hQ => by simpa [wComp] using hQ [] rfl (by simp)
  | a :: l, acc, hs, hQ => by
    refine hs a (.head _) _ fun b hb => ?_
    refine wComp_any emb g P l (acc ++ [g b]) (fun b hb => hs b (.tail _ hb)) fun bs hl hP => ?_
    have := hQ (b :: bs) (by simp [hl]) (fun c hc => by
      cases hc with
      | head => exact hb
      | tail _ hc => exact hP c hc)
    simpa using this

/- the state while the two lists are handed -/
noncomputable def hst (st : St) (xs ys : List D) : St := ⟨st.hi + 3, fun n => if n = st.hi + 2 then some (.list [.loc st.hi, .loc (st.hi + 1)]) else if n = st.hi + 1 then some (.list ys) else if n = st.hi then some (.list xs) else st.cs n⟩
section
variable {st : St} {xs ys zs : List D}
theorem hst_def : ((st.alloc (.list xs)).alloc (.list ys)).alloc (.list [.loc st.hi, .loc (st.hi + 1)]) = hst st xs ys := rfl
theorem alloc_hi {c : Cell} : (st.alloc c).hi = st.hi + 1 := rfl
theorem hst_hi : (hst st xs ys).hi = st.hi + 3 := rfl
theorem hst_ne : (hst st xs ys).hi ≠ st.hi := by rw [hst_hi]; omega
theorem hst_0 : (hst st xs ys).cs st.hi = some (.list xs) := by simp [hst]
theorem hst_1 : (hst st xs ys).cs (st.hi + 1) = some (.list ys) := by simp [hst]
theorem hst_2 : (hst st xs ys).cs (st.hi + 2) = some (.list [.loc st.hi, .loc (st.hi + 1)]) := by simp [hst]
theorem st_ext {a b : St} (h1 : a.hi = b.hi) (h2 : ∀ n, a.cs n = b.cs n) : a = b := by
  obtain ⟨ah, ac⟩ := a
  obtain ⟨bh, bc⟩ := b
  have : ac = bc := funext h2
  subst this; cases h1; rfl
theorem hst_put0 : (hst st xs ys).put st.hi (.list zs) = hst st zs ys := by
  refine st_ext rfl fun n => ?_
  by_cases h : n = st.hi
  · subst h; simp [hst, St.put]
  · simp [hst, St.put, h]
theorem hst_put1 : (hst st xs ys).put (st.hi + 1) (.list zs) = hst st xs zs := by
  refine st_ext rfl fun n => ?_
  by_cases h : n = st.hi + 1
  · subst h; simp [hst, St.put]
  · simp [hst, St.put, h]
theorem hst_cut (w : WfSt st) : (hst st xs ys).cut st.hi = st := by
  refine st_ext rfl fun n => ?_
  by_cases h : n < st.hi
  · have h1 : n ≠ st.hi + 2 := by omega
    have h2 : n ≠ st.hi + 1 := by omega
    have h3 : n ≠ st.hi := by omega
    simp only [hst, St.cut, h, h1, h2, h3, if_true, if_false]
    cases q : st.cs n with
    | none => rfl
    | some c' => show (if Cell.undr st.hi c' = true then some c' else none) = some c'; rw [if_pos (w.und n c' q)]
  · simp only [hst, St.cut, h, if_false]; exact (w.top n (Nat.le_of_not_lt h)).symm
theorem hst_hide : lstD ((hst st xs ys).hide (pinOf (.loc (st.hi + 1)))) (.loc st.hi) = some xs := by
  have : ((hst st xs ys).hide (pinOf (.loc (st.hi + 1)))).cs st.hi = some (.list xs) := by
    show (if (st.hi == st.hi + 1) = true then none else (hst st xs ys).cs st.hi) = _
    rw [if_neg (by simp), hst_0]
  simp only [lstD, this]
theorem lst_loc {n : Nat} (h : st.cs n = some (.list xs)) : lstD st (.loc n) = some xs := by simp only [lstD, h]
end
theorem py_hst {st : St} {bs : List (Int × Int)} {sm : List (List Int × Int)} : pyD (hst st (bs.map prD) (sm.map smD)) 3 (.loc (st.hi + 2)) = some (handP bs sm) := by
  have h0 := pyD_loc (k := 1) py_pr (hst_0 (st := st) (xs := bs.map prD) (ys := sm.map smD))
  have h1 := pyD_loc (k := 1) py_sm (hst_1 (st := st) (xs := bs.map prD) (ys := sm.map smD))
  rw [pyD, hst_2]
  show Option.map _ ([D.loc st.hi, D.loc (st.hi + 1)].mapM (pyD _ 2)) = _
  rw [List.mapM_cons, h0, List.mapM_cons, h1, List.mapM_nil]
  rfl
noncomputable def Res (k : Nat) (bs : List (Int × Int)) (sm : List (List Int × Int)) (F : D) : Prop := (∃ t, isTree sm bs t = true ∧ t.deep ≤ k ∧ F = .tup [trD t, .none]) ∨ ∃ f, InB bs f ∧ good sm f ∧ F = .tup [.none, .list (dI f)]
theorem fD_py (f : List Int) : (fD f).py = some (.list (f.map .int)) := by simp only [fD, D.py, pys_dI, Option.map_some]
theorem ne_nil {α : Type} {g : α → D} {p : α → PyData} (hp : ∀ a, (g a).py = some (p a)) {st : St} {K : Bool → Prop} {l : List α} (h : K (!l.isEmpty)) : wCmp1 .NotEq (.list (l.map g)) (.list []) st K := by
  refine ⟨.list (l.map p), .list [], ?_, rfl, ?_, ?_⟩
  · refine pyD_of ?_
    simp only [D.py, pys_map hp, Option.map_some]
  · show min _ _ ≤ 1000
    have : (PyData.list []).depth = 1 := rfl
    omega
  · cases l with
    | nil => exact h
    | cons n ns => exact h
theorem in_good {st : St} {K : Bool → Prop} {G : List (List Int)} {f : List Int} (hf : f ∈ G) (h : K true) : wCmp1 .In (.list (dI f)) (.list (G.map fD)) st K := by
  refine ⟨G.map fD, .list (f.map .int), G.map fun f => .list (f.map .int), rfl, pyD_of (fD_py f), mapM_of fD_py G, ?_, ?_⟩
  · simp only [PyData.depth, deep_ints]; decide
  · have : ((G.map fun f => PyData.list (f.map .int)).any fun y => PyData.eqv y (.list (f.map .int))) = true := by
      rw [List.any_eq_true]
      exact ⟨_, List.mem_map.mpr ⟨f, hf, rfl⟩, PySem.SeqAt.eqv_refl _ (by simp only [PyData.canLay0, lay_ints])⟩
    rw [this]; exact h

theorem allIn_len : ∀ (bs : List (Int × Int)) (found : List (List Int)), Box bs → (bs.foldl fill1 found).length ≤ found.length * 15 ^ bs.length
  | [], found, _ => by simp
  | p :: bs, found, h => by
    have h1 := allIn_len bs (fill1 found p) fun q hq => h q (.tail _ hq)
    have h2 := fill_len (h p (.head _)) found
    have h3 : (fill1 found p).length * 15 ^ bs.length ≤ found.length * 15 * 15 ^ bs.length := Nat.mul_le_mul_right _ h2
    rw [List.foldl_cons, List.length_cons, Nat.pow_succ, Nat.mul_comm (15 ^ bs.length) 15, ← Nat.mul_assoc]
    omega
theorem inB_mem : ∀ {bs : List (Int × Int)} {f : List Int}, InB bs f → Box bs → ∀ a ∈ f, a.natAbs ≤ 1000
  | [], [], _, _, a, ha => by cases ha
  | p :: bs, x :: f, h, hb, a, ha => by
    simp only [InB] at h
    have := hb p (.head _)
    cases ha with
    | head => omega
    | tail _ ha => exact inB_mem h.2.2 (fun q hq => hb q (.tail _ hq)) a ha
  | [], _ :: _, h, _, _, _ => by simp [InB] at h
  | _ :: _, [], h, _, _, _ => by simp [InB] at h
theorem width_le : ∀ (bs : List (Int × Int)), Box bs → width bs ≤ 14 * bs.length
  | [], _ => by simp [width]
  | p :: bs, h => by
    have h1 := width_le bs fun q hq => h q (.tail _ hq)
    have h2 := h p (.head _)
    simp only [width, List.map_cons, List.sum_cons, List.length_cons, wid] at h1 ⊢
    omega
noncomputable abbrev Pt := List (Int × Int) × List (List Int × Int)
noncomputable def ptD (p : Pt) : D := .tup [.list (p.1.map prD), .list (p.2.map smD)]
noncomputable def pts (bs : List (Int × Int)) (sm : List (List Int × Int)) : List Pt := [(bs, sm), (bs.reverse, sm.take 1), (bs, sm)]
theorem pt_ok {bs : List (Int × Int)} {sm : List (List Int × Int)} (hb1 : 1 ≤ bs.length) (hb3 : bs.length ≤ 3) (hbox : Box bs) (oks : ∀ s ∈ sm, OkS bs.length s) (hsm : sm.length ≤ 10) {p : Pt} (hp : p ∈ pts bs sm) :
    0 < p.1.length ∧ OkB p.1 ∧ (∀ s ∈ p.2, OkS p.1.length s) ∧ p.2.length ≤ 10 ∧ width p.1 < 43 := by
  have h0 : OkB bs := ⟨hb3, fun p hp => by have := hbox p hp; omega⟩
  have hw := width_le bs hbox
  have hr : Box bs.reverse := fun p hp => hbox p (List.mem_reverse.mp hp)
  have hw' := width_le bs.reverse hr
  rw [List.length_reverse] at hw'
  have a1 : 0 < bs.length ∧ OkB bs ∧ (∀ s ∈ sm, OkS bs.length s) ∧ sm.length ≤ 10 ∧ width bs < 43 := ⟨hb1, h0, oks, hsm, by omega⟩
  simp only [pts, List.mem_cons, List.mem_nil_iff, or_false] at hp
  rcases hp with rfl | rfl | rfl
  · exact a1
  · refine ⟨by simp; omega, ⟨by simpa using hb3, fun p hp => by have := hr p hp; omega⟩, fun s hs => ?_, by simp only [List.length_take]; omega, by simp only; omega⟩
    simp only [List.length_reverse]
    exact oks s (List.mem_of_mem_take hs)
  · exact a1

theorem tried_res {k : Nat} {S : FSpec} (h : SpTried k S) {sD mD : D} {bs : List (Int × Int)} {sm : List (List Int × Int)} {st : St} {Q : D → St → Prop} (h1 : lstD st sD = some (bs.map prD)) (h2 : lstD (st.hide (pinOf mD)) sD = some (bs.map prD))
    (h3 : lstD st mD = some (sm.map smD)) (h4 : 0 < bs.length) (h5 : OkB bs) (h6 : ∀ s ∈ sm, OkS bs.length s) (h7 : sm.length ≤ 10) (h8 : width bs < k) (hQ : ∀ R, Res k bs sm R → Q R st) : S [sD, mD] st Q :=
  h sD mD bs sm st Q h1 h2 h3 h4 h5 h6 h7 h8 (fun t a b => hQ _ (.inl ⟨t, a, b, rfl⟩)) fun f a b => hQ _ (.inr ⟨f, a, b, rfl⟩)
theorem res_pair {k : Nat} {bs : List (Int × Int)} {sm : List (List Int × Int)} {R : D} (h : Res k bs sm R) : ∃ x y, R = .tup [x, y] := by
  rcases h with ⟨_, _, _, rfl⟩ | ⟨_, _, _, rfl⟩ <;> exact ⟨_, _, rfl⟩

structure Fn7 (Γ : Ctx) : Prop where
  b1 : Γ.fn "len" = none
  b2 : Γ.fn "range" = none
  b3 : Γ.fn "isinstance" = none
  g1 : Γ.gl "tuple" = some (.val (.type "tuple"))
  g2 : Γ.gl "list" = some (.val (.type "list"))
  S : Has Γ "_law_stretch" SpStretch
  A : Has Γ "_law_at" SpAt
  Wo : Has Γ "_law_word" SpWord
  Al : Has Γ "_law_all_in" SpAllIn
  Ho : Has Γ "_law_holds" SpHolds
  T : Has Γ "tried" (SpTried 43)
  U : Has Γ "_law_is_tree" (SpTree 44)
  R : Has Γ "_law_trees_right" SpRight
noncomputable def mtH (x : Str) : Bool := x == "_law_handed"
theorem mtH_str (a : String) : mtH (Str.ofString a) = decide (a = "_law_handed") := ofString_beq a _
theorem law_ok {Γ : Ctx} (F : Fn7 Γ) (sc : List Int) (st : St) (Q : D → St → Prop) (wf : WfSt st) (hsc : sc.length ≤ 1000) (hQ : Q (.bool true) st) : wFn Γ mtH 60 (kdOf PySem.Challenge.pw_uf010033_07 25) ["_law_script"] (bodyOf PySem.Challenge.pw_uf010033_07 25) [.list (dI sc)] st Q := by
  obtain ⟨b1, b2, b3, g1, g2, ⟨fS, hS, hS'⟩, ⟨fA, hA, hA'⟩, ⟨fW, hW, hW'⟩, ⟨fAl, hAl, hAl'⟩, ⟨fHo, hHo, hHo'⟩, ⟨fT, hT, hT'⟩, ⟨fU, hU, hU'⟩, ⟨fR, hR, hR'⟩⟩ := F
  have hlim : lim = 1000000 := rfl
  refine fn_intro rfl ?_
  generalize hkd : kdOf PySem.Challenge.pw_uf010033_07 25 = kd
  obtain ⟨kd0, kd1, kd2, kd3, kd4, kd5, kd6, kd7, kd8, kd9, kd10, kd11, kd12, kd13, kd14, kd15, kd16, kd17, kd18, kd19, kd20⟩ : kd "_law_stretch_here" = some .local ∧ kd "_law_filling" = some .local ∧ kd "_law_good" = some .local ∧ kd "_law_handed" = some .local ∧ kd "_law_parts" = some .local ∧ kd "_law_found" = some .local ∧ kd "_law_tree" = some .local ∧ kd "_law_script" = some .cell ∧ kd "_law_many" = some .cell ∧ kd "_law_some" = some .cell ∧ kd "_law_stretch" = some .globalImplicit ∧ kd "len" = some .globalImplicit ∧ kd "range" = some .globalImplicit ∧ kd "_law_at" = some .globalImplicit ∧ kd "_law_all_in" = some .globalImplicit ∧ kd "tried" = some .globalImplicit ∧ kd "isinstance" = some .globalImplicit ∧ kd "tuple" = some .globalImplicit ∧ kd "list" = some .globalImplicit ∧ kd "_law_is_tree" = some .globalImplicit ∧ kd "_law_trees_right" = some .globalImplicit := by
    subst hkd; exact ⟨rfl, rfl, rfl, rfl, rfl, rfl, rfl, rfl, rfl, rfl, rfl, rfl, rfl, rfl, rfl, rfl, rfl, rfl, rfl, rfl, rfl⟩
  clear hkd
  dsimp only [bodyOf, PySem.Challenge.pw_uf010033_07, List.getElem?_cons_succ, List.getElem?_cons_zero]
  rw [wSs_cons]
  simp only [gl_g, own_l, nm_c, upd_str, call_s, e_name, e_call, es_nil, es_cons, s_asgN, th_next, ns_nil, bind_nil, bind_cons, String.reduceEq, ↓reduceIte, Option.some.injEq, reduceCtorEq, true_and, exists_eq_left', ns_cons, str_name, Bool.not_false, Bool.and_self, decide_false, false_implies, kd0, kd7, kd10, mtH_str, hS]
  refine hS' sc _ _ wf hsc fun bs hb1 hb3 hbox => ?_
  have hbl1 : (bs.length ≤ lim) = True := eq_true (lim_le (Nat.le_trans hb3 (by decide)))
  rw [wSs_cons]
  simp only [gl_g, own_c, nm_l, upd_str, call_n, e_name, e_call, es_nil, es_cons, s_asgN, th_next, blt1, ns_nil, b_len, seqD_list, String.reduceEq, ↓reduceIte, Option.some.injEq, true_and, exists_eq_left', ns_cons, str_name, Bool.not_false, Bool.and_self, forall_const, decide_false, kd0, kd8, kd11, hbl1, mtH_str, b1, List.length_map]
  repeat (with_reducible refine And.intro ?_ ?_; focus omega)
  rw [wSs_cons]
  simp only [gl_g, own_l, own_c, nm_l, nm_c, nm_f, upd_str, lk_str, call_s, e_int, e_name, e_bin, e_call, e_comp0, es_nil, es_cons, i_range, s_asgN, th_next, tg_name, mk_f, ns_nil, String.reduceEq, ↓reduceIte, Option.some.injEq, reduceCtorEq, true_and, exists_eq_left', ns_cons, str_name, str_const, str_bin, str_call, Bool.not_false, Bool.and_self, decide_false, false_implies, kd7, kd9, kd12, kd13, mtH_str, b2, hA]
  refine ⟨by simp [ScopeOk, ofString_inj, kd0, kd1, kd2, kd3, kd4, kd5, kd6, kd7, kd8, kd9, kd10, kd11, kd12, kd13, kd14, kd15, kd16, kd17, kd18, kd19, kd20, hbl1, lk_str], ?_⟩
  refine hA' _ _ _ _ hsc ?_
  obtain ⟨c0, c1⟩ := at_pos sc 4
  generalize atV sc 4 = cell at c0 c1
  obtain ⟨n, hn, hn1, hn6⟩ : ∃ n : Nat, 1 + cell % 6 = (n : Int) ∧ 1 ≤ n ∧ n ≤ 6 := ⟨(1 + cell % 6).toNat, by omega, by omega, by omega⟩
  simp only [x_add, x_mod, ic_range1, hide_false, back_false, true_and, Int.reduceLT, hn]
  repeat (with_reducible refine And.intro ?_ ?_; focus omega)
  rw [rangeN_map]
  refine wComp_any (α := Nat) (β := List Int × Int) _ smD (OkS bs.length) _ [] (fun k hk K hK => ?_) fun sm hsml oks => ?_
  · try simp only [call_s, x_add, Option.some.injEq, reduceCtorEq, true_and, false_implies, hW]
    refine hA' _ _ _ _ hsc ?_
    exact hW' _ _ _ _ wf (at_pos _ _).1 hb1 hb3 hK
  rw [List.length_range] at hsml
  have hsm10 : sm.length ≤ 10 := by omega
  have hsl1 : (sm.length ≤ lim) = True := eq_true (lim_le (Nat.le_trans hsm10 (by decide)))
  simp only [true_and, hsl1, List.nil_append, List.length_map]
  repeat (with_reducible refine And.intro ?_ ?_; focus omega)
  -- good
  have hlen := allIn_len bs [[]] hbox
  have e15 : 15 ^ bs.length ≤ 15 ^ 3 := Nat.pow_le_pow_right (by decide) hb3
  simp only [List.length_cons, List.length_nil, Nat.zero_add, Nat.one_mul] at hlen
  have hlen' : (allIn bs).length ≤ 15 ^ 3 := Nat.le_trans hlen e15
  have hal1 : ((allIn bs).length ≤ lim) = True := eq_true (Nat.le_trans hlen' (by decide))
  rw [wSs_cons]
  simp only [gl_g, own_l, nm_l, nm_f, upd_str, lk_str, call_s, e_name, e_call, e_comp1, es_nil, es_cons, t_call, i_call, s_asgN, th_next, tg_name, mk_f, ns_nil, String.reduceEq, ↓reduceIte, or_self, Option.some.injEq, reduceCtorEq, true_and, exists_eq_left', ns_cons, str_name, Bool.not_false, Bool.and_self, decide_false, false_implies, kd0, kd2, kd14, mtH_str, hAl, hHo]
  refine ⟨by simp [ScopeOk, ofString_inj, kd0, kd1, kd2, kd3, kd4, kd5, kd6, kd7, kd8, kd9, kd10, kd11, kd12, kd13, kd14, kd15, kd16, kd17, kd18, kd19, kd20, hbl1, hsl1, hal1, lk_str], ?_⟩
  refine hAl' bs _ _ hb3 hbox ?_
  simp only [it_list, hide_false, back_false, true_and, hal1, List.length_map]
  repeat (with_reducible refine And.intro ?_ ?_; focus omega)
  have hfG : ((allIn bs).filter (hold sm)).length ≤ (allIn bs).length := List.length_filter_le _ _
  refine wComp_filter (α := List Int) fD fD (hold sm) (allIn bs) [] (fun f hf K hK => ?_) ?_
  · have hib := (mem_allIn bs f).mp hf
    have hfl := inB_len hib
    refine hHo' sm f _ _ (by rw [hfl]; exact oks) hsm10 (by rw [hfl]; exact hb3) (inB_mem hib hbox) ?_
    cases q : hold sm f with
    | true => rw [q] at hK; simp only [tr_bool, ↓reduceIte, Option.some.injEq, exists_eq_left'] at hK ⊢; exact hK
    | false => rw [q] at hK; simp only [tr_bool, ↓reduceIte, Option.some.injEq, exists_eq_left', Bool.false_eq_true] at hK ⊢; exact hK
  have hG : ∀ f, f ∈ (allIn bs).filter (hold sm) ↔ InB bs f ∧ good sm f := fun f => by rw [List.mem_filter, mem_allIn, hold_iff]
  have hgl1 : (((allIn bs).filter (hold sm)).length ≤ lim) = True := eq_true (Nat.le_trans hfG (Nat.le_trans hlen' (by decide)))
  generalize (allIn bs).filter (hold sm) = G at hfG hG hgl1
  simp only [true_and, hgl1, List.nil_append, List.length_map]
  repeat (with_reducible refine And.intro ?_ ?_; focus omega)
  -- handed
  rw [wSs_cons]
  simp only [own_l, e_list, es_nil, es_cons, s_asgN, th_next, mk_t, true_and, lim0, lim2, List.length_cons, List.length_nil, Nat.zero_add, Nat.reduceAdd, decide_true, kd3, mtH_str, alloc_hi]
  repeat (with_reducible refine And.intro ?_ ?_; focus omega)
  rw [hst_def]
  -- the loop
  rw [wSs_cons]
  simp only [own_l, nm_l, nm_c, upd_str, e_int, e_name, e_un, e_slice, e_tup, e_list, es_nil, es_cons, o_none, o_some, i_list, s_for, tg_name, x_neg, mk_f, it_list, hide_false, back_false, String.reduceEq, ↓reduceIte, Option.some.injEq, true_and, exists_eq_left', Int.reduceToNat, lim2, lim3, List.length_cons, List.length_nil, Nat.zero_add, Nat.reduceAdd, Int.reduceNeg, kd0, kd4, kd9, hbl1, hsl1, sl_rev, sl_upto (i := 1) (by decide), List.length_map, List.length_reverse, List.length_take]
  repeat (with_reducible refine And.intro ?_ ?_; focus omega)
  rw [← List.map_reverse, ← List.map_take]
  change wFor _ ((pts bs sm).map ptD) _ _ _
  refine wFor_inv (fun i m' st' => (∃ X Y, st' = hst st X Y ∧ X.length ≤ 10 ∧ Y.length ≤ 10) ∧ m' "_law_script" = some (.list (dI sc)) ∧ m' "_law_stretch_here" = some (.list (bs.map prD)) ∧ m' "_law_some" = some (.list (sm.map smD)) ∧
      m' "_law_good" = some (.list (G.map fD)) ∧ m' "_law_handed" = some (.loc (st.hi + 2)) ∧ (i = 0 ∨ ∃ p R, (pts bs sm)[i - 1]? = some p ∧ m' "_law_found" = some R ∧ Res 43 p.1 p.2 R)) _ []
    ⟨⟨[], [], rfl, by simp, by simp⟩, by simp only [upd_str, String.reduceEq, ↓reduceIte], by simp only [upd_str, String.reduceEq, ↓reduceIte], by simp only [upd_str, String.reduceEq, ↓reduceIte], by simp only [upd_str, String.reduceEq, ↓reduceIte], by simp only [upd_str, ↓reduceIte], .inl rfl⟩ ?_ ?_
  · rintro i d m' st' K hd ⟨⟨X, Y, rfl, hX, hY⟩, f1, f2, f3, f4, f5, _⟩ hK
    simp only [List.nil_append, List.getElem?_map, Option.map_eq_some_iff] at hd
    obtain ⟨p, hp, rfl⟩ := hd
    obtain ⟨p0, p1, p2, p3, p4⟩ := pt_ok hb1 hb3 hbox oks hsm10 (List.mem_of_getElem? hp)
    have q2 := seqD_loc (hst_2 (st := st) (xs := X) (ys := Y))
    have pl := p1.1
    rw [wSs_cons]
    simp only [nm_l, upd_str, e_int, e_name, e_meth0, e_itemC, s_expr, th_next, wItem_lit, String.reduceEq, ↓reduceIte, Option.some.injEq, true_and, exists_eq_left', Int.reduceLE, Int.reduceLT, Int.reduceToNat, List.getElem?_cons_zero, ce_sub, ce_call, beq_self_eq_true, kd3, f5, q2]
    refine m_clear hst_0 (by omega) ?_
    rw [hst_put0]
    have q2 := seqD_loc (hst_2 (st := st) (xs := []) (ys := Y))
    simp only []
    rw [wSs_cons]
    simp only [nm_l, upd_str, e_int, e_name, e_meth1, e_itemC, s_expr, th_next, me_extend, ns_nil, wItem_lit, seqD_tup, String.reduceEq, ↓reduceIte, Option.some.injEq, true_and, exists_eq_left', Int.reduceLE, Int.reduceLT, Int.reduceToNat, List.getElem?_cons_zero, ns_cons, str_sub, ce_sub, ce_call, Bool.not_false, Bool.and_self, beq_self_eq_true, kd3, kd4, f5, q2, ptD, lst_loc hst_0, Option.isSome_some]
    refine m_extend hst_0 (by simp; omega) ?_
    rw [hst_put0, List.nil_append]
    have q2 := seqD_loc (hst_2 (st := st) (xs := p.1.map prD) (ys := Y))
    simp only []
    rw [wSs_cons]
    simp only [nm_l, upd_str, e_int, e_name, e_meth0, e_itemC, s_expr, th_next, wItem_lit, String.reduceEq, ↓reduceIte, Option.some.injEq, true_and, exists_eq_left', Int.reduceLE, Int.reduceLT, Int.reduceToNat, List.getElem?_cons_succ, List.getElem?_cons_zero, ce_sub, ce_call, beq_self_eq_true, kd3, f5, q2]
    refine m_clear hst_1 (by omega) ?_
    rw [hst_put1]
    have q2 := seqD_loc (hst_2 (st := st) (xs := p.1.map prD) (ys := []))
    simp only []
    rw [wSs_cons]
    simp only [nm_l, upd_str, e_int, e_name, e_meth1, e_itemC, s_expr, th_next, me_extend, ns_nil, wItem_lit, seqD_tup, String.reduceEq, ↓reduceIte, Option.some.injEq, true_and, exists_eq_left', Int.reduceLE, Int.reduceLT, Int.reduceToNat, List.getElem?_cons_succ, List.getElem?_cons_zero, ns_cons, str_sub, ce_sub, ce_call, Bool.not_false, Bool.and_self, beq_self_eq_true, kd3, kd4, f5, q2, lst_loc hst_1, Option.isSome_some]
    refine m_extend hst_1 (by simp; omega) ?_
    rw [hst_put1, List.nil_append]
    have q2 := seqD_loc (hst_2 (st := st) (xs := p.1.map prD) (ys := p.2.map smD))
    simp only []
    rw [wSs_cons]
    simp only [gl_g, own_l, nm_l, upd_str, call_s, e_int, e_name, e_call, e_itemC, es_nil, es_cons, s_asgN, th_next, ns_nil, wItem_lit, String.reduceEq, ↓reduceIte, Option.some.injEq, reduceCtorEq, true_and, exists_eq_left', Int.reduceLE, Int.reduceLT, Int.reduceToNat, List.getElem?_cons_succ, List.getElem?_cons_zero, ns_cons, str_sub, Bool.not_false, Bool.and_self, false_implies, kd3, kd5, kd15, f5, q2, hT]
    refine tried_res hT' (lst_loc hst_0) hst_hide (lst_loc hst_1) p0 p1 p2 p3 p4 fun R hRes => ?_
    obtain ⟨x, y, rfl⟩ := res_pair hRes
    rw [wSs_cons]
    simp only [gl_g, nm_l, nm_g, upd_str, call_n, e_int, e_name, e_call, e_itemC, e_list, es_nil, es_cons, c_one, t_not, t_bool, t_cmp, t_call, a_nil, a_cons, s_if, ss_nil, th_next, x_ne, tr_bool, mk_f, sa_of, blt1, blt2, ns_nil, b_len, b_isinstance, ti_tt, wItem_lit, seqD_tup, String.reduceEq, ↓reduceIte, Option.some.injEq, true_and, exists_eq_left', Int.reduceLE, Int.reduceLT, Int.reduceToNat, List.getElem?_cons_succ, List.getElem?_cons_zero, Bool.false_eq_true, ns_cons, str_name, lim2, Bool.not_false, Bool.not_true, Bool.and_self, forall_const, List.length_cons, List.length_nil, Nat.zero_add, Nat.reduceAdd, Int.cast_ofNat_Int, beq_self_eq_true, bo_oa, kd3, kd4, kd5, kd11, kd16, kd17, f5, b1, b3, g1]
    refine ne_hand py_hst (fun _ h => by cases h) (fun _ h => by cases h) ?_
    simp only [sa_of, ↓reduceIte, Bool.false_eq_true]
    refine hK _ _ ⟨⟨_, _, rfl, by rw [List.length_map]; omega, by rw [List.length_map]; omega⟩, ?_, ?_, ?_, ?_, ?_, .inr ⟨p, _, hp, by simp only [upd_str, ↓reduceIte], hRes⟩⟩
    · simp only [upd_str, String.reduceEq, ↓reduceIte, f1]
    · simp only [upd_str, String.reduceEq, ↓reduceIte, f2]
    · simp only [upd_str, String.reduceEq, ↓reduceIte, f3]
    · simp only [upd_str, String.reduceEq, ↓reduceIte, f4]
    · simp only [upd_str, String.reduceEq, ↓reduceIte, f5]
  rintro m' st' ⟨⟨X, Y, rfl, hX, hY⟩, f1, f2, f3, f4, f5, hor⟩
  have okb : OkB bs := ⟨hb3, fun p hp => by have := hbox p hp; omega⟩
  have hend : ([] ++ (pts bs sm).map ptD).length = 3 := rfl
  rw [hend] at hor
  rcases hor with h | ⟨p, R, hp, hfo, hres⟩
  · cases h
  obtain rfl : p = (bs, sm) := by simpa [pts] using hp.symm
  rw [th_next, wSs_cons]
  rcases hres with ⟨t, ht, hd, rfl⟩ | ⟨f, hf, hg, rfl⟩
  · simp only [own_l, nm_l, e_name, s_asgT, th_next, tg_two, Option.some.injEq, true_and, exists_eq_left', te_name, kd1, kd5, kd6, hfo]
    rw [wSs_cons]
    simp only [nm_l, upd_str, e_name, e_list, es_nil, c_one, t_cmp, s_if, ss_nil, th_next, mk_f, String.reduceEq, ↓reduceIte, Option.some.injEq, true_and, exists_eq_left', lim0, List.length_nil, kd2, f4]
    have hG0 : G = [] := List.eq_nil_iff_forall_not_mem.mpr fun f hf => tree_no t bs f ht ((hG f).mp hf).1 ((hG f).mp hf).2
    repeat (with_reducible refine And.intro ?_ ?_; focus omega)
    refine ne_nil fD_py ?_
    rw [hG0]
    simp only [↓reduceIte, Bool.false_eq_true, Bool.not_true, List.isEmpty_nil]
    rw [wSs_cons]
    simp only [gl_g, nm_l, nm_c, upd_str, call_s, e_none, e_name, e_call, es_nil, es_cons, c_one, t_not, t_bool, t_cmp, t_call, a_nil, a_cons, s_if, ss_nil, th_next, sa_of, ns_nil, String.reduceEq, ↓reduceIte, Option.some.injEq, reduceCtorEq, true_and, exists_eq_left', Bool.false_eq_true, ns_cons, str_name, Bool.not_false, Bool.not_true, Bool.and_self, bo_oa, false_implies, kd0, kd1, kd6, kd9, kd19, isnot_none iv_none, in_none, hU, f2, f3]
    refine hU' bs sm t _ _ okb oks hsm10 (Nat.le_succ_of_le hd) ?_
    rw [ht]
    simp only [tr_bool, sa_of, ↓reduceIte, Option.some.injEq, exists_eq_left', Bool.false_eq_true, Bool.not_true]
    rw [wSs_cons]
    simp only [gl_g, nm_l, nm_c, upd_str, call_s, e_name, e_call, es_nil, es_cons, s_ret, th_ret, ns_nil, String.reduceEq, ↓reduceIte, Option.some.injEq, reduceCtorEq, true_and, exists_eq_left', ns_cons, str_name, Bool.not_false, Bool.and_self, false_implies, kd0, kd6, kd7, kd9, kd20, hR, f1, f2, f3]
    refine hR' bs sm t sc _ _ okb oks hsm10 hd hsc ?_
    exact fin_cut (d' := .bool true) hst_ne rfl (by rw [hst_cut wf]; exact hQ)
  · simp only [own_l, nm_l, e_name, s_asgT, th_next, tg_two, Option.some.injEq, true_and, exists_eq_left', te_name, kd1, kd5, kd6, hfo]
    rw [wSs_cons]
    simp only [nm_l, upd_str, e_name, e_list, es_nil, c_one, t_cmp, s_if, ss_nil, th_next, mk_f, String.reduceEq, ↓reduceIte, Option.some.injEq, true_and, exists_eq_left', lim0, List.length_nil, kd2, f4]
    have hfG : f ∈ G := (hG f).mpr ⟨hf, hg⟩
    repeat (with_reducible refine And.intro ?_ ?_; focus omega)
    refine ne_nil fD_py ?_
    have hGe : G.isEmpty = false := by cases G with
      | nil => cases hfG
      | cons _ _ => rfl
    rw [hGe]
    simp only [↓reduceIte, Bool.not_false]
    rw [wSs_cons]
    simp only [gl_g, nm_l, nm_g, upd_str, call_n, e_none, e_name, e_boolop, e_cmp, e_call, es_nil, es_cons, b_one, b_two, c_one, s_ret, th_ret, tr_bool, sa_at, blt2, ns_nil, b_isinstance, String.reduceEq, ↓reduceIte, Option.some.injEq, true_and, exists_eq_left', Bool.false_eq_true, ns_cons, str_name, Bool.not_false, Bool.and_self, forall_const, kd1, kd2, kd6, kd16, kd18, is_none iv_none, in_none, b3, g2, ti_ll, f4]
    refine in_good hfG ?_
    exact fin_cut (d' := .bool true) hst_ne rfl (by rw [hst_cut wf]; exact hQ)
end Mine
end

section
set_option autoImplicit false
set_option linter.unusedVariables false
namespace Mine
open PySem PySem.W PySem.Calls PyProof.Rows

noncomputable def recOf (p : Program) (i : Nat) : DefRec := match p.main.body[i]? with
  | some (.FunctionDef name a b _ _ _ sc _ _ pos) => ⟨name, a, b, sc, pos⟩
  | _ => ⟨Str.ofString "", ⟨[], [], none, [], [], none, []⟩, [], { kind := .function, names := [], isGenerator := false, isCoroutine := false }, ⟨0, 0, 0, 0⟩⟩

section
variable {p : Program} {loose : List Str} {mean : ExcName → Option Value} {mg mb : Str → Option Value} {h : Heap}
theorem fnAt_top (T : Top p loose mean mg mb h) {d : DefRec} {j : Nat} (hd : (recsOf p)[j]? = some d) (params : List Str)
    (hb : ∀ (pm code doc : Value) (vs : List Value), vs.length = params.length → bindArgs (docDef d.name d.params d.body d.scope pm code doc) ⟨vs, []⟩ = pure (params.zip vs)) :
    ∃ v, mg d.name = some v ∧ FnAt h v params d.body d.scope := by
  obtain ⟨a, o, pm, code, doc, h1, h2, h3, h4⟩ := T.fn d (List.mem_of_getElem? hd)
  exact ⟨.ref a, h1, ⟨a, o, _, rfl, h2, h3, h4, rfl, rfl, rfl, rfl, rfl, fun vs hv => hb pm code doc vs hv⟩⟩

theorem blt_top (T : Top p loose mean mg mb h) {x : Str} {v : Value} (h0 : x ≠ "__name__") (h1 : x ∉ startupNames) (h2 : x ∉ loose) (h3 : x ∉ (recsOf p).map (·.name)) (h4 : x ∉ (litsOf p).map (·.1)) (h5 : x ∉ (clssOf p loose).map (·.name))
    (hv : bootBuiltins x = some v) : mg x = none ∧ mb x = some v := ⟨T.free x h1 h2 h3 h4 h5, (T.builtins x h0).trans hv⟩
end

noncomputable def glT (x : Str) : Option D := if x = "int" then some (.val (.type "int")) else if x = "bool" then some (.val (.type "bool")) else if x = "tuple" then some (.val (.type "tuple")) else if x = "list" then some (.val (.type "list")) else none
noncomputable def Γ0 : Ctx := ⟨fun _ => none, glT⟩

/-- the builtins a text of this kind reads -/
noncomputable def bltNames : List (Str × Value) := [("len", .builtin "len"), ("isinstance", .builtin "isinstance"), ("list", .type "list"), ("tuple", .type "tuple"), ("min", .builtin "min"), ("max", .builtin "max"), ("sum", .builtin "sum"),
  ("zip", .type "zip"), ("enumerate", .type "enumerate"), ("range", .type "range"), ("int", .type "int"), ("bool", .type "bool")]
theorem ite_mem {α : Type} {c : Prop} [Decidable c] {a v : α} {r : Option α} (h : (if c then some a else r) = some v) : (c ∧ a = v) ∨ r = some v := by
  by_cases q : c
  · rw [if_pos q] at h; exact .inl ⟨q, Option.some.inj h⟩
  · rw [if_neg q] at h; exact .inr h
theorem blt_mem {x : Str} {v : Value} (h : bltV x = some v) : (x, v) ∈ bltNames := by
  rcases ite_mem h with ⟨rfl, rfl⟩ | h
  · exact .head _
  rcases ite_mem h with ⟨rfl, rfl⟩ | h
  · exact .tail _ (.head _)
  rcases ite_mem h with ⟨rfl, rfl⟩ | h
  · exact .tail _ (.tail _ (.head _))
  rcases ite_mem h with ⟨rfl, rfl⟩ | h
  · exact .tail _ (.tail _ (.tail _ (.head _)))
  rcases ite_mem h with ⟨rfl, rfl⟩ | h
  · exact .tail _ (.tail _ (.tail _ (.tail _ (.head _))))
  rcases ite_mem h with ⟨rfl, rfl⟩ | h
  · exact .tail _ (.tail _ (.tail _ (.tail _ (.tail _ (.head _)))))
  rcases ite_mem h with ⟨rfl, rfl⟩ | h
  · exact .tail _ (.tail _ (.tail _ (.tail _ (.tail _ (.tail _ (.head _))))))
  rcases ite_mem h with ⟨rfl, rfl⟩ | h
  · exact .tail _ (.tail _ (.tail _ (.tail _ (.tail _ (.tail _ (.tail _ (.head _)))))))
  rcases ite_mem h with ⟨rfl, rfl⟩ | h
  · exact .tail _ (.tail _ (.tail _ (.tail _ (.tail _ (.tail _ (.tail _ (.tail _ (.head _))))))))
  rcases ite_mem h with ⟨rfl, rfl⟩ | h
  · exact .tail _ (.tail _ (.tail _ (.tail _ (.tail _ (.tail _ (.tail _ (.tail _ (.tail _ (.head _)))))))))
  cases h
theorem gl_mem {x : Str} {d : D} (h : glT x = some d) : ∃ v, d = .val v ∧ (x, v) ∈ bltNames := by
  rcases ite_mem h with ⟨rfl, rfl⟩ | h
  · exact ⟨_, rfl, .tail _ (.tail _ (.tail _ (.tail _ (.tail _ (.tail _ (.tail _ (.tail _ (.tail _ (.tail _ (.head _))))))))))⟩
  rcases ite_mem h with ⟨rfl, rfl⟩ | h
  · exact ⟨_, rfl, .tail _ (.tail _ (.tail _ (.tail _ (.tail _ (.tail _ (.tail _ (.tail _ (.tail _ (.tail _ (.tail _ (.head _)))))))))))⟩
  rcases ite_mem h with ⟨rfl, rfl⟩ | h
  · exact ⟨_, rfl, .tail _ (.tail _ (.tail _ (.head _)))⟩
  rcases ite_mem h with ⟨rfl, rfl⟩ | h
  · exact ⟨_, rfl, .tail _ (.tail _ (.head _))⟩
  cases h

theorem ctx_of {prog : Program} {w : World} {h₀ : Heap} {mg mb : Str → Option Value} {k : Nat} {Γ : Ctx} (h1 : h₀.Ns mainGlobals mg) (h2 : h₀.Ns builtinsNs mb) (hb : ∀ x v, (x, v) ∈ bltNames → mg x = none ∧ mb x = some v) (hgl : Γ.gl = glT)
    (hfn : ∀ x S, Γ.fn x = some S → ∃ v, mg x = some v ∧ CallOK prog w h₀ k S v) : CtxOK prog w h₀ k Γ := by
  refine ⟨mg, mb, h1, h2, fun x d hx => ?_, fun x S hx => ?_, fun x v hf hx => hb x v (blt_mem hx)⟩
  · rw [hgl] at hx
    obtain ⟨v, rfl, hm⟩ := gl_mem hx
    obtain ⟨e1, e2⟩ := hb x v hm
    exact ⟨v, by rw [e1, e2]; rfl, fun R ρ _ => rfl⟩
  · obtain ⟨v, e, hc⟩ := hfn x S hx
    exact ⟨v, by rw [e]; rfl, hc⟩

noncomputable def W₀ (s : Shared) : Wd := ⟨s.heap.get?, fun _ => none, ⟨0, fun _ => none⟩⟩
theorem sim₀ (s : Shared) : Sim s.heap (W₀ s) s := by
  refine ⟨fun _ _ e => e, fun _ _ e => e, ?_, ?_, ?_, ?_⟩
  · intro n c e; cases e
  · intro n a e; cases e
  · intro n k a e; cases e
  · intro n a e; cases e
theorem well_ints {P : Params} {h : Heap} : ∀ {vs : List Value} {ns : List Int}, WellAll P h vs (ofPys (ns.map .int)) → ∃ ts : List Tok, vs = (ns.zip ts).map (fun p => .int p.1 p.2) ∧ ts.length = ns.length
  | _, [], w => by
    have w' : WellAll P h _ [] := w
    cases w'; exact ⟨[], rfl, rfl⟩
  | _, n :: ns, w => by
    have w' : WellAll P h _ (.int n :: ofPys (ns.map .int)) := w
    cases w' with
    | cons w1 w2 =>
      cases w1 with
      | int _ t =>
        obtain ⟨ts, rfl, hl⟩ := well_ints w2
        exact ⟨t :: ts, rfl, by simp [hl]⟩
theorem rep_ints {R : Addr → Option Obj} {ρ : Nat → Option Addr} : ∀ (ns : List Int) (ts : List Tok), ts.length = ns.length → RepAll R ρ (ns.map .int) ((ns.zip ts).map fun p => .int p.1 p.2)
  | [], _, _ => rfl
  | n :: ns, t :: ts, h => ⟨_, _, rfl, ⟨t, rfl⟩, rep_ints ns ts (by simpa using h)⟩
  | _ :: _, [], h => by simp at h
theorem rep_script {P : Params} {s : Shared} {v : Value} {ns : List Int} (w : Well P s.heap v (ofPy (.list (ns.map .int)))) : Rep (W₀ s).R (W₀ s).ρ (.list (ns.map .int)) v := by
  have w' : Well P s.heap v (.list (ofPys (ns.map .int))) := w
  cases w' with
  | list hg wa =>
    obtain ⟨ts, rfl, hl⟩ := well_ints wa
    exact ⟨_, _, 0, rfl, hg, rep_ints ns ts hl⟩

theorem good_end {c : ClaimW} {cl : Str → Option Addr} {mean : ExcName → Option Value} {args : List WData} {s₁ s' : Shared} {v : Value} (hn : ∀ cls, c.raises args cls = false) (hp : c.post args (.bool true) args = true) (hg : s₁.gens = #[])
    (f : Fin' s₁.heap noOwn s₁ (W₀ s₁) (VP fun d _ => d = .bool true) v s') : GoodWG c cl mean args s₁ (.ok (.ret v)) s' := by
  obtain ⟨W', x, S, d, rd, rfl⟩ := f
  have e : v = .bool true := rd
  subst e
  refine GoodW.toG ⟨.inl ⟨.bool true, .bool true, [], rfl, hn, .bool true, hp, unshared_nil⟩, fun b o e => x.keep b o e (fun n q => by cases q) (fun q => q.elim), x.rest.2.1, x.rest.1.trans hg⟩
end Mine
end

section
set_option autoImplicit false
set_option Elab.async false
set_option maxRecDepth 100000
set_option maxHeartbeats 8000000
namespace Mine
open PySem PySem.W PySem.Calls PyProof.Rows PySem.Challenge
theorem kd_rec (p : Program) (i : Nat) : kdOf p i = fun x => (recOf p i).scope.names.lookup x := by
  unfold kdOf recOf
  generalize p.main.body[i]? = o
  cases o with
  | none => rfl
  | some st => cases st <;> rfl
theorem body_rec (p : Program) (i : Nat) : bodyOf p i = (recOf p i).body := by
  unfold bodyOf recOf
  generalize p.main.body[i]? = o
  cases o with
  | none => rfl
  | some st => cases st <;> rfl

theorem call_rec {prog : Program} {w : World} {h₀ : Heap} {Γ : Ctx} {mt : Str → Bool} {k : Nat} {v : Value} {params : List Str} {p : Program} {i : Nat} (n : Nat) (C : CtxOK prog w h₀ k Γ) (hlim : h₀.NoLimit) (f : FnAt h₀ v params (recOf p i).body (recOf p i).scope)
    (sc : ScopeFn (recOf p i).scope params) : CallOK prog w h₀ (k + 1) (wFn Γ mt n (kdOf p i) params (bodyOf p i)) v := by
  rw [kd_rec, body_rec]
  exact fn_sound n C hlim f sc

noncomputable def BindOK (d : DefRec) (params : List Str) : Prop := ∀ (pm code doc : Value) (vs : List Value), vs.length = params.length → bindArgs (docDef d.name d.params d.body d.scope pm code doc) ⟨vs, []⟩ = pure (params.zip vs)
end Mine
open PySem PySem.W PyProof.Rows
theorem Mine.hbl {p : Program} {loose : List Str} {mean : ExcName → Option Value} {mg mb : Str → Option Value} {h : Heap} (T : Top p loose mean mg mb h)
    (hd : ∀ x : Str, x ∈ Mine.bltNames.map (·.1) → x ≠ "__name__" ∧ x ∉ startupNames ∧ x ∉ loose ∧ x ∉ (recsOf p).map (·.name) ∧ x ∉ (litsOf p).map (·.1) ∧ x ∉ (clssOf p loose).map (·.name))
    (hv : ∀ x v, (x, v) ∈ Mine.bltNames → bootBuiltins x = some v) : ∀ x v, (x, v) ∈ Mine.bltNames → mg x = none ∧ mb x = some v := fun x v hm => by
  obtain ⟨h0, h1, h2, h3, h4, h5⟩ := hd x (List.mem_map.mpr ⟨_, hm, rfl⟩)
  exact Mine.blt_top T h0 h1 h2 h3 h4 h5 (hv x v hm)
theorem Mine.boots : ∀ x v, (x, v) ∈ Mine.bltNames → bootBuiltins x = some v := by
  intro x v h
  simp only [Mine.bltNames, List.mem_cons, Prod.mk.injEq, List.not_mem_nil, or_false] at h
  rcases h with ⟨rfl, rfl⟩ | ⟨rfl, rfl⟩ | ⟨rfl, rfl⟩ | ⟨rfl, rfl⟩ | ⟨rfl, rfl⟩ | ⟨rfl, rfl⟩ | ⟨rfl, rfl⟩ | ⟨rfl, rfl⟩ | ⟨rfl, rfl⟩ | ⟨rfl, rfl⟩ | ⟨rfl, rfl⟩ | ⟨rfl, rfl⟩ <;> kernel_rfl
end

section
set_option autoImplicit false
set_option Elab.async false
set_option maxRecDepth 100000
set_option maxHeartbeats 8000000
namespace Mine
open PySem PySem.W PySem.Calls PyProof.Rows PySem.Challenge
noncomputable abbrev pw7 := PySem.Challenge.pw_uf010033_07
noncomputable abbrev nof : Str → Bool := fun _ => false
noncomputable def fnOf (Γ : Ctx) (x : Str) : Option FSpec :=
  if x = "least_of" then some (wFn Γ nof 60 (kdOf pw7 1) ["one", "stretch"] (bodyOf pw7 1)) else
  if x = "cut_at" then some (wFn Γ nof 60 (kdOf pw7 2) ["stretch", "box", "at"] (bodyOf pw7 2)) else
  if x = "widest" then some (wFn Γ nof 60 (kdOf pw7 3) ["stretch"] (bodyOf pw7 3)) else
  if x = "tried" then some (wFn Γ nof 60 (kdOf pw7 4) ["stretch", "some"] (bodyOf pw7 4)) else
  if x = "is_whole" then some (wFn Γ nof 60 (kdOf pw7 5) ["thing"] (bodyOf pw7 5)) else
  if x = "is_tree" then some (wFn Γ nof 60 (kdOf pw7 6) ["stretch", "some", "tree"] (bodyOf pw7 6)) else
  if x = "_law_at" then some (wFn Γ nof 60 (kdOf pw7 8) ["_law_script", "_law_k"] (bodyOf pw7 8)) else
  if x = "_law_whole" then some (wFn Γ nof 60 (kdOf pw7 9) ["_law_thing"] (bodyOf pw7 9)) else
  if x = "_law_value" then some (wFn Γ nof 60 (kdOf pw7 10) ["_law_one", "_law_filling"] (bodyOf pw7 10)) else
  if x = "_law_unit" then some (wFn Γ mtNum 60 (kdOf pw7 12) ["_law_many", "_law_box", "_law_number", "_law_more"] (bodyOf pw7 12)) else
  if x = "_law_word" then some (wFn Γ mtNum 60 (kdOf pw7 13) ["_law_cell", "_law_many"] (bodyOf pw7 13)) else
  if x = "_law_least" then some (wFn Γ nof 60 (kdOf pw7 18) ["_law_one", "_law_stretch_here"] (bodyOf pw7 18)) else
  if x = "_law_is_tree" then some (wFn Γ nof 60 (kdOf pw7 19) ["_law_stretch_here", "_law_some", "_law_tree"] (bodyOf pw7 19)) else
  if x = "_law_stretch" then some (wFn Γ mtFound 60 (kdOf pw7 20) ["_law_script"] (bodyOf pw7 20)) else
  if x = "_law_all_in" then some (wFn Γ nof 60 (kdOf pw7 21) ["_law_stretch_here"] (bodyOf pw7 21)) else
  if x = "_law_holds" then some (wFn Γ nof 60 (kdOf pw7 22) ["_law_some", "_law_filling"] (bodyOf pw7 22)) else
  if x = "_law_changed" then some (wFn Γ nof 60 (kdOf pw7 23) ["_law_tree", "_law_cells"] (bodyOf pw7 23)) else
  if x = "_law_trees_right" then some (wFn Γ nof 60 (kdOf pw7 24) ["_law_stretch_here", "_law_some", "_law_tree", "_law_script"] (bodyOf pw7 24)) else
  none
noncomputable def Γk : Nat → Ctx
  | 0 => Γ0
  | k + 1 => ⟨fnOf (Γk k), glT⟩
theorem n_len (k : Nat) : (Γk k).fn "len" = none := by cases k <;> rfl
theorem n_range (k : Nat) : (Γk k).fn "range" = none := by cases k <;> rfl
theorem n_isinstance (k : Nat) : (Γk k).fn "isinstance" = none := by cases k <;> rfl
theorem n_list (k : Nat) : (Γk k).fn "list" = none := by cases k <;> rfl
theorem n_tuple (k : Nat) : (Γk k).fn "tuple" = none := by cases k <;> rfl
theorem n_zip (k : Nat) : (Γk k).fn "zip" = none := by cases k <;> rfl
theorem n_enumerate (k : Nat) : (Γk k).fn "enumerate" = none := by cases k <;> rfl
theorem n_min (k : Nat) : (Γk k).fn "min" = none := by cases k <;> rfl
theorem n_max (k : Nat) : (Γk k).fn "max" = none := by cases k <;> rfl
theorem g_int (k : Nat) : (Γk k).gl "int" = some (.val (.type "int")) := by cases k <;> rfl
theorem g_bool (k : Nat) : (Γk k).gl "bool" = some (.val (.type "bool")) := by cases k <;> rfl
theorem g_tuple (k : Nat) : (Γk k).gl "tuple" = some (.val (.type "tuple")) := by cases k <;> rfl
theorem g_list (k : Nat) : (Γk k).gl "list" = some (.val (.type "list")) := by cases k <;> rfl
theorem h_least (k : Nat) : Has (Γk (k + 1)) "least_of" SpLeast := ⟨_, rfl, least_ok (n_zip k) (n_min k)⟩
theorem h_cut (k : Nat) : Has (Γk (k + 1)) "cut_at" SpCut := ⟨_, rfl, cut_ok⟩
theorem h_widest (k : Nat) : Has (Γk (k + 1)) "widest" SpWidest := ⟨_, rfl, widest_ok (n_max k)⟩
theorem h_whole (k : Nat) : Has (Γk (k + 1)) "is_whole" SpWhole := ⟨_, rfl, whole_ok (n_isinstance k) (g_int k) (g_bool k)⟩
theorem h_at (k : Nat) : Has (Γk (k + 1)) "_law_at" SpAt := ⟨_, rfl, at_ok (n_len k)⟩
theorem h_lwhole (k : Nat) : Has (Γk (k + 1)) "_law_whole" SpWhole := ⟨_, rfl, lwhole_ok (n_isinstance k) (g_int k) (g_bool k)⟩
theorem h_value (k : Nat) : Has (Γk (k + 1)) "_law_value" SpValue := ⟨_, rfl, lvalue_ok (n_len k) (n_range k)⟩
theorem h_unit (k : Nat) : Has (Γk (k + 1)) "_law_unit" SpUnit := ⟨_, rfl, unit_ok (n_tuple k)⟩
theorem h_lleast (k : Nat) : Has (Γk (k + 1)) "_law_least" SpLLeast := ⟨_, rfl, lleast_ok (n_len k) (n_range k) (n_min k)⟩
theorem h_allin (k : Nat) : Has (Γk (k + 1)) "_law_all_in" SpAllIn := ⟨_, rfl, allIn_ok (n_range k)⟩
theorem h_word (k : Nat) : Has (Γk (k + 2)) "_law_word" SpWord := ⟨_, rfl, word_ok (n_list (k + 1)) (n_tuple (k + 1)) (n_range (k + 1)) (h_unit k)⟩
theorem h_stretch (k : Nat) : Has (Γk (k + 2)) "_law_stretch" SpStretch := ⟨_, rfl, stretch_ok (n_range (k + 1)) (h_at k)⟩
theorem h_holds (k : Nat) : Has (Γk (k + 2)) "_law_holds" SpHolds := ⟨_, rfl, holds_ok (h_value k)⟩
theorem h_tried : ∀ (k j : Nat), k ≤ j → Has (Γk (j + 2)) "tried" (SpTried (k + 1))
  | 0, j, _ => ⟨_, rfl, tried_ok (n_enumerate (j + 1)) (n_list (j + 1)) (h_least j) (h_widest j) (h_cut j) fun h => absurd h (Nat.lt_irrefl _)⟩
  | k + 1, j + 1, h => ⟨_, rfl, tried_ok (n_enumerate (j + 1 + 1)) (n_list (j + 1 + 1)) (h_least (j + 1)) (h_widest (j + 1)) (h_cut (j + 1)) fun _ => h_tried k j (Nat.le_of_succ_le_succ h)⟩
theorem h_tree : ∀ (k j : Nat), k ≤ j → Has (Γk (j + 2)) "is_tree" (SpTree (k + 1))
  | 0, j, _ => ⟨_, rfl, isTree_ok (n_isinstance (j + 1)) (n_len (j + 1)) (n_list (j + 1)) (g_tuple (j + 1)) (h_least j) (h_whole j) (h_cut j) fun h => absurd h (Nat.lt_irrefl _)⟩
  | k + 1, j + 1, h => ⟨_, rfl, isTree_ok (n_isinstance (j + 1 + 1)) (n_len (j + 1 + 1)) (n_list (j + 1 + 1)) (g_tuple (j + 1 + 1)) (h_least (j + 1)) (h_whole (j + 1)) (h_cut (j + 1)) fun _ => h_tree k j (Nat.le_of_succ_le_succ h)⟩
theorem h_ltree : ∀ (k j : Nat), k ≤ j → Has (Γk (j + 2)) "_law_is_tree" (SpTree (k + 1))
  | 0, j, _ => ⟨_, rfl, lisTree_ok (n_isinstance (j + 1)) (n_len (j + 1)) (g_tuple (j + 1)) (h_lleast j) (h_lwhole j) fun h => absurd h (Nat.lt_irrefl _)⟩
  | k + 1, j + 1, h => ⟨_, rfl, lisTree_ok (n_isinstance (j + 1 + 1)) (n_len (j + 1 + 1)) (g_tuple (j + 1 + 1)) (h_lleast (j + 1)) (h_lwhole (j + 1)) fun _ => h_ltree k j (Nat.le_of_succ_le_succ h)⟩
theorem h_changed : ∀ (k j : Nat), k ≤ j → Has (Γk (j + 2)) "_law_changed" (SpChanged (k + 1))
  | 0, j, _ => ⟨_, rfl, changed_ok (n_len (j + 1)) fun h => absurd h (Nat.lt_irrefl _)⟩
  | k + 1, j + 1, h => ⟨_, rfl, changed_ok (n_len (j + 1 + 1)) fun _ => h_changed k j (Nat.le_of_succ_le_succ h)⟩
theorem h_right : Has (Γk 46) "_law_trees_right" SpRight := ⟨_, rfl, right_ok (n_range 45) (n_list 45) (n_isinstance 45) (g_bool 45) (h_at 44) (h_changed 4 43 (by decide)) (h_tree 43 43 (by decide)) (h_ltree 43 43 (by decide))⟩
theorem fn7 : Fn7 (Γk 46) where
  b1 := n_len 46
  b2 := n_range 46
  b3 := n_isinstance 46
  g1 := g_tuple 46
  g2 := g_list 46
  S := h_stretch 44
  A := h_at 45
  Wo := h_word 44
  Al := h_allin 45
  Ho := h_holds 44
  T := h_tried 42 44 (by decide)
  U := h_ltree 43 44 (by decide)
  R := h_right
end Mine
end

section
set_option autoImplicit false
set_option Elab.async false
set_option maxRecDepth 100000
set_option maxHeartbeats 8000000
namespace Mine
open PySem PySem.W PySem.Calls PyProof.Rows PySem.Challenge
theorem sc1 : ScopeFn (recOf pw7 1).scope ["one", "stretch"] := by unfold ScopeFn; decide +kernel
theorem sc2 : ScopeFn (recOf pw7 2).scope ["stretch", "box", "at"] := by unfold ScopeFn; decide +kernel
theorem sc3 : ScopeFn (recOf pw7 3).scope ["stretch"] := by unfold ScopeFn; decide +kernel
theorem sc4 : ScopeFn (recOf pw7 4).scope ["stretch", "some"] := by unfold ScopeFn; decide +kernel
theorem sc5 : ScopeFn (recOf pw7 5).scope ["thing"] := by unfold ScopeFn; decide +kernel
theorem sc6 : ScopeFn (recOf pw7 6).scope ["stretch", "some", "tree"] := by unfold ScopeFn; decide +kernel
theorem sc8 : ScopeFn (recOf pw7 8).scope ["_law_script", "_law_k"] := by unfold ScopeFn; decide +kernel
theorem sc9 : ScopeFn (recOf pw7 9).scope ["_law_thing"] := by unfold ScopeFn; decide +kernel
theorem sc10 : ScopeFn (recOf pw7 10).scope ["_law_one", "_law_filling"] := by unfold ScopeFn; decide +kernel
theorem sc12 : ScopeFn (recOf pw7 12).scope ["_law_many", "_law_box", "_law_number", "_law_more"] := by unfold ScopeFn; decide +kernel
theorem sc13 : ScopeFn (recOf pw7 13).scope ["_law_cell", "_law_many"] := by unfold ScopeFn; decide +kernel
theorem sc18 : ScopeFn (recOf pw7 18).scope ["_law_one", "_law_stretch_here"] := by unfold ScopeFn; decide +kernel
theorem sc19 : ScopeFn (recOf pw7 19).scope ["_law_stretch_here", "_law_some", "_law_tree"] := by unfold ScopeFn; decide +kernel
theorem sc20 : ScopeFn (recOf pw7 20).scope ["_law_script"] := by unfold ScopeFn; decide +kernel
theorem sc21 : ScopeFn (recOf pw7 21).scope ["_law_stretch_here"] := by unfold ScopeFn; decide +kernel
theorem sc22 : ScopeFn (recOf pw7 22).scope ["_law_some", "_law_filling"] := by unfold ScopeFn; decide +kernel
theorem sc23 : ScopeFn (recOf pw7 23).scope ["_law_tree", "_law_cells"] := by unfold ScopeFn; decide +kernel
theorem sc24 : ScopeFn (recOf pw7 24).scope ["_law_stretch_here", "_law_some", "_law_tree", "_law_script"] := by unfold ScopeFn; decide +kernel
theorem sc25 : ScopeFn (recOf pw7 25).scope ["_law_script"] := by unfold ScopeFn; decide +kernel
theorem len1 {α : Type} {vs : List α} (h : vs.length = 1) : ∃ a, vs = [a] := by
  cases vs with
  | nil => cases h
  | cons a r => cases r with
    | nil => exact ⟨a, rfl⟩
    | cons _ _ => cases h
theorem lenS {α : Type} {vs : List α} {n : Nat} (h : vs.length = n + 1) : ∃ a r, vs = a :: r ∧ r.length = n := by
  cases vs with
  | nil => cases h
  | cons a r => exact ⟨a, r, rfl, Nat.succ.inj h⟩
theorem len2 {α : Type} {vs : List α} (h : vs.length = 2) : ∃ a b, vs = [a, b] := by
  obtain ⟨a, r, rfl, h1⟩ := lenS h; obtain ⟨b, rfl⟩ := len1 h1; exact ⟨a, b, rfl⟩
theorem len3 {α : Type} {vs : List α} (h : vs.length = 3) : ∃ a b c, vs = [a, b, c] := by
  obtain ⟨a, r, rfl, h1⟩ := lenS h; obtain ⟨b, c, rfl⟩ := len2 h1; exact ⟨a, b, c, rfl⟩
theorem len4 {α : Type} {vs : List α} (h : vs.length = 4) : ∃ a b c d, vs = [a, b, c, d] := by
  obtain ⟨a, r, rfl, h1⟩ := lenS h; obtain ⟨b, c, d, rfl⟩ := len3 h1; exact ⟨a, b, c, d, rfl⟩
theorem bd1 : BindOK (recOf pw7 1) ["one", "stretch"] := by
  intro pm code doc vs h
  obtain ⟨a, b, rfl⟩ := len2 h
  kernel_rfl
theorem bd2 : BindOK (recOf pw7 2) ["stretch", "box", "at"] := by
  intro pm code doc vs h
  obtain ⟨a, b, c, rfl⟩ := len3 h
  kernel_rfl
theorem bd3 : BindOK (recOf pw7 3) ["stretch"] := by
  intro pm code doc vs h
  obtain ⟨a, rfl⟩ := len1 h
  kernel_rfl
theorem bd4 : BindOK (recOf pw7 4) ["stretch", "some"] := by
  intro pm code doc vs h
  obtain ⟨a, b, rfl⟩ := len2 h
  kernel_rfl
theorem bd5 : BindOK (recOf pw7 5) ["thing"] := by
  intro pm code doc vs h
  obtain ⟨a, rfl⟩ := len1 h
  kernel_rfl
theorem bd6 : BindOK (recOf pw7 6) ["stretch", "some", "tree"] := by
  intro pm code doc vs h
  obtain ⟨a, b, c, rfl⟩ := len3 h
  kernel_rfl
theorem bd8 : BindOK (recOf pw7 8) ["_law_script", "_law_k"] := by
  intro pm code doc vs h
  obtain ⟨a, b, rfl⟩ := len2 h
  kernel_rfl
theorem bd9 : BindOK (recOf pw7 9) ["_law_thing"] := by
  intro pm code doc vs h
  obtain ⟨a, rfl⟩ := len1 h
  kernel_rfl
theorem bd10 : BindOK (recOf pw7 10) ["_law_one", "_law_filling"] := by
  intro pm code doc vs h
  obtain ⟨a, b, rfl⟩ := len2 h
  kernel_rfl
theorem bd12 : BindOK (recOf pw7 12) ["_law_many", "_law_box", "_law_number", "_law_more"] := by
  intro pm code doc vs h
  obtain ⟨a, b, c, d, rfl⟩ := len4 h
  kernel_rfl
theorem bd13 : BindOK (recOf pw7 13) ["_law_cell", "_law_many"] := by
  intro pm code doc vs h
  obtain ⟨a, b, rfl⟩ := len2 h
  kernel_rfl
theorem bd18 : BindOK (recOf pw7 18) ["_law_one", "_law_stretch_here"] := by
  intro pm code doc vs h
  obtain ⟨a, b, rfl⟩ := len2 h
  kernel_rfl
theorem bd19 : BindOK (recOf pw7 19) ["_law_stretch_here", "_law_some", "_law_tree"] := by
  intro pm code doc vs h
  obtain ⟨a, b, c, rfl⟩ := len3 h
  kernel_rfl
theorem bd20 : BindOK (recOf pw7 20) ["_law_script"] := by
  intro pm code doc vs h
  obtain ⟨a, rfl⟩ := len1 h
  kernel_rfl
theorem bd21 : BindOK (recOf pw7 21) ["_law_stretch_here"] := by
  intro pm code doc vs h
  obtain ⟨a, rfl⟩ := len1 h
  kernel_rfl
theorem bd22 : BindOK (recOf pw7 22) ["_law_some", "_law_filling"] := by
  intro pm code doc vs h
  obtain ⟨a, b, rfl⟩ := len2 h
  kernel_rfl
theorem bd23 : BindOK (recOf pw7 23) ["_law_tree", "_law_cells"] := by
  intro pm code doc vs h
  obtain ⟨a, b, rfl⟩ := len2 h
  kernel_rfl
theorem bd24 : BindOK (recOf pw7 24) ["_law_stretch_here", "_law_some", "_law_tree", "_law_script"] := by
  intro pm code doc vs h
  obtain ⟨a, b, c, d, rfl⟩ := len4 h
  kernel_rfl
theorem bd25 : BindOK (recOf pw7 25) ["_law_script"] := by
  intro pm code doc vs h
  obtain ⟨a, rfl⟩ := len1 h
  kernel_rfl
noncomputable def RecsAt (p : Program) : Prop := (recsOf p)[0]? = some (recOf pw7 1) ∧ (recsOf p)[1]? = some (recOf pw7 2) ∧ (recsOf p)[2]? = some (recOf pw7 3) ∧ (recsOf p)[3]? = some (recOf pw7 4) ∧ (recsOf p)[4]? = some (recOf pw7 5) ∧ (recsOf p)[5]? = some (recOf pw7 6) ∧ (recsOf p)[6]? = some (recOf pw7 8) ∧ (recsOf p)[7]? = some (recOf pw7 9) ∧ (recsOf p)[8]? = some (recOf pw7 10) ∧ (recsOf p)[10]? = some (recOf pw7 12) ∧ (recsOf p)[11]? = some (recOf pw7 13) ∧ (recsOf p)[16]? = some (recOf pw7 18) ∧ (recsOf p)[17]? = some (recOf pw7 19) ∧ (recsOf p)[18]? = some (recOf pw7 20) ∧ (recsOf p)[19]? = some (recOf pw7 21) ∧ (recsOf p)[20]? = some (recOf pw7 22) ∧ (recsOf p)[21]? = some (recOf pw7 23) ∧ (recsOf p)[22]? = some (recOf pw7 24) ∧ (recsOf p)[23]? = some (recOf pw7 25)
section
variable {p : Program} {loose : List Str} {mean : ExcName → Option Value} {mg mb : Str → Option Value} {s : Shared} {prog : Program} {w : World}
theorem ctx_all (T : Top p loose mean mg mb s.heap) (hb : ∀ x v, (x, v) ∈ bltNames → mg x = none ∧ mb x = some v) (hr : RecsAt p) : ∀ k, CtxOK prog w s.heap k (Γk k) := by
  intro k
  induction k with
  | zero => exact ctx_of T.g T.b hb rfl fun x S h => by cases h
  | succ k C =>
    refine ctx_of T.g T.b hb rfl fun x S h => ?_
    obtain ⟨r1, r2, r3, r4, r5, r6, r8, r9, r10, r12, r13, r18, r19, r20, r21, r22, r23, r24, r25⟩ := hr
    rcases ite_mem h with ⟨rfl, rfl⟩ | h
    · obtain ⟨v, n, f⟩ := fnAt_top T r1 _ bd1
      exact ⟨v, n, call_rec 60 C T.nolimit f sc1⟩
    rcases ite_mem h with ⟨rfl, rfl⟩ | h
    · obtain ⟨v, n, f⟩ := fnAt_top T r2 _ bd2
      exact ⟨v, n, call_rec 60 C T.nolimit f sc2⟩
    rcases ite_mem h with ⟨rfl, rfl⟩ | h
    · obtain ⟨v, n, f⟩ := fnAt_top T r3 _ bd3
      exact ⟨v, n, call_rec 60 C T.nolimit f sc3⟩
    rcases ite_mem h with ⟨rfl, rfl⟩ | h
    · obtain ⟨v, n, f⟩ := fnAt_top T r4 _ bd4
      exact ⟨v, n, call_rec 60 C T.nolimit f sc4⟩
    rcases ite_mem h with ⟨rfl, rfl⟩ | h
    · obtain ⟨v, n, f⟩ := fnAt_top T r5 _ bd5
      exact ⟨v, n, call_rec 60 C T.nolimit f sc5⟩
    rcases ite_mem h with ⟨rfl, rfl⟩ | h
    · obtain ⟨v, n, f⟩ := fnAt_top T r6 _ bd6
      exact ⟨v, n, call_rec 60 C T.nolimit f sc6⟩
    rcases ite_mem h with ⟨rfl, rfl⟩ | h
    · obtain ⟨v, n, f⟩ := fnAt_top T r8 _ bd8
      exact ⟨v, n, call_rec 60 C T.nolimit f sc8⟩
    rcases ite_mem h with ⟨rfl, rfl⟩ | h
    · obtain ⟨v, n, f⟩ := fnAt_top T r9 _ bd9
      exact ⟨v, n, call_rec 60 C T.nolimit f sc9⟩
    rcases ite_mem h with ⟨rfl, rfl⟩ | h
    · obtain ⟨v, n, f⟩ := fnAt_top T r10 _ bd10
      exact ⟨v, n, call_rec 60 C T.nolimit f sc10⟩
    rcases ite_mem h with ⟨rfl, rfl⟩ | h
    · obtain ⟨v, n, f⟩ := fnAt_top T r12 _ bd12
      exact ⟨v, n, call_rec 60 C T.nolimit f sc12⟩
    rcases ite_mem h with ⟨rfl, rfl⟩ | h
    · obtain ⟨v, n, f⟩ := fnAt_top T r13 _ bd13
      exact ⟨v, n, call_rec 60 C T.nolimit f sc13⟩
    rcases ite_mem h with ⟨rfl, rfl⟩ | h
    · obtain ⟨v, n, f⟩ := fnAt_top T r18 _ bd18
      exact ⟨v, n, call_rec 60 C T.nolimit f sc18⟩
    rcases ite_mem h with ⟨rfl, rfl⟩ | h
    · obtain ⟨v, n, f⟩ := fnAt_top T r19 _ bd19
      exact ⟨v, n, call_rec 60 C T.nolimit f sc19⟩
    rcases ite_mem h with ⟨rfl, rfl⟩ | h
    · obtain ⟨v, n, f⟩ := fnAt_top T r20 _ bd20
      exact ⟨v, n, call_rec 60 C T.nolimit f sc20⟩
    rcases ite_mem h with ⟨rfl, rfl⟩ | h
    · obtain ⟨v, n, f⟩ := fnAt_top T r21 _ bd21
      exact ⟨v, n, call_rec 60 C T.nolimit f sc21⟩
    rcases ite_mem h with ⟨rfl, rfl⟩ | h
    · obtain ⟨v, n, f⟩ := fnAt_top T r22 _ bd22
      exact ⟨v, n, call_rec 60 C T.nolimit f sc22⟩
    rcases ite_mem h with ⟨rfl, rfl⟩ | h
    · obtain ⟨v, n, f⟩ := fnAt_top T r23 _ bd23
      exact ⟨v, n, call_rec 60 C T.nolimit f sc23⟩
    rcases ite_mem h with ⟨rfl, rfl⟩ | h
    · obtain ⟨v, n, f⟩ := fnAt_top T r24 _ bd24
      exact ⟨v, n, call_rec 60 C T.nolimit f sc24⟩
    cases h
theorem law_call (T : Top p loose mean mg mb s.heap) (hb : ∀ x v, (x, v) ∈ bltNames → mg x = none ∧ mb x = some v) (hr : RecsAt p)
    {v : Value} (hv : mg "law" = some v) (sc : List Int) (hsc : sc.length ≤ 1000) {u : Value} (hu : Rep (W₀ s).R (W₀ s).ρ (.list (sc.map .int)) u) :
    codeAny (model prog w) callerA (.call v ⟨[u], []⟩) (fun r s' => match r with | .ok (.ret u) => Fin' s.heap noOwn s (W₀ s) (VP fun d _ => d = .bool true) u s' | .ok _ => False | .error e => E0 e s') s := by
  have C : CtxOK prog w s.heap 46 (Γk 46) := ctx_all T hb hr 46
  obtain ⟨-, -, -, -, -, -, -, -, -, -, -, -, -, -, -, -, -, -, r25⟩ := hr
  obtain ⟨v25, n25, f25⟩ := fnAt_top T r25 _ bd25
  have e25 : mg "law" = some v25 := n25
  rw [e25] at hv; cases hv
  refine fn_code (mt := mtH) 60 C T.nolimit f25 sc25 callerA (W₀ s) s [.list (sc.map .int)] [u] _ ⟨rfl, by decide, by decide⟩ (sim₀ s) (RepAll.one hu) ?_
  rw [← kd_rec, ← body_rec]
  exact law_ok fn7 sc _ _ ⟨fun _ _ => rfl, fun _ _ e => by cases e⟩ hsc rfl
end
end Mine
end

section
set_option autoImplicit false
set_option Elab.async false
set_option maxRecDepth 100000
set_option maxHeartbeats 8000000
open PySem PySem.W PyProof.Rows

theorem PySem.Challenge.cw_uf010033_07_holds : PySem.Challenge.rw_uf010033_07.Holds := by
  w_on; o_law; o_head Hook.none; (case hw => w_witness2)
  intro w s₀ s₁ mg mb G Y fa o pm cd doc dV kV ho hd hcd hD hmg hg args vals as hpre hlay hrd hwl hlo
  refine Ground.open G ?_
  intro T B D TE TW
  try (refine guard_noD D (by decide +kernel) ?_; clear D)
  wrow_args hpre hlay hrd hwl hlo
  all_goals (first | refine callC_kw (enter_call ?_) | refine enter_call ?_)
  clear hd hcd hD
  rename Well _ _ _ _ => wl
  have hb := Mine.hbl T (by decide +kernel) Mine.boots
  refine codeAny_mono (Mine.law_call T hb ⟨by kernel_rfl, by kernel_rfl, by kernel_rfl, by kernel_rfl, by kernel_rfl, by kernel_rfl, by kernel_rfl, by kernel_rfl, by kernel_rfl, by kernel_rfl, by kernel_rfl, by kernel_rfl, by kernel_rfl, by kernel_rfl, by kernel_rfl, by kernel_rfl, by kernel_rfl, by kernel_rfl, by kernel_rfl⟩ hmg _ ?_ (Mine.rep_script wl)) (fun r s' h => ?_)
  · rename_i h63 _
    omega
  · cases r with
    | error e => exact h.elim
    | ok f =>
      cases f with
      | ret u => exact Mine.good_end (raisesW_false (by wrow_none_raised)) (by first | rfl | exact postW_of (by wrow_shape) (by wtm_val) (by str_meet; first | done | w_fin)) hg h
      | next => exact h.elim
      | brk => exact h.elim
      | cont => exact h.elim
end
