import PyProof.Rows.All
import Wide.All
import OpenK.AllK
import Wide.FinOn
import PyProof.Rules3
import PyProof.SliceMore
import PyProof.P3Statements
import PyProof.Lay0
import PyProof.Cells
import PyProof.DefCall
import PyProof.PureInt
import PyProof.AutoIntOpsIf
import PyProof.TupleOps
import PyProof.ListOps
import PyProof.ListMulRoad
import PyProof.AutoListH
import PyProof.IsiPairs
import PyProof.IsiHeapPairs
import PyProof.P3Eq
import PyProof.NeData
import PyProof.IsRules
import PyProof.TupleCall
import PyProof.TupleOfSeq
import PyProof.ListCopy
import PyProof.Rows.Tup
import PyProof.Rows.ListMul
import PyProof.Rows.StrRules
import PyProof.Methods
import PyProof.ListIndex
import PyProof.MakeMany
import PyProof.Rows.Nodes
import PyProof.Rows.StrTemp
import PyProof.Rows.AssignMoreSeq
import PyProof.Rows.NewsSeq
import PyProof.Rows.SumAny
import PyProof.WalkInts
import PyProof.EqAt
import PyProof.CallType
import KE.KItem
import PyProof.CallRoads
import PyProof.FactsAll.list_0
import PyProof.FactsAll.list_3
import PyProof.MeetsSeq
import PyProof.ZipIter
import PyProof.WalksMore
import PyProof.EnumMake
import PyProof.RangeFor
import PyProof.EnumFor
import PyProof.Rows.ListUnroll
import PyProof.Rows.LoopUnroll
import KE.KTurns
import PyProof.CompFree
import PyProof.Rows.TupAssign
import PyProof.Rows.NameDeclared
import PyProof.Rows.Globals
import PyProof.Rows.TupMore
import PyProof.Rows.IntMath
import PyProof.FitsBits
import Lean
import PySem.Challenge.RW_uf010033_01
set_option Elab.async false
section
set_option autoImplicit false
namespace Mine
open PySem

theorem ofString_inj {a b : String} : Str.ofString a = Str.ofString b ↔ a = b := by
  constructor
  · intro h
    rw [Str.ofString_eq_toList, Str.ofString_eq_toList] at h
    have h1 : a.toList.map Char.toNat = b.toList.map Char.toNat := by
      have := congrArg (fun s : Str => s.cps.toList) h
      simpa using this
    have h2 : a.toList = b.toList := by
      refine List.map_inj_right ?_ |>.mp h1
      intro x y e
      exact Char.ext (UInt32.toNat_inj.mp e)
    exact String.toList_inj.mp h2
  · rintro rfl; rfl

/-- Abstract values. -/
inductive D where
  | none
  | bool (b : Bool)
  | int (i : Int)
  | str (x : Str)
  | tup (ds : List D)
  | list (ds : List D)
  | loc (n : Nat)
  | val (v : Value)
  deriving Inhabited

inductive Cell where
  | list (ds : List D)
  | dict (es : List (Str × D))

structure St where
  hi : Nat
  cs : Nat → Option Cell

noncomputable def St.alloc (st : St) (c : Cell) : St := ⟨st.hi + 1, fun n => if n = st.hi then some c else st.cs n⟩
noncomputable def St.put (st : St) (n : Nat) (c : Cell) : St := ⟨st.hi, fun k => if k = n then some c else st.cs k⟩
noncomputable def St.hide (st : St) (p : Nat → Bool) : St := ⟨st.hi, fun k => if p k then none else st.cs k⟩
noncomputable def St.back (st old : St) (p : Nat → Bool) : St := ⟨st.hi, fun k => if p k then old.cs k else st.cs k⟩

noncomputable def lim : Nat := 1000000

mutual
noncomputable def D.undr (hi : Nat) : D → Bool
  | .tup ds => undrAll hi ds
  | .list ds => undrAll hi ds
  | .loc n => decide (n < hi)
  | _ => true
noncomputable def undrAll (hi : Nat) : List D → Bool
  | [] => true
  | d :: ds => D.undr hi d && undrAll hi ds
end
noncomputable def Cell.undr (hi : Nat) : Cell → Bool
  | .list ds => undrAll hi ds
  | .dict es => undrAll hi (es.map (·.2))

mutual
noncomputable def D.py : D → Option PyData
  | .none => some .none
  | .bool b => some (.bool b)
  | .int i => some (.int i)
  | .str x => if PyData.strOk x then some (.str x) else none
  | .tup ds => (pys ds).map .tuple
  | .list ds => (pys ds).map .list
  | .loc _ => none
  | .val _ => none
noncomputable def pys : List D → Option (List PyData)
  | [] => some []
  | d :: ds => match D.py d, pys ds with
    | some x, some xs => some (x :: xs)
    | _, _ => none
end

noncomputable def pyD (st : St) : Nat → D → Option PyData
  | 0, d => d.py
  | k + 1, d => match d with
    | .loc n => (match st.cs n with
      | some (.list ds) => (ds.mapM (pyD st k)).map .list
      | _ => none)
    | .tup ds => (match D.py (.tup ds) with
      | some x => some x
      | none => (ds.mapM (pyD st k)).map .tuple)
    | .list ds => (match D.py (.list ds) with
      | some x => some x
      | none => (ds.mapM (pyD st k)).map .list)
    | d => d.py

/-- freeze: cells made since `hi` become plain data -/
noncomputable def frz (hi : Nat) (st : St) : Nat → D → Option D
  | 0, d => if d.undr hi then some d else none
  | k + 1, d => match d with
    | .loc n => if n < hi then some (.loc n) else (match st.cs n with
      | some (.list ds) => (ds.mapM (frz hi st k)).map .list
      | _ => none)
    | .tup ds => if undrAll hi ds then some (.tup ds) else (ds.mapM (frz hi st k)).map .tup
    | .list ds => if undrAll hi ds then some (.list ds) else (ds.mapM (frz hi st k)).map .list
    | d => some d

noncomputable def St.cut (st : St) (hi : Nat) : St := ⟨hi, fun n => if n < hi then (match st.cs n with
  | some c => if c.undr hi then some c else none
  | none => none) else none⟩

noncomputable def seqD (st : St) : D → Option (List D)
  | .tup ds => some ds
  | .list ds => some ds
  | .loc n => (match st.cs n with
    | some (.list ds) => some ds
    | _ => none)
  | _ => none
noncomputable def lstD (st : St) : D → Option (List D)
  | .list ds => some ds
  | .loc n => (match st.cs n with
    | some (.list ds) => some ds
    | _ => none)
  | _ => none

noncomputable abbrev Loc := Str → Option D
noncomputable def upd (m : Loc) (x : Str) (d : D) : Loc := fun y => if y = x then some d else m y
noncomputable abbrev Kd := Str → Option NameKind
noncomputable abbrev FSpec := List D → St → (D → St → Prop) → Prop

structure Ctx where
  fn : Str → Option FSpec
  gl : Str → Option D

inductive Fl where
  | next | brk | cont
  | ret (d : D)

noncomputable def mkList (trk : Bool) (ds : List D) (st : St) (Q : D → St → Prop) : Prop :=
  ds.length ≤ lim ∧ (if trk then Q (.loc st.hi) (st.alloc (.list ds)) else Q (.list ds) st)

noncomputable def wAdd (trk : Bool) (a b : D) (st : St) (Q : D → St → Prop) : Prop := match a, b with
  | .int i, .int j => Q (.int (i + j)) st
  | .tup xs, .tup ys => xs.length + ys.length ≤ lim ∧ Q (.tup (xs ++ ys)) st
  | a, b => ∃ xs ys, lstD st a = some xs ∧ lstD st b = some ys ∧ mkList trk (xs ++ ys) st Q

noncomputable def wMul (trk : Bool) (a b : D) (st : St) (Q : D → St → Prop) : Prop := match a, b with
  | .int i, .int j => IntMulOk i j ∧ Q (.int (i * j)) st
  | a, .int n => ∃ xs, lstD st a = some xs ∧ -lim ≤ n ∧ n < lim ∧ xs.length ≤ 1 ∧ mkList trk (List.replicate n.toNat xs).flatten st Q
  | _, _ => False

noncomputable def wBin (trk : Bool) (op : Operator) (a b : D) (st : St) (Q : D → St → Prop) : Prop := match op with
  | .Add => wAdd trk a b st Q
  | .Mult => wMul trk a b st Q
  | .Sub => (match a, b with
    | .int i, .int j => Q (.int (i - j)) st
    | _, _ => False)
  | .FloorDiv => (match a, b with
    | .int i, .int j => 0 < j ∧ j < 2 ^ 30 ∧ Q (.int (i / j)) st
    | _, _ => False)
  | .Mod => (match a, b with
    | .int i, .int j => 0 < j ∧ Q (.int (i % j)) st
    | _, _ => False)
  | .Pow => (match a, b with
    | .int i, .int j => i = 10 ∧ j = 20 ∧ Q (.int (10 ^ 20)) st
    | _, _ => False)
  | _ => False

noncomputable def truth : D → Option Bool
  | .bool b => some b
  | _ => none

noncomputable def deepOk (x y : PyData) : Prop := min x.depth y.depth ≤ 1000

noncomputable def wEq (a b : D) (st : St) (K : Bool → Prop) : Prop := match a, b with
  | .int i, .int j => K (i == j)
  | .str x, .str y => K (x == y)
  | a, b => ∃ x y, pyD st 3 a = some x ∧ pyD st 3 b = some y ∧ deepOk x y ∧ K (PyData.eqv x y)

noncomputable def isNoneD : D → Bool
  | .none => true
  | _ => false
noncomputable def isValD : D → Bool
  | .val _ => true
  | _ => false
noncomputable def wIs (a b : D) (K : Bool → Prop) : Prop := isNoneD b = true ∧ isValD a = false ∧ K (isNoneD a)

noncomputable def wIn (a b : D) (st : St) (K : Bool → Prop) : Prop :=
  ∃ ys x ps, seqD st b = some ys ∧ pyD st 3 a = some x ∧ ys.mapM (pyD st 3) = some ps ∧ x.depth ≤ 1000 ∧ K (ps.any fun y => PyData.eqv y x)

noncomputable def wCmp1 (op : CmpOp) (a b : D) (st : St) (K : Bool → Prop) : Prop := match op with
  | .Eq => wEq a b st K
  | .NotEq => wEq a b st fun r => K (!r)
  | .Lt => (match a, b with
    | .int i, .int j => K (decide (i < j))
    | _, _ => False)
  | .LtE => (match a, b with
    | .int i, .int j => K (decide (i ≤ j))
    | _, _ => False)
  | .Gt => (match a, b with
    | .int i, .int j => K (decide (i > j))
    | _, _ => False)
  | .GtE => (match a, b with
    | .int i, .int j => K (decide (i ≥ j))
    | _, _ => False)
  | .Is => wIs a b K
  | .IsNot => wIs a b fun r => K (!r)
  | .In => wIn a b st K
  | .NotIn => wIn a b st fun r => K (!r)

noncomputable def typeIs : D → String → Option Bool
  | .none, T => if T ∈ ["int", "bool", "tuple", "list", "str"] then some false else none
  | .bool _, T => if T ∈ ["int", "bool"] then some true else if T ∈ ["tuple", "list", "str"] then some false else none
  | .int _, T => if T = "int" then some true else if T ∈ ["bool", "tuple", "list", "str"] then some false else none
  | .str _, T => if T = "str" then some true else if T ∈ ["bool", "tuple", "list", "int"] then some false else none
  | .tup _, T => if T = "tuple" then some true else if T ∈ ["bool", "str", "list", "int"] then some false else none
  | .list _, T => if T = "list" then some true else if T ∈ ["bool", "str", "tuple", "int"] then some false else none
  | _, _ => none

noncomputable def intsD : List D → Option (List Int)
  | [] => some []
  | .int i :: ds => (intsD ds).map (i :: ·)
  | _ => none

noncomputable def wBuiltin (trk : Bool) (f : Str) (ds : List D) (st : St) (Q : D → St → Prop) : Prop :=
  if f = "len" then ∃ d xs, ds = [d] ∧ seqD st d = some xs ∧ xs.length ≤ lim ∧ Q (.int xs.length) st
  else if f = "isinstance" then ∃ d T b, ds = [d, .val (.type T)] ∧ typeIs d T = some b ∧ Q (.bool b) st
  else if f = "list" then ∃ d xs, ds = [d] ∧ seqD st d = some xs ∧ mkList trk xs st Q
  else if f = "tuple" then ∃ d xs, ds = [d] ∧ lstD st d = some xs ∧ xs.length ≤ lim ∧ Q (.tup xs) st
  else if f = "min" then (∃ i j, ds = [.int i, .int j] ∧ Q (.int (min i j)) st) ∨ (∃ d xs is i, ds = [d] ∧ lstD st d = some xs ∧ intsD xs = some is ∧ i ∈ is ∧ (∀ a ∈ is, i ≤ a) ∧ Q (.int i) st)
  else if f = "max" then ∃ d xs is i, ds = [d] ∧ lstD st d = some xs ∧ intsD xs = some is ∧ i ∈ is ∧ (∀ a ∈ is, a ≤ i) ∧ Q (.int i) st
  else if f = "sum" then ∃ d xs is, ds = [d] ∧ lstD st d = some xs ∧ intsD xs = some is ∧ Q (.int is.sum) st
  else False

noncomputable def wMeth (nm : Str) (d : D) (ds : List D) (st : St) (Q : D → St → Prop) : Prop :=
  if nm = "append" then ∃ n x xs, d = .loc n ∧ ds = [x] ∧ st.cs n = some (.list xs) ∧ xs.length ≤ lim ∧ Q .none (st.put n (.list (xs ++ [x])))
  else if nm = "clear" then ∃ n xs, d = .loc n ∧ ds = [] ∧ st.cs n = some (.list xs) ∧ xs.length ≤ lim ∧ Q .none (st.put n (.list []))
  else if nm = "extend" then ∃ n y xs ys, d = .loc n ∧ ds = [y] ∧ st.cs n = some (.list xs) ∧ lstD st y = some ys ∧ xs.length + ys.length ≤ lim ∧ Q .none (st.put n (.list (xs ++ ys)))
  else if nm = "index" then ∃ i xs is, ds = [.int i] ∧ lstD st d = some xs ∧ intsD xs = some is ∧ i ∈ is ∧ xs.length ≤ lim ∧ Q (.int (is.idxOf i)) st
  else False

noncomputable def wItem (d i : D) (st : St) (Q : D → St → Prop) : Prop := match i with
  | .int k => -(2 ^ 62) ≤ k ∧ k < 2 ^ 62 ∧ ∃ xs j x, seqD st d = some xs ∧ (0 ≤ k ∨ lstD st d = none) ∧ seqIndex? k xs.length = some j ∧ xs[j]? = some x ∧ Q x st
  | _ => False

noncomputable def pickL {α : Type} (xs : List α) (lo hi st : Option Int) : List α :=
  (sliceRange (sliceBounds lo hi st xs.length).1 (sliceBounds lo hi st xs.length).2.1 (sliceBounds lo hi st xs.length).2.2).filterMap (xs[·]?)

noncomputable def part : D → Option (Option Int)
  | .none => some none
  | .int i => some (some i)
  | _ => none

noncomputable def wSlice (trk : Bool) (d l u s : D) (st : St) (Q : D → St → Prop) : Prop :=
  ∃ lo hi sp, part l = some lo ∧ part u = some hi ∧ part s = some sp ∧ sp ≠ some 0 ∧
    (match d with
    | .tup xs => sp = none ∧ xs.length ≤ lim ∧ ((∃ a : Nat, lo = some (a : Int) ∧ hi = none ∧ 1 ≤ a ∧ a ≤ xs.length ∧ Q (.tup (xs.drop a)) st) ∨ (∃ b : Nat, lo = none ∧ hi = some (b : Int) ∧ b < xs.length ∧ Q (.tup (xs.take b)) st))
    | d => ∃ xs, lstD st d = some xs ∧ xs.length ≤ lim ∧ mkList trk (pickL xs lo hi sp) st Q)

noncomputable def rangeL (a b : Int) : List D := (List.range (b - a).toNat).map fun i : Nat => .int (a + (i : Int))

/-- what an iterable yields, and the cells it leans on -/
noncomputable def wIterD (d : D) (st : St) (K : List D → (Nat → Bool) → Prop) : Prop := match d with
  | .loc n => ∃ xs, st.cs n = some (.list xs) ∧ K xs (fun k => k == n)
  | d => ∃ xs, seqD st d = some xs ∧ K xs (fun _ => false)
noncomputable def zipL (xs ys : List D) : List D := (xs.zip ys).map fun p => .tup [p.1, p.2]
noncomputable def enumL (xs : List D) : List D := xs.zipIdx.map fun p => .tup [.int (p.2 : Nat), p.1]

noncomputable def wFor (step : D → Loc → St → (Fl → Loc → St → Prop) → Prop) : List D → Loc → St → (Fl → Loc → St → Prop) → Prop
  | [], m, st, Q => Q .next m st
  | d :: ds, m, st, Q => step d m st fun fl m' st' => match fl with
    | .next => wFor step ds m' st' Q
    | .cont => wFor step ds m' st' Q
    | .brk => Q .next m' st'
    | .ret d => Q (.ret d) m' st'

noncomputable def wComp (step : D → St → (Option D → St → Prop) → Prop) : List D → List D → St → (List D → St → Prop) → Prop
  | [], acc, st, Q => Q acc st
  | d :: ds, acc, st, Q => step d st fun r st' => match r with
    | some x => wComp step ds (acc ++ [x]) st' Q
    | none => wComp step ds acc st' Q

noncomputable def isOwn (kd : Kd) (x : Str) : Bool := kd x == some .local || kd x == some .cell
noncomputable def isGl (kd : Kd) (x : Str) : Bool := kd x == some .globalImplicit

/-- plain targets: a name, or a tuple of names -/
noncomputable def tgNames : List Expr → Option (List Str)
  | [] => some []
  | .Name x _ :: r => (tgNames r).map (x :: ·)
  | _ => none
noncomputable def updAll (m : Loc) : List Str → List D → Loc
  | x :: xs, d :: ds => updAll (upd m x d) xs ds
  | _, _ => m
noncomputable def wTarget (kd : Kd) (t : Expr) (d : D) (m : Loc) (K : Loc → Prop) : Prop := match t with
  | .Name x _ => isOwn kd x = true ∧ K (upd m x d)
  | .Tuple es _ _ => ∃ xs ds, tgNames es = some xs ∧ xs.all (isOwn kd) = true ∧ d = .tup ds ∧ ds.length = xs.length ∧ K (updAll m xs ds)
  | _ => False

noncomputable def wUn (op : UnaryOp) (a : D) (st : St) (Q : D → St → Prop) : Prop := match op with
  | .USub => (match a with
    | .int i => Q (.int (-i)) st
    | _ => False)
  | .Not => ∃ b, truth a = some b ∧ Q (.bool (!b)) st
  | _ => False

noncomputable def wSetItem (d i v : D) (st : St) (K : St → Prop) : Prop := match i with
  | .int k => ∃ n xs, d = .loc n ∧ st.cs n = some (.list xs) ∧ 0 ≤ k ∧ k < xs.length ∧ xs.length ≤ lim ∧ K (st.put n (.list (xs.set k.toNat v)))
  | _ => False

noncomputable def pinOf : D → Nat → Bool
  | .loc n => fun k => k == n
  | _ => fun _ => false

noncomputable def isTupE : Expr → Bool
  | .Tuple .. => true
  | _ => false
noncomputable def isMeth1 (nm : Str) : Prop := nm = "append" ∨ nm = "extend" ∨ nm = "index"
noncomputable def isCallE : Expr → Bool
  | .Call .. => true
  | _ => false
noncomputable def isSliceE : Expr → Bool
  | .Slice .. => true
  | _ => false

noncomputable def isBltP (f : Str) : Prop := f = "len" ∨ f = "isinstance" ∨ f = "list" ∨ f = "tuple" ∨ f = "min" ∨ f = "max" ∨ f = "sum"
noncomputable def isStarE : Expr → Bool
  | .Starred .. => true
  | _ => false
noncomputable def noStars (es : List Expr) : Bool := es.all fun e => !isStarE e

noncomputable def stopsAnd (op : BoolOp) (b : Bool) : Bool := match op, b with
  | .And, false => true
  | .Or, true => true
  | _, _ => false

noncomputable def ScopeOk (kd : Kd) (scope : Scope) : Prop := scope.kind = .function ∧ (scope.names.map (·.1)).Nodup ∧
  ∀ p ∈ scope.names, p.1 ≠ "__debug__" ∧ p.1 ≠ "__classdict__" ∧ (p.2 = .free → kd p.1 = some .cell ∨ kd p.1 = some .free)

section
variable (Γ : Ctx) (mt : Str → Bool)

noncomputable def wName (kd : Kd) (x : Str) (m : Loc) (st : St) (Q : D → St → Prop) : Prop :=
  if isGl kd x then ∃ d, Γ.gl x = some d ∧ Q d st else ∃ d, m x = some d ∧ Q d st

noncomputable def wCallN (trk : Bool) (x : Str) (ds : List D) (st : St) (Q : D → St → Prop) : Prop := match Γ.fn x with
  | some S => S ds st Q
  | none => wBuiltin trk x ds st Q

noncomputable def iterCall (t : Expr) (f : Str) (ds : List D) (st : St) (K : List D → (Nat → Bool) → Prop) : Prop :=
  if f = "zip" then isTupE t = true ∧ ∃ a b xs ys, ds = [a, b] ∧ seqD st a = some xs ∧ seqD st b = some ys ∧ xs.length ≤ lim ∧ ys.length ≤ lim ∧ K (zipL xs ys) (fun k => pinOf a k || pinOf b k)
  else if f = "enumerate" then isTupE t = true ∧ ∃ a xs, ds = [a] ∧ lstD st a = some xs ∧ xs.length ≤ lim ∧ K (enumL xs) (pinOf a)
  else if f = "range" then (∃ i, ds = [.int i] ∧ i ≤ lim ∧ -lim ≤ i ∧ K (rangeL 0 i) fun _ => false) ∨ (∃ i j, ds = [.int i, .int j] ∧ i ≤ lim ∧ -lim ≤ i ∧ j ≤ lim ∧ -lim ≤ j ∧ K (rangeL i j) fun _ => false)
  else False

mutual
noncomputable def wE : Nat → Bool → Kd → Expr → Loc → St → (D → St → Prop) → Prop
  | 0, _, _, _, _, _, _ => False
  | n + 1, trk, kd, e, m, st, Q => match e with
    | .Constant c _ _ => (match c with
      | .none => Q .none st
      | .bool b => Q (.bool b) st
      | .int i => Q (.int i) st
      | .str x => Q (.str x) st
      | _ => False)
    | .Name x _ => wName Γ kd x m st Q
    | .BoolOp op es _ => wBool n op kd es m st Q
    | .BinOp l op r _ => wE n false kd l m st fun a st1 => wE n false kd r m st1 fun b st2 => wBin trk op a b st2 Q
    | .UnaryOp op x _ => wE n false kd x m st fun a st1 => wUn op a st1 Q
    | .Compare l ops rs _ => wE n false kd l m st fun a st1 => wChain n kd a ops rs m st1 fun b st2 => Q (.bool b) st2
    | .Call f args [] pos => (match f with
      | .Name x _ => isGl kd x = true ∧ noStars args = true ∧ (Γ.fn x = none → isBltP x) ∧ wEs n false kd args m st fun ds st1 => wCallN Γ trk x ds st1 Q
      | .Attribute o nm apos => isCallE o = false ∧ (apos.endLine == pos.line) = true ∧ (match args with
        | [] => wE n false kd o m st fun d st1 => wMeth nm d [] st1 Q
        | [e] => isMeth1 nm ∧ noStars [e] = true ∧ wE n false kd o m st fun d st1 => (lstD st1 d).isSome = true ∧ wE n false kd e m st1 fun x st2 => wMeth nm d [x] st2 Q
        | _ => False)
      | _ => False)
    | .Subscript v s _ => (match s with
      | .Slice l u sp _ => wE n false kd v m st fun d st1 => wOpt n kd l m st1 fun a st2 => wOpt n kd u m st2 fun b st3 => wOpt n kd sp m st3 fun c st4 => wSlice trk d a b c st4 Q
      | s => wE n false kd v m st fun d st1 => wE n false kd s m st1 fun i st2 => wItem d i st2 Q)
    | .Tuple es _ _ => wEs n trk kd es m st fun ds st1 => ds.length ≤ lim ∧ Q (.tup ds) st1
    | .List es _ => wEs n trk kd es m st fun ds st1 => mkList trk ds st1 Q
    | .ListComp elt [⟨t, it, ifs, 0⟩] scope _ => ScopeOk kd scope ∧ wIter n kd t it m st fun items p st1 =>
        wComp (fun d st2 k => wTarget (fun x => scope.names.lookup x) t d (fun x => if scope.names.lookup x = some .free then m x else none) fun m1 =>
          match ifs with
          | [] => wE n trk (fun x => scope.names.lookup x) elt m1 st2 fun x st4 => k (some x) st4
          | [c] => wT n (fun x => scope.names.lookup x) c m1 st2 fun b st3 => if b then wE n trk (fun x => scope.names.lookup x) elt m1 st3 fun x st4 => k (some x) st4 else k none st3
          | _ => False)
          items [] (st1.hide p) fun acc st5 => mkList trk acc (st5.back st1 p) Q
    | _ => False
noncomputable def wEs : Nat → Bool → Kd → List Expr → Loc → St → (List D → St → Prop) → Prop
  | 0, _, _, _, _, _, _ => False
  | n + 1, trk, kd, es, m, st, Q => match es with
    | [] => Q [] st
    | e :: r => wE n trk kd e m st fun d st1 => wEs n trk kd r m st1 fun ds st2 => Q (d :: ds) st2
noncomputable def wOpt : Nat → Kd → Option Expr → Loc → St → (D → St → Prop) → Prop
  | 0, _, _, _, _, _ => False
  | n + 1, kd, e, m, st, Q => match e with
    | none => Q .none st
    | some e => wE n false kd e m st Q
noncomputable def wBool : Nat → BoolOp → Kd → List Expr → Loc → St → (D → St → Prop) → Prop
  | 0, _, _, _, _, _, _ => False
  | n + 1, op, kd, es, m, st, Q => match es with
    | [] => False
    | [x] => wE n false kd x m st Q
    | x :: y :: r => wE n false kd x m st fun d st1 => ∃ b, truth d = some b ∧ (if stopsAnd op b then Q d st1 else wBool n op kd (y :: r) m st1 Q)
noncomputable def wChain : Nat → Kd → D → List CmpOp → List Expr → Loc → St → (Bool → St → Prop) → Prop
  | 0, _, _, _, _, _, _, _ => False
  | n + 1, kd, a, ops, rs, m, st, K => match ops, rs with
    | [op], [r] => wE n false kd r m st fun b st1 => wCmp1 op a b st1 fun v => K v st1
    | op :: o2 :: ops, r :: r2 :: rs => wE n false kd r m st fun b st1 => wCmp1 op a b st1 fun v => if v then wChain n kd b (o2 :: ops) (r2 :: rs) m st1 K else K false st1
    | _, _ => False
noncomputable def wT : Nat → Kd → Expr → Loc → St → (Bool → St → Prop) → Prop
  | 0, _, _, _, _, _ => False
  | n + 1, kd, e, m, st, K => match e with
    | .UnaryOp .Not x _ => wT n kd x m st fun b st1 => K (!b) st1
    | .BoolOp op es _ => wAll n op kd es m st K
    | .Compare l ops rs _ => wE n false kd l m st fun a st1 => wChain n kd a ops rs m st1 K
    | .IfExp .. => False
    | e => wE n false kd e m st fun d st1 => ∃ b, truth d = some b ∧ K b st1
noncomputable def wAll : Nat → BoolOp → Kd → List Expr → Loc → St → (Bool → St → Prop) → Prop
  | 0, _, _, _, _, _, _ => False
  | n + 1, op, kd, es, m, st, K => match es with
    | [] => K (op == .And) st
    | x :: r => wT n kd x m st fun b st1 => if stopsAnd op b then K b st1 else wAll n op kd r m st1 K
noncomputable def wIter : Nat → Kd → Expr → Expr → Loc → St → (List D → (Nat → Bool) → St → Prop) → Prop
  | 0, _, _, _, _, _, _ => False
  | n + 1, kd, t, it, m, st, K => match it with
    | .Set .. => False
    | .Call (.Name f fp) args [] pos => if f = "zip" ∨ f = "range" ∨ f = "enumerate" then isGl kd f = true ∧ noStars args = true ∧ Γ.fn f = none ∧ wEs n false kd args m st fun ds st1 => iterCall t f ds st1 fun xs p => K xs p st1
        else wE n false kd (.Call (.Name f fp) args [] pos) m st fun d st1 => wIterD d st1 fun xs p => xs.length ≤ lim ∧ K xs p st1
    | it => wE n false kd it m st fun d st1 => wIterD d st1 fun xs p => xs.length ≤ lim ∧ K xs p st1
end

mutual
noncomputable def wS : Nat → Kd → Stmt → Loc → St → (Fl → Loc → St → Prop) → Prop
  | 0, _, _, _, _, _ => False
  | n + 1, kd, s, m, st, K => match s with
    | .Expr v _ => isCallE v = true ∧ wE Γ n false kd v m st fun d st1 => (match d with
      | .none => K .next m st1
      | _ => False)
    | .Assign [t] v _ => (match t with
      | .Name x _ => isOwn kd x = true ∧ wE Γ n (mt x) kd v m st fun d st1 => K .next (upd m x d) st1
      | .Tuple es k p => isTupE v = false ∧ wE Γ n false kd v m st fun d st1 => wTarget kd (.Tuple es k p) d m fun m1 => K .next m1 st1
      | .Subscript o i _ => isSliceE i = false ∧ wE Γ n false kd v m st fun d st1 => wE Γ n false kd o m st1 fun od st2 => wE Γ n false kd i m st2 fun id st3 => wSetItem od id d st3 fun st4 => K .next m st4
      | _ => False)
    | .If c a b _ => wT Γ n kd c m st fun r st1 => if r then wSs n kd a m st1 K else wSs n kd b m st1 K
    | .For t it body [] _ => wIter Γ n kd t it m st fun items p st1 =>
        wFor (fun d m st k => wTarget kd t d m fun m1 => wSs n kd body m1 st k) items m (st1.hide p) fun fl m2 st2 => K fl m2 (st2.back st1 p)
    | .Return (some e) _ => wE Γ n false kd e m st fun d st1 => K (.ret d) m st1
    | .Return none _ => K (.ret .none) m st
    | .Pass _ => K .next m st
    | _ => False
noncomputable def wSs : Nat → Kd → List Stmt → Loc → St → (Fl → Loc → St → Prop) → Prop
  | 0, _, _, _, _, _ => False
  | n + 1, kd, ss, m, st, K => match ss with
    | [] => K .next m st
    | s :: r => wS n kd s m st fun fl m1 st1 => (match fl with
      | .next => wSs n kd r m1 st1 K
      | fl => K fl m1 st1)
end

noncomputable def bindM : List Str → List D → Loc
  | x :: xs, d :: ds => upd (bindM xs ds) x d
  | _, _ => fun _ => none

/-- a def's call -/
noncomputable def wFn (n : Nat) (kd : Kd) (params : List Str) (body : List Stmt) : FSpec := fun ds st Q =>
  ds.length = params.length ∧ wSs Γ mt n kd body (bindM params ds) st fun fl _ st' =>
    (match fl with
    | .ret d => if st'.hi = st.hi then Q d st' else ∃ d', frz st.hi st' 3 d = some d' ∧ Q d' (st'.cut st.hi)
    | .next => if st'.hi = st.hi then Q .none st' else Q .none (st'.cut st.hi)
    | _ => False)
end

end Mine
end

section
set_option autoImplicit false
namespace Mine
open PySem

structure Wd where
  R : Addr → Option Obj
  ρ : Nat → Option Addr
  st : St

noncomputable abbrev tupO (vs : List Value) (n : Nat) : Obj := { cls := .type "tuple", dict := none, data := .seq vs.toArray n, slots := #[] }
noncomputable abbrev lstO (vs : List Value) (n : Nat) : Obj := { cls := .type "list", dict := none, data := .seq vs.toArray n, slots := #[] }

mutual
noncomputable def Rep (R : Addr → Option Obj) (ρ : Nat → Option Addr) : D → Value → Prop
  | .none, v => v = .none
  | .bool b, v => v = .bool b
  | .int i, v => ∃ t, v = .int i t
  | .str x, v => ∃ t, v = .str x t
  | .tup ds, v => ∃ a vs n, v = .ref a ∧ R a = some (tupO vs n) ∧ RepAll R ρ ds vs
  | .list ds, v => ∃ a vs n, v = .ref a ∧ R a = some (lstO vs n) ∧ RepAll R ρ ds vs
  | .loc n, v => ∃ a, ρ n = some a ∧ v = .ref a
  | .val u, v => v = u
noncomputable def RepAll (R : Addr → Option Obj) (ρ : Nat → Option Addr) : List D → List Value → Prop
  | [], vs => vs = []
  | d :: ds, vs => ∃ v ws, vs = v :: ws ∧ Rep R ρ d v ∧ RepAll R ρ ds ws
end

section
variable {R R' : Addr → Option Obj} {ρ ρ' : Nat → Option Addr}
mutual
theorem Rep.mono (hR : ∀ a o, R a = some o → R' a = some o) (hρ : ∀ n a, ρ n = some a → ρ' n = some a) : ∀ (d : D) (v : Value), Rep R ρ d v → Rep R' ρ' d v
  | .none, _, h => h
  | .bool _, _, h => h
  | .int _, _, h => h
  | .str _, _, h => h
  | .val _, _, h => h
  | .loc _, _, ⟨a, h, e⟩ => ⟨a, hρ _ _ h, e⟩
  | .tup ds, _, ⟨a, vs, n, e, h, r⟩ => ⟨a, vs, n, e, hR _ _ h, RepAll.mono hR hρ ds vs r⟩
  | .list ds, _, ⟨a, vs, n, e, h, r⟩ => ⟨a, vs, n, e, hR _ _ h, RepAll.mono hR hρ ds vs r⟩
theorem RepAll.mono (hR : ∀ a o, R a = some o → R' a = some o) (hρ : ∀ n a, ρ n = some a → ρ' n = some a) : ∀ (ds : List D) (vs : List Value), RepAll R ρ ds vs → RepAll R' ρ' ds vs
  | [], _, h => h
  | d :: ds, _, ⟨v, ws, e, h, r⟩ => ⟨v, ws, e, Rep.mono hR hρ d v h, RepAll.mono hR hρ ds ws r⟩
end
theorem RepAll.length : ∀ {ds : List D} {vs : List Value}, RepAll R ρ ds vs → vs.length = ds.length
  | [], _, h => by have h' : _ = [] := h; rw [h']; rfl
  | _ :: _, _, ⟨_, _, e, _, r⟩ => by rw [e]; simp [RepAll.length r]
theorem RepAll.get : ∀ {ds : List D} {vs : List Value}, RepAll R ρ ds vs → ∀ (i : Nat) (d : D), ds[i]? = some d → ∃ v, vs[i]? = some v ∧ Rep R ρ d v
  | [], _, _, _, _, h => by simp at h
  | d :: ds, _, ⟨v, ws, e, h, r⟩, 0, d', hd => by subst e; simp at hd; subst hd; exact ⟨v, rfl, h⟩
  | d :: ds, _, ⟨v, ws, e, h, r⟩, i + 1, d', hd => by subst e; simp at hd; obtain ⟨u, hu, hr⟩ := r.get i d' hd; exact ⟨u, by simpa using hu, hr⟩
theorem RepAll.get' : ∀ {ds : List D} {vs : List Value}, RepAll R ρ ds vs → ∀ (i : Nat) (v : Value), vs[i]? = some v → ∃ d, ds[i]? = some d ∧ Rep R ρ d v := by
  intro ds vs h i v hv
  have hl := h.length
  have hi : i < ds.length := by rw [← hl]; exact (List.getElem?_eq_some_iff.mp hv).1
  obtain ⟨u, hu, hr⟩ := h.get i _ (List.getElem?_eq_getElem hi)
  rw [hv] at hu; cases hu
  exact ⟨_, List.getElem?_eq_getElem hi, hr⟩
theorem RepAll.append : ∀ {ds es : List D} {vs ws : List Value}, RepAll R ρ ds vs → RepAll R ρ es ws → RepAll R ρ (ds ++ es) (vs ++ ws)
  | [], _, _, _, h, k => by have h' : _ = [] := h; rw [h']; exact k
  | _ :: _, _, _, _, ⟨v, us, e, h, r⟩, k => by subst e; exact ⟨v, _, rfl, h, r.append k⟩
theorem RepAll.one {d : D} {v : Value} (h : Rep R ρ d v) : RepAll R ρ [d] [v] := ⟨v, [], rfl, h, rfl⟩
theorem RepAll.mk' : ∀ {ds : List D} {vs : List Value}, vs.length = ds.length → (∀ (i : Nat) (d : D) (v : Value), ds[i]? = some d → vs[i]? = some v → Rep R ρ d v) → RepAll R ρ ds vs
  | [], vs, hl, _ => by cases vs with
    | nil => rfl
    | cons _ _ => simp at hl
  | d :: ds, vs, hl, h => by
    cases vs with
    | nil => simp at hl
    | cons v vs => exact ⟨v, vs, rfl, h 0 d v rfl rfl, RepAll.mk' (by simpa using hl) fun i d' v' a b => h (i + 1) d' v' (by simpa using a) (by simpa using b)⟩
theorem RepAll.set {ds : List D} {vs : List Value} (h : RepAll R ρ ds vs) (i : Nat) {d : D} {v : Value} (hd : Rep R ρ d v) : RepAll R ρ (ds.set i d) (vs.set i v) := by
  refine RepAll.mk' (by simp [h.length]) fun j d' v' a b => ?_
  rw [List.getElem?_set] at a b
  by_cases e : i = j
  · subst e
    simp only [if_true] at a b
    split at a
    · split at b
      · cases a; cases b; exact hd
      · cases b
    · cases a
  · simp only [if_neg e] at a b
    obtain ⟨u, hu, hr⟩ := h.get j d' a
    rw [hu] at b; cases b; exact hr
theorem RepAll.nth {ds : List D} {vs : List Value} (h : RepAll R ρ ds vs) {α : Type} (l : List α) (f : α → Nat) : RepAll R ρ (l.filterMap fun a => ds[f a]?) (l.filterMap fun a => vs[f a]?) := by
  induction l with
  | nil => rfl
  | cons a l ih =>
    simp only [List.filterMap_cons]
    cases hd : ds[f a]? with
    | none =>
      have hv : vs[f a]? = none := by
        rw [List.getElem?_eq_none_iff] at hd ⊢; rw [h.length]; exact hd
      rw [hv]; exact ih
    | some d =>
      obtain ⟨v, hv, hr⟩ := h.get _ _ hd
      rw [hv]; exact ⟨v, _, rfl, hr, ih⟩
theorem RepAll.inv {d : D} {ds : List D} {vs : List Value} (h : RepAll R ρ (d :: ds) vs) : ∃ v ws, vs = v :: ws ∧ Rep R ρ d v ∧ RepAll R ρ ds ws := h
end

noncomputable def CellIs (R : Addr → Option Obj) (ρ : Nat → Option Addr) (h : Heap) (a : Addr) : Cell → Prop
  | .list ds => ∃ vs k, h.get? a = some (lstO vs k) ∧ RepAll R ρ ds vs
  | .dict _ => False

structure Sim (h₀ : Heap) (W : Wd) (s : Shared) : Prop where
  base : ∀ b o, h₀.get? b = some o → W.R b = some o
  frz : ∀ b o, W.R b = some o → s.heap.get? b = some o
  cel : ∀ n c, W.st.cs n = some c → ∃ a, W.ρ n = some a ∧ CellIs W.R W.ρ s.heap a c
  dis : ∀ n a, W.ρ n = some a → W.R a = none ∧ ∃ o, s.heap.get? a = some o
  inj : ∀ n k a, W.ρ n = some a → W.ρ k = some a → n = k
  dom : ∀ n a, W.ρ n = some a → n < W.st.hi

structure Step (own : Addr → Prop) (s : Shared) (W : Wd) (s' : Shared) (W' : Wd) : Prop where
  rest : s'.gens = s.gens ∧ s'.os = s.os ∧ s'.drawn = s.drawn
  keep : ∀ b o, s.heap.get? b = some o → (∀ n, W.ρ n = some b → W.st.cs n = none) → ¬ own b → s'.heap.get? b = some o
  live : ∀ b o, s.heap.get? b = some o → ∃ o', s'.heap.get? b = some o'
  extR : ∀ b o, s.heap.get? b = some o → W'.R b = W.R b
  rho : ∀ n a, W.ρ n = some a → W'.ρ n = some a
  new : ∀ n a, W'.ρ n = some a → W.ρ n = some a ∨ s.heap.get? a = none
  hi : W.st.hi ≤ W'.st.hi
  hid : ∀ n, n < W.st.hi → W.st.cs n = none → W'.st.cs n = none

noncomputable def noOwn : Addr → Prop := fun _ => False

theorem Step.refl {own : Addr → Prop} (s : Shared) (W : Wd) : Step own s W s W where
  rest := ⟨rfl, rfl, rfl⟩
  keep := fun _ _ e _ _ => e
  live := fun _ o e => ⟨o, e⟩
  extR := fun _ _ _ => rfl
  rho := fun _ _ e => e
  new := fun _ _ e => .inl e
  hi := Nat.le_refl _
  hid := fun _ _ e => e

theorem Step.trans {own : Addr → Prop} {h₀ : Heap} {s s1 s2 : Shared} {W W1 W2 : Wd} (S : Sim h₀ W s) (x : Step own s W s1 W1) (y : Step own s1 W1 s2 W2) : Step own s W s2 W2 where
  rest := ⟨y.rest.1.trans x.rest.1, y.rest.2.1.trans x.rest.2.1, y.rest.2.2.trans x.rest.2.2⟩
  keep := fun b o e hm ho => y.keep b o (x.keep b o e hm ho) (fun n hn => by
    rcases x.new n b hn with h | h
    · exact x.hid n (S.dom n b h) (hm n h)
    · rw [h] at e; cases e) ho
  live := fun b o e => let ⟨o', e'⟩ := x.live b o e; y.live b o' e'
  extR := fun b o e => let ⟨o', e'⟩ := x.live b o e; (y.extR b o' e').trans (x.extR b o e)
  rho := fun n a e => y.rho n a (x.rho n a e)
  new := fun n a e => by
    rcases y.new n a e with h | h
    · exact x.new n a h
    · right
      cases q : s.heap.get? a with
      | none => rfl
      | some o => obtain ⟨o', e'⟩ := x.live a o q; rw [h] at e'; cases e'
  hi := Nat.le_trans x.hi y.hi
  hid := fun n hn e => y.hid n (Nat.lt_of_lt_of_le hn x.hi) (x.hid n hn e)

theorem Step.wide {own own' : Addr → Prop} {s s' : Shared} {W W' : Wd} (x : Step own s W s' W') (h : ∀ b o, s.heap.get? b = some o → own b → own' b) : Step own' s W s' W' :=
  ⟨x.rest, fun b o e hm ho => x.keep b o e hm fun q => ho (h b o e q), x.live, x.extR, x.rho, x.new, x.hi, x.hid⟩

section
variable {own : Addr → Prop} {h₀ : Heap} {s s' : Shared} {W W' : Wd}
theorem Step.repR (S : Sim h₀ W s) (x : Step own s W s' W') : ∀ a o, W.R a = some o → W'.R a = some o := fun a o e => (x.extR a o (S.frz a o e)).trans e
theorem Step.rep (S : Sim h₀ W s) (x : Step own s W s' W') {d : D} {v : Value} (h : Rep W.R W.ρ d v) : Rep W'.R W'.ρ d v := Rep.mono (x.repR S) x.rho d v h
theorem Step.repAll (S : Sim h₀ W s) (x : Step own s W s' W') {ds : List D} {vs : List Value} (h : RepAll W.R W.ρ ds vs) : RepAll W'.R W'.ρ ds vs := RepAll.mono (x.repR S) x.rho ds vs h

theorem Sim.toks (S : Sim h₀ W s) (t : Nat) : Sim h₀ W { s with toks := t } := ⟨S.base, S.frz, S.cel, S.dis, S.inj, S.dom⟩
theorem Step.toks (s : Shared) (W : Wd) (t : Nat) : Step own s W { s with toks := t } W :=
  ⟨⟨rfl, rfl, rfl⟩, fun _ _ e _ _ => e, fun _ o e => ⟨o, e⟩, fun _ _ _ => rfl, fun _ _ e => e, fun _ _ e => .inl e, Nat.le_refl _, fun _ _ e => e⟩

/-- new objects, some of them frozen -/
theorem Sim.ext (S : Sim h₀ W s) {h' : Heap} {tk : Nat} (hk : ∀ b o, s.heap.get? b = some o → h'.get? b = some o) (Rn : Addr → Option Obj)
    (hn : ∀ b o, Rn b = some o → s.heap.get? b = none ∧ h'.get? b = some o) :
    Step own s W { s with heap := h', toks := tk } { W with R := fun b => (Rn b).or (W.R b) } ∧ Sim h₀ { W with R := fun b => (Rn b).or (W.R b) } { s with heap := h', toks := tk } := by
  have none_of : ∀ b o, s.heap.get? b = some o → Rn b = none := fun b o e => by
    cases q : Rn b with
    | none => rfl
    | some o' => rw [(hn b o' q).1] at e; cases e
  have mono : ∀ a o, W.R a = some o → (Rn a).or (W.R a) = some o := fun a o e => by rw [none_of a o (S.frz a o e)]; exact e
  refine ⟨⟨⟨rfl, rfl, rfl⟩, fun b o e _ _ => hk b o e, fun b o e => ⟨o, hk b o e⟩, fun b o e => ?_, fun _ _ e => e, fun _ _ e => .inl e, Nat.le_refl _, fun _ _ e => e⟩, ⟨fun b o e => mono b o (S.base b o e), fun b o e => ?_, fun n c e => ?_, fun n a e => ?_, S.inj, S.dom⟩⟩
  · show (Rn b).or (W.R b) = W.R b
    rw [none_of b o e]; rfl
  · have e1 : (Rn b).or (W.R b) = some o := e
    cases q : Rn b with
    | none => rw [q] at e1; exact hk b o (S.frz b o e1)
    | some o' =>
      rw [q] at e1
      have e2 : some o' = some o := e1
      cases e2
      exact (hn b _ q).2
  · obtain ⟨a, ha, hc⟩ := S.cel n c e
    refine ⟨a, ha, ?_⟩
    cases c with
    | list ds => obtain ⟨vs, k, hg, hr⟩ := hc; exact ⟨vs, k, hk _ _ hg, RepAll.mono mono (fun _ _ e => e) ds vs hr⟩
    | dict es => exact hc
  · obtain ⟨h1, o, h2⟩ := S.dis n a e
    refine ⟨?_, o, hk a o h2⟩
    show (Rn a).or (W.R a) = none
    rw [none_of a o h2, h1]; rfl

theorem Sim.grow (S : Sim h₀ W s) {h' : Heap} {tk : Nat} (hk : ∀ b o, s.heap.get? b = some o → h'.get? b = some o) :
    Step own s W { s with heap := h', toks := tk } W ∧ Sim h₀ W { s with heap := h', toks := tk } := S.ext hk (fun _ => none) (fun _ _ e => by cases e)

/-- a new tracked list -/
theorem Sim.track (S : Sim h₀ W s) {h' : Heap} {tk : Nat} (hk : ∀ b o, s.heap.get? b = some o → h'.get? b = some o) {a : Addr} {vs : List Value} {k : Nat} {ds : List D}
    (ha : s.heap.get? a = none) (hg : h'.get? a = some (lstO vs k)) (hr : RepAll W.R W.ρ ds vs) :
    let W' : Wd := { W with ρ := fun n => if n = W.st.hi then some a else W.ρ n, st := W.st.alloc (.list ds) }
    Step own s W { s with heap := h', toks := tk } W' ∧ Sim h₀ W' { s with heap := h', toks := tk } ∧ W'.ρ W.st.hi = some a := by
  intro W'
  have old : ∀ n b, W.ρ n = some b → W'.ρ n = some b := fun n b e => by
    show (if n = W.st.hi then some a else W.ρ n) = some b
    rw [if_neg (Nat.ne_of_lt (S.dom n b e))]; exact e
  have cases' : ∀ n b, W'.ρ n = some b → (n = W.st.hi ∧ b = a) ∨ W.ρ n = some b := fun n b e => by
    by_cases q : n = W.st.hi
    · left; refine ⟨q, ?_⟩
      have : (if n = W.st.hi then some a else W.ρ n) = some b := e
      rw [if_pos q] at this; exact (Option.some.inj this).symm
    · right
      have : (if n = W.st.hi then some a else W.ρ n) = some b := e
      rwa [if_neg q] at this
  have na : ∀ n, W.ρ n ≠ some a := fun n e => by obtain ⟨_, o, h2⟩ := S.dis n a e; rw [ha] at h2; cases h2
  refine ⟨⟨⟨rfl, rfl, rfl⟩, fun b o e _ _ => hk b o e, fun b o e => ⟨o, hk b o e⟩, fun _ _ _ => rfl, old, fun n b e => ?_, Nat.le_succ _, fun n hn e => ?_⟩, ⟨S.base, fun b o e => hk b o (S.frz b o e), fun n c e => ?_, fun n b e => ?_, fun n k' b e1 e2 => ?_, fun n b e => ?_⟩, ?_⟩
  · rcases cases' n b e with ⟨_, rfl⟩ | h
    · exact .inr ha
    · exact .inl h
  · show (if n = W.st.hi then some _ else W.st.cs n) = none
    rw [if_neg (Nat.ne_of_lt hn)]; exact e
  · have e' : (if n = W.st.hi then some (Cell.list ds) else W.st.cs n) = some c := e
    by_cases q : n = W.st.hi
    · rw [if_pos q] at e'; cases e'
      exact ⟨a, by show (if n = W.st.hi then some a else W.ρ n) = some a; rw [if_pos q], vs, k, hg, RepAll.mono (fun _ _ e => e) old ds vs hr⟩
    · rw [if_neg q] at e'
      obtain ⟨b, hb, hc⟩ := S.cel n c e'
      refine ⟨b, old n b hb, ?_⟩
      cases c with
      | list ds' => obtain ⟨vs', k', hg', hr'⟩ := hc; exact ⟨vs', k', hk _ _ hg', RepAll.mono (fun _ _ e => e) old ds' vs' hr'⟩
      | dict es => exact hc
  · rcases cases' n b e with ⟨_, rfl⟩ | h
    · refine ⟨?_, _, hg⟩
      cases q : W.R b with
      | none => rfl
      | some o => have := S.frz b o q; rw [ha] at this; cases this
    · obtain ⟨h1, o, h2⟩ := S.dis n b h; exact ⟨h1, o, hk b o h2⟩
  · rcases cases' n b e1 with ⟨q1, r1⟩ | h1
    · rcases cases' k' b e2 with ⟨q2, _⟩ | h2
      · rw [q1, q2]
      · exact absurd (r1 ▸ h2) (na k')
    · rcases cases' k' b e2 with ⟨_, r2⟩ | h2
      · exact absurd (r2 ▸ h1) (na n)
      · exact S.inj n k' b h1 h2
  · rcases cases' n b e with ⟨q, _⟩ | h
    · rw [q]; exact Nat.lt_succ_self _
    · exact Nat.lt_succ_of_lt (S.dom n b h)
  · show (if W.st.hi = W.st.hi then some a else W.ρ W.st.hi) = some a
    rw [if_pos rfl]

/-- a tracked list is changed -/
theorem Sim.put (S : Sim h₀ W s) {h' : Heap} {tk n : Nat} {a : Addr} {c : Cell} {vs : List Value} {k : Nat} {ds : List D} (hρ : W.ρ n = some a) (hc : W.st.cs n = some c)
    (hs : ∀ b o, b ≠ a → s.heap.get? b = some o → h'.get? b = some o) (hg : h'.get? a = some (lstO vs k)) (hr : RepAll W.R W.ρ ds vs) :
    let W' : Wd := { W with st := W.st.put n (.list ds) }
    Step own s W { s with heap := h', toks := tk } W' ∧ Sim h₀ W' { s with heap := h', toks := tk } := by
  intro W'
  have Ra : W.R a = none := (S.dis n a hρ).1
  refine ⟨⟨⟨rfl, rfl, rfl⟩, fun b o e hm _ => hs b o (fun q => ?_) e, fun b o e => ?_, fun _ _ _ => rfl, fun _ _ e => e, fun _ _ e => .inl e, Nat.le_refl _, fun j hj e => ?_⟩, ⟨S.base, fun b o e => hs b o (fun q => ?_) (S.frz b o e), fun j c' e => ?_, fun j b e => ?_, S.inj, S.dom⟩⟩
  · rw [q] at hm; have := hm n hρ; rw [hc] at this; cases this
  · by_cases q : b = a
    · exact ⟨_, q ▸ hg⟩
    · exact ⟨o, hs b o q e⟩
  · show (if j = n then some _ else W.st.cs j) = none
    by_cases q : j = n
    · rw [q, hc] at e; cases e
    · rw [if_neg q]; exact e
  · rw [q, Ra] at e; cases e
  · have e' : (if j = n then some (Cell.list ds) else W.st.cs j) = some c' := e
    by_cases q : j = n
    · rw [if_pos q] at e'; cases e'
      exact ⟨a, q ▸ hρ, vs, k, hg, hr⟩
    · rw [if_neg q] at e'
      obtain ⟨b, hb, hc'⟩ := S.cel j c' e'
      refine ⟨b, hb, ?_⟩
      have nb : b ≠ a := fun x => q (S.inj j n a (x ▸ hb) hρ)
      cases c' with
      | list ds' => obtain ⟨vs', k', hg', hr'⟩ := hc'; exact ⟨vs', k', hs _ _ nb hg', hr'⟩
      | dict es => exact hc'
  · obtain ⟨h1, o, h2⟩ := S.dis j b e
    refine ⟨h1, ?_⟩
    by_cases q : b = a
    · exact ⟨_, q ▸ hg⟩
    · exact ⟨o, hs b o q h2⟩
end

/-- own objects change (a frame's names) -/
theorem Sim.ownStep {own : Addr → Prop} {h₀ : Heap} {s : Shared} {W : Wd} (S : Sim h₀ W s) {h' : Heap} {tk : Nat} {a : Addr} (ha : own a) (hR : W.R a = none) (hρ : ∀ n, W.ρ n ≠ some a)
    (hs : ∀ b o, b ≠ a → s.heap.get? b = some o → h'.get? b = some o) (hl : ∃ o, h'.get? a = some o) :
    Step own s W { s with heap := h', toks := tk } W ∧ Sim h₀ W { s with heap := h', toks := tk } := by
  refine ⟨⟨⟨rfl, rfl, rfl⟩, fun b o e _ no => hs b o (fun q => no (q ▸ ha)) e, fun b o e => ?_, fun _ _ _ => rfl, fun _ _ e => e, fun _ _ e => .inl e, Nat.le_refl _, fun _ _ e => e⟩, ⟨S.base, fun b o e => hs b o (fun q => ?_) (S.frz b o e), fun n c e => ?_, fun n b e => ?_, S.inj, S.dom⟩⟩
  · by_cases q : b = a
    · exact q ▸ hl
    · exact ⟨o, hs b o q e⟩
  · rw [q, hR] at e; cases e
  · obtain ⟨b, hb, hc⟩ := S.cel n c e
    refine ⟨b, hb, ?_⟩
    cases c with
    | list ds => obtain ⟨vs, k, hg, hr⟩ := hc; exact ⟨vs, k, hs _ _ (fun q => hρ n (q ▸ hb)) hg, hr⟩
    | dict es => exact hc
  · obtain ⟨h1, o, h2⟩ := S.dis n b e
    exact ⟨h1, o, hs _ _ (fun q => hρ n (q ▸ e)) h2⟩

/-- fewer cells are looked at -/
theorem Sim.hide {h₀ : Heap} {s : Shared} {W : Wd} (S : Sim h₀ W s) (p : Nat → Bool) : Sim h₀ { W with st := W.st.hide p } s where
  base := S.base
  frz := S.frz
  cel := fun n c e => by
    have e' : (if p n then none else W.st.cs n) = some c := e
    cases q : p n with
    | true => rw [q] at e'; cases e'
    | false => rw [q] at e'; exact S.cel n c e'
  dis := S.dis
  inj := S.inj
  dom := S.dom

end Mine
end

section
set_option autoImplicit false
namespace Mine
open PySem

noncomputable def E0 : Value → Shared → Prop := fun _ _ => False

section
variable (prog : Program) (w : World) (A : Around) (h₀ : Heap)
noncomputable def Fin' (own : Addr → Prop) {α : Type} (s : Shared) (W : Wd) (post : α → Wd → Shared → Prop) : α → Shared → Prop :=
  fun v s' => ∃ W', Step own s W s' W' ∧ Sim h₀ W' s' ∧ post v W' s'
noncomputable def OK (own : Addr → Prop) {α : Type} (t : Sem α) (W : Wd) (s : Shared) (post : α → Wd → Shared → Prop) : Prop :=
  wpAny (model prog w) A t (Fin' h₀ own s W post) E0 s
end

noncomputable def VP (Q : D → St → Prop) : Value → Wd → Shared → Prop := fun v W _ => ∃ d, Rep W.R W.ρ d v ∧ Q d W.st
noncomputable def VPs (Q : List D → St → Prop) : List Value → Wd → Shared → Prop := fun vs W _ => ∃ ds, RepAll W.R W.ρ ds vs ∧ Q ds W.st
noncomputable def BP (K : Bool → St → Prop) : Bool → Wd → Shared → Prop := fun b W _ => K b W.st

section
variable {prog : Program} {w : World} {A : Around} {h₀ : Heap} {own : Addr → Prop} {α β : Type} {W : Wd} {s : Shared}

theorem OK.pure {a : α} {post : α → Wd → Shared → Prop} (S : Sim h₀ W s) (h : post a W s) : OK prog w A h₀ own (Pure.pure a) W s post :=
  wpAny_pure ⟨W, Step.refl s W, S, h⟩
theorem OK.mono {t : Sem α} {P P' : α → Wd → Shared → Prop} (h : OK prog w A h₀ own t W s P) (k : ∀ v W' s', Step own s W s' W' → Sim h₀ W' s' → P v W' s' → P' v W' s') : OK prog w A h₀ own t W s P' :=
  wpAny_mono h (fun v s' ⟨W', a, b, c⟩ => ⟨W', a, b, k v W' s' a b c⟩) fun _ _ e => e
theorem OK.bind {t : Sem α} {f : α → Sem β} {P : α → Wd → Shared → Prop} {post : β → Wd → Shared → Prop} (S : Sim h₀ W s) (h : OK prog w A h₀ own t W s P)
    (k : ∀ v W1 s1, Step own s W s1 W1 → Sim h₀ W1 s1 → P v W1 s1 → OK prog w A h₀ own (f v) W1 s1 post) : OK prog w A h₀ own (t >>= f) W s post :=
  wpAny_bind (wpAny_mono h (fun v s1 ⟨W1, a, b, c⟩ => wpAny_mono (k v W1 s1 a b c) (fun r s' ⟨W', a', b', c'⟩ => ⟨W', a.trans S a', b', c'⟩) fun _ _ e => e) fun _ _ e => e)
theorem OK.after {t : Sem α} {s1 : Shared} {W1 : Wd} {post : α → Wd → Shared → Prop} (S : Sim h₀ W s) (x : Step own s W s1 W1)
    (h : OK prog w A h₀ own t W1 s1 post) : wpAny (model prog w) A t (Fin' h₀ own s W post) E0 s1 :=
  wpAny_mono h (fun r s' ⟨W', a', b', c'⟩ => ⟨W', x.trans S a', b', c'⟩) fun _ _ e => e
theorem OK.wide {own' : Addr → Prop} {t : Sem α} {post : α → Wd → Shared → Prop} (h : OK prog w A h₀ own t W s post) (k : ∀ b o, s.heap.get? b = some o → own b → own' b) : OK prog w A h₀ own' t W s post :=
  wpAny_mono h (fun v s' ⟨W', a, b, c⟩ => ⟨W', a.wide k, b, c⟩) fun _ _ e => e
theorem OK.wide0 {t : Sem α} {post : α → Wd → Shared → Prop} (h : OK prog w A h₀ noOwn t W s post) : OK prog w A h₀ own t W s post := h.wide fun _ _ _ q => q.elim
theorem OK.holding {vs : List Value} {t : Sem α} {post : α → Wd → Shared → Prop} (h : OK prog w A h₀ own t W s post) : OK prog w A h₀ own (holding vs t) W s post := wpAny_holding h
theorem OK.stand {pos : Pos} {f : Unit → Sem β} {post : β → Wd → Shared → Prop} (h : OK prog w A h₀ own (f ()) W s post) : OK prog w A h₀ own (standAt pos >>= f) W s post := wpAny_bind (wpAny_standAt h)
theorem OK.rule {tag : String} {f : Unit → Sem β} {post : β → Wd → Shared → Prop} (h : OK prog w A h₀ own (f ()) W s post) : OK prog w A h₀ own (PySem.rule tag >>= f) W s post := wpAny_bind (wpAny_rule h)
theorem OK.operate {vs : List Value} {t : Sem Value} {post : Value → Wd → Shared → Prop} (h : OK prog w A h₀ own t W s post) : OK prog w A h₀ own (operate vs t) W s post :=
  fun Γ p hΓ => by rw [Sem.wp_operate]; exact h Γ p hΓ
theorem OK.ite {c : Prop} [Decidable c] {a b : Sem α} {post : α → Wd → Shared → Prop} (h1 : c → OK prog w A h₀ own a W s post) (h2 : ¬ c → OK prog w A h₀ own b W s post) : OK prog w A h₀ own (if c then a else b) W s post := by
  by_cases q : c
  · rw [if_pos q]; exact h1 q
  · rw [if_neg q]; exact h2 q
/-- nested form, as the library's rules want it -/
theorem OK.nest {t : Sem α} {T : α → Sem β} {P : α → Wd → Shared → Prop} {post : β → Wd → Shared → Prop} (S : Sim h₀ W s) (h : OK prog w A h₀ own t W s P)
    (k : ∀ v W1 s1, Step own s W s1 W1 → Sim h₀ W1 s1 → P v W1 s1 → OK prog w A h₀ own (T v) W1 s1 post) :
    wpAny (model prog w) A t (fun v s1 => wpAny (model prog w) A (T v) (Fin' h₀ own s W post) E0 s1) E0 s :=
  wpAny_mono h (fun v s1 ⟨W1, a, b, c⟩ => OK.after S a (k v W1 s1 a b c)) fun _ _ e => e
end

/-- the value of a name in a frame -/
noncomputable def NameH (h : Heap) (env : Env) (x : Str) (v : Value) : Prop :=
  (env.kindOf x = some .local ∧ ∃ mv, h.Ns env.locals mv ∧ mv x = some v) ∨
  ((env.kindOf x = some .cell ∨ env.kindOf x = some .free) ∧ ∃ c, env.cells.lookup x = some c ∧ h.IsCell c (some v))

structure Fram (own : Addr → Prop) (env : Env) (kd : Kd) (m : Loc) (W : Wd) (s : Shared) : Prop where
  fn : env.scope.kind = .function
  gl : env.globals = mainGlobals
  bi : env.builtins = builtinsNs
  kE : ∀ x k, kd x = some k → k ≠ .free → env.kindOf x = some k
  dbg : kd "__debug__" = none ∧ kd "__classdict__" = none
  nm : ∀ x d, m x = some d → kd x ≠ none ∧ ∃ v, NameH s.heap env x v ∧ Rep W.R W.ρ d v
  ns : ∃ mv, s.heap.Ns env.locals mv
  cl : ∀ x c, env.cells.lookup x = some c → (∃ v, s.heap.IsCell c v) ∧ c ≠ env.locals ∧ ∀ n, W.ρ n ≠ some c
  ci : ∀ x y c, env.cells.lookup x = some c → env.cells.lookup y = some c → x = y
  lo : own env.locals ∧ W.R env.locals = none ∧ ∀ n, W.ρ n ≠ some env.locals
  co : ∀ x, kd x = some .cell → ∃ c, env.cells.lookup x = some c ∧ own c ∧ W.R c = none
  kF : ∀ x, kd x = some .free → (env.kindOf x = some .cell ∨ env.kindOf x = some .free) ∧ ∃ c, env.cells.lookup x = some c

section
variable {own : Addr → Prop} {env : Env} {kd : Kd} {m : Loc} {W W' : Wd} {s s' : Shared} {h₀ : Heap}

theorem NameH.at {h h' : Heap} {x : Str} {v : Value} (H : NameH h env x v) (hl : ∀ o, h.get? env.locals = some o → h'.get? env.locals = some o)
    (hc : ∀ c o, env.cells.lookup x = some c → h.get? c = some o → h'.get? c = some o) : NameH h' env x v := by
  rcases H with ⟨k, mv, ⟨o, es, ep, ho, r⟩, hx⟩ | ⟨k, c, hx, o, ho, r⟩
  · exact .inl ⟨k, mv, ⟨o, es, ep, hl o ho, r⟩, hx⟩
  · exact .inr ⟨k, c, hx, o, hc c o hx ho, r⟩

/-- a frame that nobody touches -/
theorem Fram.step {own' : Addr → Prop} (S : Sim h₀ W s) (F : Fram own env kd m W s) (x : Step own' s W s' W') (hd : ¬ own' env.locals ∧ ∀ y c, env.cells.lookup y = some c → ¬ own' c) : Fram own env kd m W' s' := by
  obtain ⟨mv, o, es, ep, ho, r⟩ := F.ns
  have kl : ∀ o, s.heap.get? env.locals = some o → s'.heap.get? env.locals = some o := fun o e => x.keep _ o e (fun n q => absurd q (F.lo.2.2 n)) hd.1
  have kc : ∀ y c o, env.cells.lookup y = some c → s.heap.get? c = some o → s'.heap.get? c = some o := fun y c o q e => x.keep _ o e (fun n q' => absurd q' ((F.cl y c q).2.2 n)) (hd.2 y c q)
  have lv : ∀ y c, env.cells.lookup y = some c → ∃ o, s.heap.get? c = some o := fun y c q => by obtain ⟨⟨v, o, e, _⟩, _⟩ := F.cl y c q; exact ⟨o, e⟩
  refine ⟨F.fn, F.gl, F.bi, F.kE, F.dbg, fun y d e => ?_, ⟨mv, o, es, ep, kl o ho, r⟩, fun y c q => ?_, F.ci, ⟨F.lo.1, ?_, fun n q => ?_⟩, fun y e => ?_, F.kF⟩
  · obtain ⟨h1, v, h2, h3⟩ := F.nm y d e
    exact ⟨h1, v, h2.at kl (fun c o q e => kc y c o q e), x.rep S h3⟩
  · obtain ⟨⟨v, o', e', r'⟩, h2, h3⟩ := F.cl y c q
    refine ⟨⟨v, o', kc y c o' q e', r'⟩, h2, fun n q' => ?_⟩
    rcases x.new n c q' with h | h
    · exact h3 n h
    · rw [e'] at h; cases h
  · rw [x.extR _ o ho]; exact F.lo.2.1
  · rcases x.new n _ q with h | h
    · exact F.lo.2.2 n h
    · rw [ho] at h; cases h
  · obtain ⟨c, h1, h2, h3⟩ := F.co y e
    obtain ⟨o', e'⟩ := lv y c h1
    exact ⟨c, h1, h2, by rw [x.extR _ o' e']; exact h3⟩

theorem Fram.step0 (S : Sim h₀ W s) (F : Fram own env kd m W s) (x : Step noOwn s W s' W') : Fram own env kd m W' s' := F.step S x ⟨id, fun _ _ _ => id⟩

theorem Fram.forget (F : Fram own env kd m W s) {m' : Loc} (h : ∀ x d, m' x = some d → m x = some d) : Fram own env kd m' W s :=
  ⟨F.fn, F.gl, F.bi, F.kE, F.dbg, fun x d e => F.nm x d (h x d e), F.ns, F.cl, F.ci, F.lo, F.co, F.kF⟩
theorem Fram.st (F : Fram own env kd m W s) (st' : St) : Fram own env kd m { W with st := st' } s :=
  ⟨F.fn, F.gl, F.bi, F.kE, F.dbg, F.nm, F.ns, F.cl, F.ci, F.lo, F.co, F.kF⟩
end

section
variable {prog : Program} {w : World} {A : Around} {h₀ : Heap} {own : Addr → Prop} {env : Env} {kd : Kd} {m : Loc} {W : Wd} {s : Shared}

theorem ok_load {x : Str} {d : D} {Q : D → St → Prop} (S : Sim h₀ W s) (F : Fram own env kd m W s) (hx : m x = some d) (h : Q d W.st) :
    OK prog w A h₀ noOwn (loadName env x) W s (VP Q) := by
  obtain ⟨hk, v, H, hr⟩ := F.nm x d hx
  have fin : Fin' h₀ noOwn s W (VP Q) v s := ⟨W, Step.refl s W, S, d, hr, h⟩
  rcases H with ⟨k, mv, hns, hv⟩ | ⟨k, c, hc, hv⟩
  · exact wpAny_loadName_local F.fn k hns hv fin
  · rcases k with k | k
    · exact wpAny_loadName_cell F.fn k hc hv fin
    · refine wpAny_loadName_free F.fn k hc hv fin ?_
      cases q : x == ("__classdict__" : Str) with
      | false => rfl
      | true => rw [beq_iff_eq.mp q] at hk; exact absurd F.dbg.2 hk

theorem ok_store {x : Str} {d : D} {v : Value} (S : Sim h₀ W s) (F : Fram own env kd m W s) (hx : isOwn kd x = true) (hr : Rep W.R W.ρ d v) :
    OK prog w A h₀ own (storeName env x v) W s (fun _ W' s' => W' = W ∧ Fram own env kd (upd m x d) W s') := by
  have hx' : kd x = some .local ∨ kd x = some .cell := by
    unfold isOwn at hx
    rcases Bool.or_eq_true_iff.mp hx with q | q
    · exact .inl (beq_iff_eq.mp q)
    · exact .inr (beq_iff_eq.mp q)
  have hkn : kd x ≠ none := by rcases hx' with q | q <;> rw [q] <;> exact fun z => nomatch z
  rcases hx' with hk | hk
  · have hkE := F.kE x _ hk (by intro z; cases z)
    obtain ⟨mv, hns⟩ := F.ns
    refine wpAny_storeName_local hkE hns (fun h' hn' hs' => ?_) (by rw [F.fn]; rfl)
    have ext : ∀ b o, b ≠ env.locals → s.heap.get? b = some o → h'.get? b = some o := fun b o q e => (hs'.2 b q).trans e
    have lv : ∃ o, h'.get? env.locals = some o := let ⟨o, _, _, ho, _⟩ := hn'; ⟨o, ho⟩
    obtain ⟨st, sm⟩ := S.ownStep (own := own) (tk := s.toks + 1) F.lo.1 F.lo.2.1 F.lo.2.2 ext lv
    refine ⟨W, st, sm, rfl, F.fn, F.gl, F.bi, F.kE, F.dbg, fun y e he => ?_, ⟨_, hn'⟩, fun y c q => ?_, F.ci, F.lo, F.co, F.kF⟩
    · by_cases q : y = x
      · subst q
        have he' : some d = some e := by have : (if y = y then some d else m y) = some e := he; rwa [if_pos rfl] at this
        cases he'
        exact ⟨hkn, v, .inl ⟨hkE, _, hn', by simp⟩, hr⟩
      · have he' : m y = some e := by have : (if y = x then some d else m y) = some e := he; rwa [if_neg q] at this
        obtain ⟨h1, u, H, hu⟩ := F.nm y e he'
        refine ⟨h1, u, ?_, hu⟩
        rcases H with ⟨k, mv', hns', hv'⟩ | ⟨k, c, hc, o, ho, r⟩
        · refine .inl ⟨k, _, hn', ?_⟩
          show (if y = x then some v else mv y) = some u
          rw [if_neg q]
          have : mv' = mv := by
            obtain ⟨o1, es1, ep1, ho1, hd1, _, hf1⟩ := hns'
            obtain ⟨o2, es2, ep2, ho2, hd2, _, hf2⟩ := hns
            rw [ho1] at ho2; cases ho2
            rw [hd1] at hd2; cases hd2
            funext z; rw [← hf1 z, hf2 z]
          rw [← this]; exact hv'
        · exact .inr ⟨k, c, hc, o, ext c o (F.cl y c hc).2.1 ho, r⟩
    · obtain ⟨⟨u, o, ho, r⟩, h2, h3⟩ := F.cl y c q
      exact ⟨⟨u, o, ext c o h2 ho, r⟩, h2, h3⟩
  · have hkE := F.kE x _ hk (by intro z; cases z)
    obtain ⟨c, hc, hoc, hRc⟩ := F.co x hk
    obtain ⟨⟨v0, hcell⟩, hcl, hcr⟩ := F.cl x c hc
    refine wpAny_storeName_cell F.fn hkE hc hcell (fun h' hn' hs' => ?_)
    have ext : ∀ b o, b ≠ c → s.heap.get? b = some o → h'.get? b = some o := fun b o q e => (hs'.2 b q).trans e
    have lv : ∃ o, h'.get? c = some o := let ⟨o, ho, _⟩ := hn'; ⟨o, ho⟩
    obtain ⟨st, sm⟩ := S.ownStep (own := own) (tk := s.toks) hoc hRc hcr ext lv
    obtain ⟨mv, o0, es0, ep0, ho0, r0⟩ := F.ns
    refine ⟨W, st, sm, rfl, F.fn, F.gl, F.bi, F.kE, F.dbg, fun y e he => ?_, ⟨mv, o0, es0, ep0, ext _ _ hcl.symm ho0, r0⟩, fun y c' q => ?_, F.ci, F.lo, F.co, F.kF⟩
    · by_cases q : y = x
      · subst q
        have he' : some d = some e := by have : (if y = y then some d else m y) = some e := he; rwa [if_pos rfl] at this
        cases he'
        exact ⟨hkn, v, .inr ⟨.inl hkE, c, hc, hn'⟩, hr⟩
      · have he' : m y = some e := by have : (if y = x then some d else m y) = some e := he; rwa [if_neg q] at this
        obtain ⟨h1, u, H, hu⟩ := F.nm y e he'
        refine ⟨h1, u, ?_, hu⟩
        refine H.at (fun o e => ext _ o hcl.symm e) (fun c' o q' e => ext _ o (fun z => q (F.ci y x c (z ▸ q') hc)) e)
    · obtain ⟨⟨u, o, ho, r⟩, h2, h3⟩ := F.cl y c' q
      refine ⟨?_, h2, h3⟩
      by_cases z : c' = c
      · exact ⟨_, z ▸ hn'⟩
      · exact ⟨u, o, ext c' o z ho, r⟩

theorem ok_bind_name {x : Str} {d : D} {v : Value} (S : Sim h₀ W s) (F : Fram own env kd m W s) (hx : isOwn kd x = true) (hr : Rep W.R W.ρ d v) :
    OK prog w A h₀ own (bindName env x v) W s (fun _ W' s' => W' = W ∧ Fram own env kd (upd m x d) W s') := wpAny_bindName (ok_store S F hx hr)
end

end Mine
end

section
set_option autoImplicit false
set_option linter.unusedVariables false
namespace Mine
open PySem

theorem lim_line : lim ≤ sizeLine := by decide
theorem le_line {n : Nat} (h : n ≤ lim) : n ≤ sizeLine := Nat.le_trans h lim_line

section
variable {R : Addr → Option Obj} {ρ : Nat → Option Addr}
theorem ints_rep : ∀ {ds : List D} {is : List Int} {vs : List Value}, intsD ds = some is → RepAll R ρ ds vs → ds = is.map .int
  | [], is, _, h, _ => by simp [intsD] at h; subst h; rfl
  | d :: ds, is, vs, h, ⟨v, ws, _, hd, hr⟩ => by
    cases d with
    | int i =>
      simp only [intsD, Option.map_eq_some_iff] at h
      obtain ⟨js, hj, rfl⟩ := h
      rw [ints_rep hj hr]; rfl
    | _ => simp [intsD] at h
end

section
variable {h₀ : Heap} {W : Wd} {s : Shared}
/-- a tuple's object -/
theorem Sim.tup (S : Sim h₀ W s) {ds : List D} {v : Value} (h : Rep W.R W.ρ (.tup ds) v) : ∃ a vs n, v = .ref a ∧ s.heap.get? a = some (tupO vs n) ∧ RepAll W.R W.ρ ds vs := by
  obtain ⟨a, vs, n, e, hR, hr⟩ := h
  exact ⟨a, vs, n, e, S.frz _ _ hR, hr⟩
/-- a list's object, frozen or tracked -/
theorem Sim.lst (S : Sim h₀ W s) {d : D} {ds : List D} {v : Value} (h : Rep W.R W.ρ d v) (hd : lstD W.st d = some ds) : ∃ a vs n, v = .ref a ∧ s.heap.get? a = some (lstO vs n) ∧ RepAll W.R W.ρ ds vs := by
  cases d with
  | list es =>
    simp only [lstD, Option.some.injEq] at hd; subst hd
    obtain ⟨a, vs, n, e, hR, hr⟩ := h
    exact ⟨a, vs, n, e, S.frz _ _ hR, hr⟩
  | loc n =>
    obtain ⟨a, ha, e⟩ := h
    simp only [lstD] at hd
    cases hc : W.st.cs n with
    | none => rw [hc] at hd; cases hd
    | some c =>
      rw [hc] at hd
      cases c with
      | dict es => cases hd
      | list es =>
        cases hd
        obtain ⟨b, hb, hcell⟩ := S.cel n _ hc
        obtain ⟨vs, k, hg, hr⟩ := hcell
        rw [ha] at hb; cases hb
        exact ⟨a, vs, k, e, hg, hr⟩
  | _ => simp [lstD] at hd
theorem seqD_cases {st : St} {d : D} {ds : List D} (h : seqD st d = some ds) : d = .tup ds ∨ lstD st d = some ds := by
  cases d with
  | tup es => simp only [seqD, Option.some.injEq] at h; subst h; exact .inl rfl
  | list es => exact .inr h
  | loc n => exact .inr h
  | _ => simp [seqD] at h
theorem Sim.seq (S : Sim h₀ W s) {d : D} {ds : List D} {v : Value} (h : Rep W.R W.ρ d v) (hd : seqD W.st d = some ds) :
    ∃ a vs n T, v = .ref a ∧ (T = "list" ∨ T = "tuple") ∧ s.heap.get? a = some { cls := .type T, dict := none, data := .seq vs.toArray n, slots := #[] } ∧ RepAll W.R W.ρ ds vs := by
  rcases seqD_cases hd with rfl | hd
  · obtain ⟨a, vs, n, e, hg, hr⟩ := S.tup h; exact ⟨a, vs, n, "tuple", e, .inr rfl, hg, hr⟩
  · obtain ⟨a, vs, n, e, hg, hr⟩ := S.lst h hd; exact ⟨a, vs, n, "list", e, .inl rfl, hg, hr⟩
end

theorem mapM_some_cons {α β : Type} {f : α → Option β} {a : α} {l : List α} {ys : List β} (h : (a :: l).mapM f = some ys) : ∃ y zs, f a = some y ∧ l.mapM f = some zs ∧ ys = y :: zs := by
  rw [List.mapM_cons] at h
  cases hf : f a with
  | none => rw [hf] at h; cases h
  | some y =>
    rw [hf] at h
    cases hm : l.mapM f with
    | none => rw [hm] at h; cases h
    | some zs => rw [hm] at h; cases h; exact ⟨y, zs, rfl, rfl, rfl⟩

section
variable {h₀ : Heap} {W : Wd} {s : Shared}
mutual
theorem py_reads (S : Sim h₀ W s) : ∀ (d : D) (v : Value) (x : PyData), Rep W.R W.ρ d v → d.py = some x → (∃ as, Reads s.heap v x as) ∧ x.canLay0 = true
  | .none, v, x, h, e => by simp only [D.py, Option.some.injEq] at e; subst e; have h' : v = .none := h; subst h'; exact ⟨⟨_, .none⟩, rfl⟩
  | .bool b, v, x, h, e => by simp only [D.py, Option.some.injEq] at e; subst e; have h' : v = .bool b := h; subst h'; exact ⟨⟨_, .bool b⟩, rfl⟩
  | .int i, v, x, h, e => by simp only [D.py, Option.some.injEq] at e; subst e; obtain ⟨t, rfl⟩ := h; exact ⟨⟨_, .int i t⟩, rfl⟩
  | .str y, v, x, h, e => by
    simp only [D.py] at e
    split at e
    · rename_i hs; cases e; obtain ⟨t, rfl⟩ := h; exact ⟨⟨_, .str y t⟩, by simpa [PyData.canLay0] using hs⟩
    · cases e
  | .loc _, _, _, _, e => by simp [D.py] at e
  | .val _, _, _, _, e => by simp [D.py] at e
  | .tup ds, v, x, h, e => by
    simp only [D.py, Option.map_eq_some_iff] at e
    obtain ⟨xs, hx, rfl⟩ := e
    obtain ⟨a, vs, n, rfl, hg, hr⟩ := S.tup h
    obtain ⟨⟨as, ra⟩, hl⟩ := pys_reads S ds vs xs hr hx
    exact ⟨⟨_, .tuple hg rfl rfl (by simpa using ra)⟩, by simpa [PyData.canLay0] using hl⟩
  | .list ds, v, x, h, e => by
    simp only [D.py, Option.map_eq_some_iff] at e
    obtain ⟨xs, hx, rfl⟩ := e
    obtain ⟨a, vs, n, rfl, hg, hr⟩ := S.lst h rfl
    obtain ⟨⟨as, ra⟩, hl⟩ := pys_reads S ds vs xs hr hx
    exact ⟨⟨_, .list hg rfl rfl (by simpa using ra)⟩, by simpa [PyData.canLay0] using hl⟩
theorem pys_reads (S : Sim h₀ W s) : ∀ (ds : List D) (vs : List Value) (xs : List PyData), RepAll W.R W.ρ ds vs → pys ds = some xs → (∃ as, ReadsAll s.heap vs xs as) ∧ PyData.canLayAll0 xs = true
  | [], vs, xs, h, e => by simp only [pys, Option.some.injEq] at e; subst e; have h' : vs = [] := h; subst h'; exact ⟨⟨_, .nil⟩, rfl⟩
  | d :: ds, vs, xs, h, e => by
    obtain ⟨v, ws, rfl, hd, hr⟩ := h
    simp only [pys] at e
    split at e
    · rename_i y ys hy hys
      cases e
      obtain ⟨⟨as, ra⟩, l1⟩ := py_reads S d v y hd hy
      obtain ⟨⟨bs, rb⟩, l2⟩ := pys_reads S ds ws ys hr hys
      exact ⟨⟨_, .cons ra rb⟩, by simp [PyData.canLayAll0, l1, l2]⟩
    · cases e
end
theorem pyD_reads (S : Sim h₀ W s) : ∀ (k : Nat) (d : D) (v : Value) (x : PyData), Rep W.R W.ρ d v → pyD W.st k d = some x → (∃ as, Reads s.heap v x as) ∧ x.canLay0 = true := by
  intro k
  induction k with
  | zero => intro d v x h e; exact py_reads S d v x h e
  | succ k ih =>
    have all : ∀ (ds : List D) (vs : List Value) (xs : List PyData), RepAll W.R W.ρ ds vs → ds.mapM (pyD W.st k) = some xs → (∃ as, ReadsAll s.heap vs xs as) ∧ PyData.canLayAll0 xs = true := by
      intro ds
      induction ds with
      | nil => intro vs xs h e; simp at e; subst e; have h' : vs = [] := h; subst h'; exact ⟨⟨_, .nil⟩, rfl⟩
      | cons d ds ih2 =>
        intro vs xs h e
        obtain ⟨v, ws, rfl, hd, hr⟩ := h
        obtain ⟨y, ys, hy, hys, rfl⟩ := mapM_some_cons e
        obtain ⟨⟨as, ra⟩, l1⟩ := ih d v y hd hy
        obtain ⟨⟨bs, rb⟩, l2⟩ := ih2 ws ys hr hys
        exact ⟨⟨_, .cons ra rb⟩, by simp [PyData.canLayAll0, l1, l2]⟩
    intro d v x h e
    cases d with
    | loc n =>
      simp only [pyD] at e
      cases hc : W.st.cs n with
      | none => rw [hc] at e; cases e
      | some c =>
        rw [hc] at e
        cases c with
        | dict es => cases e
        | list ds =>
          simp only [Option.map_eq_some_iff] at e
          obtain ⟨xs, hx, rfl⟩ := e
          obtain ⟨a, vs, n', rfl, hg, hr⟩ := S.lst (d := .loc n) (ds := ds) h (by simp [lstD, hc])
          obtain ⟨⟨as, ra⟩, hl⟩ := all ds vs xs hr hx
          exact ⟨⟨_, .list hg rfl rfl (by simpa using ra)⟩, by simpa [PyData.canLay0] using hl⟩
    | tup ds =>
      simp only [pyD] at e
      cases hp : D.py (.tup ds) with
      | some y => rw [hp] at e; cases e; exact py_reads S _ v _ h hp
      | none =>
        rw [hp] at e
        simp only [Option.map_eq_some_iff] at e
        obtain ⟨xs, hx, rfl⟩ := e
        obtain ⟨a, vs, n, rfl, hg, hr⟩ := S.tup h
        obtain ⟨⟨as, ra⟩, hl⟩ := all ds vs xs hr hx
        exact ⟨⟨_, .tuple hg rfl rfl (by simpa using ra)⟩, by simpa [PyData.canLay0] using hl⟩
    | list ds =>
      simp only [pyD] at e
      cases hp : D.py (.list ds) with
      | some y => rw [hp] at e; cases e; exact py_reads S _ v _ h hp
      | none =>
        rw [hp] at e
        simp only [Option.map_eq_some_iff] at e
        obtain ⟨xs, hx, rfl⟩ := e
        obtain ⟨a, vs, n, rfl, hg, hr⟩ := S.lst h rfl
        obtain ⟨⟨as, ra⟩, hl⟩ := all ds vs xs hr hx
        exact ⟨⟨_, .list hg rfl rfl (by simpa using ra)⟩, by simpa [PyData.canLay0] using hl⟩
    | none => exact py_reads S _ v x h e
    | bool b => exact py_reads S _ v x h e
    | int i => exact py_reads S _ v x h e
    | str y => exact py_reads S _ v x h e
    | val u => exact py_reads S _ v x h e
end

section
variable {prog : Program} {w : World} {A : Around} {h₀ : Heap} {W : Wd} {s : Shared} {Q : D → St → Prop}

theorem done_val {d : D} {v : Value} (S : Sim h₀ W s) (hr : Rep W.R W.ρ d v) (h : Q d W.st) (t : Nat) : Fin' h₀ noOwn s W (VP Q) v { s with toks := t } :=
  ⟨W, Step.toks s W t, S.toks t, d, hr, h⟩
theorem done_val' {d : D} {v : Value} (S : Sim h₀ W s) (hr : Rep W.R W.ρ d v) (h : Q d W.st) : Fin' h₀ noOwn s W (VP Q) v s := ⟨W, Step.refl s W, S, d, hr, h⟩

/-- a new frozen object -/
theorem done_new {h' : Heap} {tk : Nat} {a : Addr} {o : Obj} {d : D} (S : Sim h₀ W s) (hk : ∀ b o, s.heap.get? b = some o → h'.get? b = some o) (ha : s.heap.get? a = none) (hg : h'.get? a = some o)
    (hr : ∀ R', R' a = some o → (∀ b o, W.R b = some o → R' b = some o) → Rep R' W.ρ d (.ref a)) (h : Q d W.st) :
    Fin' h₀ noOwn s W (VP Q) (.ref a) { s with heap := h', toks := tk } := by
  obtain ⟨st, sm⟩ := S.ext (own := noOwn) (tk := tk) hk (fun b => if b = a then some o else none) (fun b o' e => by
    by_cases q : b = a
    · rw [if_pos q] at e; cases e; subst q; exact ⟨ha, hg⟩
    · rw [if_neg q] at e; cases e)
  refine ⟨_, st, sm, d, hr _ ?_ ?_, h⟩
  · show ((if a = a then some o else none).or (W.R a)) = some o
    rw [if_pos rfl]; rfl
  · intro b o' e
    show ((if b = a then some o else none).or (W.R b)) = some o'
    rw [if_neg (fun q => by subst q; rw [S.frz _ _ e] at ha; cases ha)]; exact e
theorem get_size (h : Heap) : h.get? h.objs.size = none := by
  cases q : h.get? h.objs.size with
  | none => rfl
  | some o => exact absurd (Heap.lt_size q) (Nat.lt_irrefl _)

theorem done_tup {h' : Heap} {tk : Nat} {a : Addr} {n : Nat} {ds : List D} {vs : List Value} (S : Sim h₀ W s) (hk : ∀ b o, s.heap.get? b = some o → h'.get? b = some o) (ha : s.heap.get? a = none)
    (hg : h'.get? a = some (tupO vs n)) (hr : RepAll W.R W.ρ ds vs) (h : Q (.tup ds) W.st) : Fin' h₀ noOwn s W (VP Q) (.ref a) { s with heap := h', toks := tk } :=
  done_new (d := .tup ds) S hk ha hg (fun R' h1 h2 => ⟨a, vs, n, rfl, h1, RepAll.mono h2 (fun _ _ e => e) ds vs hr⟩) h
theorem done_list {trk : Bool} {h' : Heap} {tk : Nat} {a : Addr} {n : Nat} {ds : List D} {vs : List Value} (S : Sim h₀ W s) (hk : ∀ b o, s.heap.get? b = some o → h'.get? b = some o) (ha : s.heap.get? a = none)
    (hg : h'.get? a = some (lstO vs n)) (hr : RepAll W.R W.ρ ds vs) (h : mkList trk ds W.st Q) : Fin' h₀ noOwn s W (VP Q) (.ref a) { s with heap := h', toks := tk } := by
  obtain ⟨_, h⟩ := h
  cases trk with
  | false => exact done_new (d := .list ds) S hk ha hg (fun R' h1 h2 => ⟨a, vs, n, rfl, h1, RepAll.mono h2 (fun _ _ e => e) ds vs hr⟩) h
  | true =>
    obtain ⟨st, sm, e⟩ := S.track (own := noOwn) (tk := tk) hk ha hg hr
    exact ⟨_, st, sm, .loc W.st.hi, ⟨a, e, rfl⟩, h⟩

theorem ok_newTuple {ds : List D} {vs : List Value} (S : Sim h₀ W s) (hr : RepAll W.R W.ρ ds vs) (hl : ds.length ≤ lim) (h : Q (.tup ds) W.st) : OK prog w A h₀ noOwn (newTuple vs) W s (VP Q) :=
  wpAny_newTuple (done_tup (n := 0) (tk := s.toks) S (fun b o e => Heap.get?_push_of_some _ e) (get_size _) (Heap.get?_push_size _ rfl) hr h) (by rw [hr.length]; exact le_line hl)
theorem ok_newList {trk : Bool} {ds : List D} {vs : List Value} (S : Sim h₀ W s) (hr : RepAll W.R W.ρ ds vs) (h : mkList trk ds W.st Q) : OK prog w A h₀ noOwn (newList vs) W s (VP Q) :=
  wpAny_newList (done_list (n := 0) (tk := s.toks) S (fun b o e => Heap.get?_push_of_some _ e) (get_size _) (Heap.get?_push_size _ rfl) hr h) (by rw [hr.length]; exact le_line h.1)

theorem ok_const {env : Env} {c : Const} (S : Sim h₀ W s) (h : match c with
      | .none => Q .none W.st
      | .bool b => Q (.bool b) W.st
      | .int i => Q (.int i) W.st
      | .str x => Q (.str x) W.st
      | _ => False) : OK prog w A h₀ noOwn (constValue env c) W s (VP Q) := by
  cases c with
  | none => exact OK.pure S ⟨.none, rfl, h⟩
  | bool b => exact OK.pure S ⟨.bool b, rfl, h⟩
  | int i => exact wpAny_mkInt (done_val (d := .int i) S ⟨_, rfl⟩ h _)
  | str x => exact wpAny_mkText (done_val (d := .str x) S ⟨_, rfl⟩ h _)
  | _ => exact h.elim

theorem fmod_eq {i j : Int} (h : 0 < j) : i.fmod j = i % j := by rw [Int.fmod_eq_emod_of_nonneg _ (Int.le_of_lt h)]
theorem fdiv_eq {i j : Int} (h : 0 < j) : i.fdiv j = i / j := by rw [Int.fdiv_eq_ediv_of_nonneg _ (Int.le_of_lt h)]
theorem noPylong {i j : Int} (h0 : 0 < j) (h : j < 2 ^ 30) : Builtin.divisionGoesByPylong i j = false := by
  unfold Builtin.divisionGoesByPylong
  have h1 : ¬ (j == 0) = true := by simp; omega
  have h2 : j.natAbs < 2 ^ 30 := by omega
  have h3 : j.natAbs.log2 < 30 := (Nat.log2_lt (by omega)).mpr h2
  have h4 : j.natAbs.log2 / 30 = 0 := Nat.div_eq_of_lt h3
  simp [h1, h4]
end
end Mine
end

section
set_option autoImplicit false
set_option linter.unusedVariables false
namespace Mine
open PySem

structure AOk (k : Nat) (A : Around) : Prop where
  hn : A.handled = none
  dp : A.depth + k < 990
  un : A.units + 8 * k < 8000

section
variable {prog : Program} {w : World} {A : Around} {h₀ : Heap} {W : Wd} {s : Shared} {Q : D → St → Prop}

theorem mul_any {E : Value → Shared → Prop} {l : Addr} {items : Array Value} {k : Nat} {x : Int} {u : Tok} {Q : Value → Shared → Prop} (hl : IsL s.heap l items k)
    (hlo : -(2 ^ 63 : Int) ≤ x) (hhi : x < 2 ^ 63) (hsz : items.size * x.toNat ≤ 2 ^ 24)
    (h : Q (.ref s.heap.objs.size) { s with heap := s.heap.push { cls := .type "list", data := .seq (List.foldl (fun x1 x2 => x1 ++ x2) #[] (List.replicate (if items.isEmpty = true then 0 else x.toNat) items)) } }) :
    wpAny (model prog w) A (binaryOp .Mult (.ref l) (.int x u)) Q E s :=
  wpAny_binaryOp_repeat_ref (T := "list") (U := "int") (by decide) ⟨_, hl, rfl⟩ (fun s' => typeIs_int s' x u) noFill_list_mul F.fills_int_mul F.slot_int_rmul repeat_list F.slot_int_index.lookup
    (call_meets F.slot_int_rmul (typeIs_int s x u) F.entry_int_rmul (F.args_int_rmul_2 _ _) (int___rmul___int_list x u l items k)
      ⟨hl, rfl, ⟨_, hl, rfl⟩, call_meets F.slot_list_mul ⟨_, hl, rfl⟩ F.entry_list_mul (F.args_list_mul_2 _ _)
        (AutoListH.list___mul___list_int_3 l items k x u (by simp [Builtin.List.listFitsIndex]; omega) (by omega) (by simp [Builtin.List.listTooLong, sizeLine]; omega)) ⟨hl, h⟩⟩)

theorem fold_toList (n : Nat) (items : Array Value) : (List.foldl (fun x1 x2 => x1 ++ x2) #[] (List.replicate n items)).toList = (List.replicate n items.toList).flatten := by
  have gen : ∀ (n : Nat) (acc : Array Value), (List.foldl (fun x1 x2 => x1 ++ x2) acc (List.replicate n items)).toList = acc.toList ++ (List.replicate n items.toList).flatten := by
    intro n
    induction n with
    | zero => intro acc; simp
    | succ n ih => intro acc; rw [List.replicate_succ, List.foldl_cons, ih]; simp [List.replicate_succ]
  rw [gen]; simp
theorem repAll_rep {R : Addr → Option Obj} {ρ : Nat → Option Addr} {ds : List D} {vs : List Value} (h : RepAll R ρ ds vs) (n : Nat) : RepAll R ρ (List.replicate n ds).flatten (List.replicate n vs).flatten := by
  induction n with
  | zero => rfl
  | succ n ih => simp only [List.replicate_succ, List.flatten_cons]; exact h.append ih

theorem arr_list (a : Array Value) : (⟨a.toList⟩ : Array Value) = a := by cases a; rfl

theorem ok_add {trk : Bool} {a b : D} {va vb : Value} (S : Sim h₀ W s) (ra : Rep W.R W.ρ a va) (rb : Rep W.R W.ρ b vb) (h : wAdd trk a b W.st Q) : OK prog w A h₀ noOwn (binaryOp .Add va vb) W s (VP Q) := by
  have lists : (∃ xs ys, lstD W.st a = some xs ∧ lstD W.st b = some ys ∧ mkList trk (xs ++ ys) W.st Q) → OK prog w A h₀ noOwn (binaryOp .Add va vb) W s (VP Q) := by
    rintro ⟨xs, ys, hx, hy, h⟩
    obtain ⟨l, vs, n, rfl, hg, hr⟩ := S.lst ra hx
    obtain ⟨l2, vs2, n2, rfl, hg2, hr2⟩ := S.lst rb hy
    refine P.add_list hg hg2 ?_ (by have h1 := hr.length; have h2 := hr2.length; have h3 := h.1; simp only [List.length_append, List.size_toArray] at *; rw [h1, h2]; exact le_line h3)
    refine done_list (n := 0) (tk := s.toks) S (fun b o e => Heap.get?_push_of_some _ e) (get_size _) (vs := vs ++ vs2) ?_ (hr.append hr2) h
    have := Heap.get?_push_size s.heap (o := { cls := .type "list", data := .seq (vs.toArray ++ vs2.toArray) }) rfl
    simpa using this
  unfold wAdd at h
  split at h
  · obtain ⟨t, rfl⟩ := ra; obtain ⟨u, rfl⟩ := rb
    exact P.add_int (done_val (d := .int _) S ⟨_, rfl⟩ h _)
  · rename_i xs ys
    obtain ⟨hl, h⟩ := h
    obtain ⟨t1, vs, n, rfl, hg, hr⟩ := S.tup ra
    obtain ⟨t2, vs2, n2, rfl, hg2, hr2⟩ := S.tup rb
    have hl1 := hr.length; have hl2 := hr2.length
    have sz : vs.toArray.size + vs2.toArray.size ≤ sizeLine := by simp only [List.size_toArray]; rw [hl1, hl2]; exact le_line hl
    by_cases e1 : vs.toArray.isEmpty = true
    · have e0 : vs = [] := by simpa using e1
      have e1' : xs = [] := List.length_eq_zero_iff.mp (by rw [← hl1, e0]; rfl)
      subst e1'
      exact concat_meets ⟨_, hg, rfl⟩ ⟨_, hg2, rfl⟩ noFill_tuple_add seq_tuple_add F.slot_tuple_add F.entry_tuple_add (F.args_tuple_add_2 _ _) (AutoSeq1.tuple___add___tuple_tuple_0 t1 _ n t2 _ n2 e1)
        ⟨hg, hg2, done_val' (d := .tup ([] ++ ys)) S rb h⟩
    · by_cases e2 : vs2.toArray.isEmpty = true
      · have e0 : vs2 = [] := by simpa using e2
        have e2' : ys = [] := List.length_eq_zero_iff.mp (by rw [← hl2, e0]; rfl)
        subst e2'
        refine concat_meets ⟨_, hg, rfl⟩ ⟨_, hg2, rfl⟩ noFill_tuple_add seq_tuple_add F.slot_tuple_add F.entry_tuple_add (F.args_tuple_add_2 _ _) (AutoSeq1.tuple___add___tuple_tuple_1 t1 _ n t2 _ n2 e1 e2) ⟨hg, hg2, done_val' (d := .tup (xs ++ [])) S (by rw [List.append_nil]; exact ra) h⟩
      · refine P.add_tuple hg hg2 e1 e2 ?_ sz
        refine done_tup (n := 0) (tk := s.toks) S (fun b o e => Heap.get?_push_of_some _ e) (get_size _) (vs := vs ++ vs2) ?_ (hr.append hr2) h
        have := Heap.get?_push_size s.heap (o := { cls := .type "tuple", data := .seq (vs.toArray ++ vs2.toArray) }) rfl
        simpa using this
  · exact lists h

theorem ok_mul {trk : Bool} {a b : D} {va vb : Value} (S : Sim h₀ W s) (ra : Rep W.R W.ρ a va) (rb : Rep W.R W.ρ b vb) (h : wMul trk a b W.st Q) : OK prog w A h₀ noOwn (binaryOp .Mult va vb) W s (VP Q) := by
  unfold wMul at h
  split at h
  · obtain ⟨t, rfl⟩ := ra; obtain ⟨u, rfl⟩ := rb
    exact P.mul_int (done_val (d := .int _) S ⟨_, rfl⟩ h.2 _) h.1
  · rename_i n _
    obtain ⟨u, rfl⟩ := rb
    obtain ⟨xs, hx, hm, hn, h1, h⟩ := h
    obtain ⟨l, vs, k, rfl, hg, hr⟩ := S.lst ra hx
    have hl := hr.length
    have hlo : -(2 ^ 63 : Int) ≤ n := by have : -(1000000 : Int) ≤ n := hm; omega
    · have hn' : n < 1000000 := hn
      refine mul_any hg hlo (by omega) ?_ ?_
      · have : vs.toArray.size ≤ 1 := by rw [List.size_toArray, hl]; exact h1
        have h2 : n.toNat ≤ 1000000 := by omega
        calc vs.toArray.size * n.toNat ≤ 1 * 1000000 := Nat.mul_le_mul this h2
          _ ≤ 2 ^ 24 := by decide
      · refine done_list (n := 0) (tk := s.toks) S (fun b o e => Heap.get?_push_of_some _ e) (get_size _) (vs := (List.replicate n.toNat vs).flatten) ?_ (repAll_rep hr _) h
        have e := fold_toList (if vs.toArray.isEmpty = true then 0 else n.toNat) vs.toArray
        have e2 : (List.replicate (if vs.toArray.isEmpty = true then 0 else n.toNat) vs).flatten = (List.replicate n.toNat vs).flatten := by
          by_cases q : vs.toArray.isEmpty = true
          · have q' : vs = [] := by simpa using q
            subst q'; simp
          · rw [if_neg q]
        have := Heap.get?_push_size s.heap (o := { cls := .type "list", data := .seq (List.foldl (fun x1 x2 => x1 ++ x2) #[] (List.replicate (if vs.toArray.isEmpty = true then 0 else n.toNat) vs.toArray)) }) rfl
        rw [this]
        show some _ = some (lstO _ 0)
        have e3 : (List.foldl (fun x1 x2 => x1 ++ x2) #[] (List.replicate (if vs.toArray.isEmpty = true then 0 else n.toNat) vs.toArray)) = ((List.replicate n.toNat vs).flatten).toArray := by
          rw [← e2]
          have : (List.replicate (if vs.toArray.isEmpty = true then 0 else n.toNat) vs).flatten = (List.replicate (if vs.toArray.isEmpty = true then 0 else n.toNat) vs.toArray.toList).flatten := by simp
          rw [this, ← e]
        rw [e3]
  · exact h.elim

theorem ok_bin {trk : Bool} {op : Operator} {a b : D} {va vb : Value} (S : Sim h₀ W s) (ra : Rep W.R W.ρ a va) (rb : Rep W.R W.ρ b vb) (h : wBin trk op a b W.st Q) : OK prog w A h₀ noOwn (binaryOp op va vb) W s (VP Q) := by
  cases op with
  | Add => exact ok_add S ra rb h
  | Mult => exact ok_mul S ra rb h
  | Sub =>
    simp only [wBin] at h
    split at h
    · obtain ⟨t, rfl⟩ := ra; obtain ⟨u, rfl⟩ := rb
      exact P.sub_int (done_val (d := .int _) S ⟨_, rfl⟩ h _)
    · exact h.elim
  | FloorDiv =>
    simp only [wBin] at h
    split at h
    · obtain ⟨t, rfl⟩ := ra; obtain ⟨u, rfl⟩ := rb
      obtain ⟨h0, h1, h⟩ := h
      refine AutoIntOpsIf.floordiv ?_
      rw [if_neg (by simp; omega), if_neg (by rw [noPylong h0 h1]; exact Bool.false_ne_true), fdiv_eq h0]
      exact done_val (d := .int _) S ⟨_, rfl⟩ h _
    · exact h.elim
  | Mod =>
    simp only [wBin] at h
    split at h
    · obtain ⟨t, rfl⟩ := ra; obtain ⟨u, rfl⟩ := rb
      obtain ⟨h0, h⟩ := h
      refine AutoIntOpsIf.mod ?_
      rw [if_neg (by simp; omega), fmod_eq h0]
      exact done_val (d := .int _) S ⟨_, rfl⟩ h _
    · exact h.elim
  | Pow =>
    simp only [wBin] at h
    split at h
    · obtain ⟨t, rfl⟩ := ra; obtain ⟨u, rfl⟩ := rb
      obtain ⟨rfl, rfl, h⟩ := h
      refine AutoIntOpsIf.pow ?_
      rw [if_pos (by decide), if_neg (by decide), if_neg (by decide), if_neg (by decide), if_neg (by decide)]
      exact done_val (d := .int _) S ⟨_, rfl⟩ h _
    · exact h.elim
  | _ => exact h.elim

theorem ok_truthy {d : D} {v : Value} {b : Bool} {K : Bool → St → Prop} (S : Sim h₀ W s) (hr : Rep W.R W.ρ d v) (ht : truth d = some b) (h : K b W.st) : OK prog w A h₀ noOwn (truthy v) W s (BP K) := by
  cases d with
  | bool c => simp only [truth, Option.some.injEq] at ht; subst ht; have hv : v = .bool c := hr; subst hv; exact wpAny_truthy_bool ⟨W, Step.refl s W, S, h⟩
  | _ => simp [truth] at ht

theorem ok_un {op : UnaryOp} {a : D} {va : Value} (S : Sim h₀ W s) (ra : Rep W.R W.ρ a va) (h : wUn op a W.st Q) : OK prog w A h₀ noOwn (unaryOp op va) W s (VP Q) := by
  cases op with
  | USub =>
    cases a with
    | int i => obtain ⟨t, rfl⟩ := ra; exact P.neg_int (done_val (d := .int _) S ⟨_, rfl⟩ h _)
    | _ => exact h.elim
  | Not =>
    obtain ⟨b, ht, h⟩ := h
    refine PyProof.Rows.not_of ?_
    exact wpAny_mono (ok_truthy (prog := prog) (w := w) (A := A) (K := fun b st => Q (.bool (!b)) st) S ra ht h) (fun b s' ⟨W', x, y, z⟩ => ⟨W', x, y, .bool (!b), rfl, z⟩) fun _ _ e => e
  | _ => exact h.elim
end
end Mine
end

section
set_option autoImplicit false
set_option linter.unusedVariables false
namespace Mine
open PySem

section
variable {prog : Program} {w : World} {A : Around} {h₀ : Heap} {W : Wd} {s : Shared} {Q : D → St → Prop}

noncomputable def CP (W : Wd) (K : Bool → Prop) : Value → Wd → Shared → Prop := fun v W' _ => W' = W ∧ ∃ r, v = .bool r ∧ K r

theorem cmp_done {r : Bool} {K : Bool → Prop} (S : Sim h₀ W s) (h : K r) : Fin' h₀ noOwn s W (CP W K) (.bool r) s := ⟨W, Step.refl s W, S, rfl, r, rfl, h⟩
theorem cmp_doneT {r : Bool} {K : Bool → Prop} (S : Sim h₀ W s) (h : K r) (t : Nat) : Fin' h₀ noOwn s W (CP W K) (.bool r) { s with toks := t } := ⟨W, Step.toks s W t, S.toks t, rfl, r, rfl, h⟩

theorem room_ok {k : Nat} (a : AOk k A) {x y : PyData} (h : deepOk x y) : A.units + min x.depth y.depth < cLine := by
  have h1 := a.un
  have h2 : min x.depth y.depth ≤ 1000 := h
  show A.units + min x.depth y.depth < 9900
  omega

theorem ok_eq {k : Nat} {a b : D} {va vb : Value} {K : Bool → Prop} (a1 : AOk k A) (S : Sim h₀ W s) (ra : Rep W.R W.ρ a va) (rb : Rep W.R W.ρ b vb) (h : wEq a b W.st K) :
    OK prog w A h₀ noOwn (compareOp .Eq va vb) W s (CP W K) := by
  unfold wEq at h
  split at h
  · obtain ⟨t, rfl⟩ := ra; obtain ⟨u, rfl⟩ := rb
    exact P.eq_int (cmp_done S h)
  · obtain ⟨t, rfl⟩ := ra; obtain ⟨u, rfl⟩ := rb
    exact PyProof.Rows.eq_str (cmp_done S h)
  · obtain ⟨x, y, hx, hy, hd, h⟩ := h
    obtain ⟨⟨as, r1⟩, l1⟩ := pyD_reads S 3 a va x ra hx
    obtain ⟨⟨bs, r2⟩, l2⟩ := pyD_reads S 3 b vb y rb hy
    exact SeqAt.compareEq_reads r1 r2 l1 l2 (room_ok a1 hd) (cmp_done S h)
theorem ok_ne {k : Nat} {a b : D} {va vb : Value} {K : Bool → Prop} (a1 : AOk k A) (S : Sim h₀ W s) (ra : Rep W.R W.ρ a va) (rb : Rep W.R W.ρ b vb) (h : wEq a b W.st fun r => K (!r)) :
    OK prog w A h₀ noOwn (compareOp .NotEq va vb) W s (CP W K) := by
  unfold wEq at h
  split at h
  · obtain ⟨t, rfl⟩ := ra; obtain ⟨u, rfl⟩ := rb
    exact P.ne_int (cmp_done S h)
  · obtain ⟨t, rfl⟩ := ra; obtain ⟨u, rfl⟩ := rb
    exact PyProof.Rows.ne_str (cmp_done S h)
  · obtain ⟨x, y, hx, hy, hd, h⟩ := h
    obtain ⟨⟨as, r1⟩, l1⟩ := pyD_reads S 3 a va x ra hx
    obtain ⟨⟨bs, r2⟩, l2⟩ := pyD_reads S 3 b vb y rb hy
    exact SeqAt.compareNe_reads r1 r2 l1 l2 (room_ok a1 hd) (cmp_done S h)

theorem is_plain {a : D} {va : Value} (ra : Rep W.R W.ρ a va) (hv : isValD a = false) : plainIs va .none = true ∧ (va == .none) = isNoneD a := by
  cases a with
  | none => have h : va = .none := ra; subst h; exact ⟨rfl, rfl⟩
  | bool b => have h : va = .bool b := ra; subst h; exact ⟨rfl, rfl⟩
  | int i => obtain ⟨t, rfl⟩ := ra; exact ⟨rfl, rfl⟩
  | str x => obtain ⟨t, rfl⟩ := ra; exact ⟨rfl, rfl⟩
  | tup ds => obtain ⟨a, _, _, rfl, _⟩ := ra; exact ⟨rfl, rfl⟩
  | list ds => obtain ⟨a, _, _, rfl, _⟩ := ra; exact ⟨rfl, rfl⟩
  | loc n => obtain ⟨a, _, rfl⟩ := ra; exact ⟨rfl, rfl⟩
  | val u => cases hv

theorem wIs_inv {a b : D} {K : Bool → Prop} (h : wIs a b K) : b = .none ∧ isValD a = false ∧ K (isNoneD a) := by
  obtain ⟨h1, h2, h3⟩ := h
  refine ⟨?_, h2, h3⟩
  cases b with
  | none => rfl
  | _ => cases h1

theorem mapM_get {α β : Type} {f : α → Option β} : ∀ {l : List α} {ys : List β}, l.mapM f = some ys → ys.length = l.length ∧ ∀ (i : Nat) (a : α), l[i]? = some a → ∃ y, ys[i]? = some y ∧ f a = some y
  | [], ys, h => by simp at h; subst h; exact ⟨rfl, fun i a e => by simp at e⟩
  | a :: l, ys, h => by
    obtain ⟨y, zs, h1, h2, rfl⟩ := mapM_some_cons h
    obtain ⟨h3, h4⟩ := mapM_get h2
    refine ⟨by simp [h3], fun i b e => ?_⟩
    cases i with
    | zero => simp at e; subst e; exact ⟨y, rfl, h1⟩
    | succ i => simpa using h4 i b (by simpa using e)

open Classical in
theorem in_facts {k : Nat} {a b : D} {va : Value} {K : Bool → Prop} (a1 : AOk k A) (S : Sim h₀ W s) (ra : Rep W.R W.ρ a va) (h : wIn a b W.st K) :
    ∃ ys, seqD W.st b = some ys ∧ ∀ vs, RepAll W.R W.ρ ys vs → ∃ e : Value → Bool, (∀ y, y ∈ vs.toArray → SeqAt.EqAt A.in1 s y va (e y)) ∧ K (vs.toArray.any e) := by
  obtain ⟨ys, x, ps, hb, ha, hp, hd, h⟩ := h
  obtain ⟨⟨as, r1⟩, l1⟩ := pyD_reads S 3 a va x ra ha
  refine ⟨ys, hb, fun vs hr => ?_⟩
  obtain ⟨hl, hg⟩ := mapM_get hp
  have each : ∀ (i : Nat) (v : Value), vs[i]? = some v → ∃ p bs, ps[i]? = some p ∧ Reads s.heap v p bs ∧ p.canLay0 = true := by
    intro i v hv
    obtain ⟨d, hd', hrd⟩ := hr.get' i v hv
    obtain ⟨p, hp1, hp2⟩ := hg i d hd'
    obtain ⟨⟨bs, r2⟩, l2⟩ := pyD_reads S 3 d v p hrd hp2
    exact ⟨p, bs, hp1, r2, l2⟩
  let e : Value → Bool := fun v => decide (∃ p bs, Reads s.heap v p bs ∧ p.canLay0 = true ∧ PyData.eqv p x = true)
  have ev : ∀ v p bs, Reads s.heap v p bs → p.canLay0 = true → e v = PyData.eqv p x := by
    intro v p bs r l
    cases q : PyData.eqv p x with
    | true => exact decide_eq_true ⟨p, bs, r, l, q⟩
    | false =>
      refine decide_eq_false ?_
      rintro ⟨p', bs', r', l', q'⟩
      have : p' = p := SeqAt.Reads.unique p' p v bs' bs l' r' r
      rw [this, q] at q'; cases q'
  refine ⟨e, fun y hy => ?_, ?_⟩
  · have hy' : y ∈ vs := by simpa using hy
    obtain ⟨i, hi, hv⟩ := List.getElem_of_mem hy'
    obtain ⟨p, bs, _, r, l⟩ := each i y (by rw [List.getElem?_eq_getElem hi, hv])
    rw [ev y p bs r l]
    refine SeqAt.eqAt_reads p x A.in1 s y va bs as r r1 l l1 ?_
    have h1 := a1.un
    have : min p.depth x.depth ≤ 1000 := Nat.le_trans (Nat.min_le_right _ _) hd
    show A.units + 1 + min p.depth x.depth < 9900
    omega
  · have : vs.toArray.any e = ps.any fun y => PyData.eqv y x := by
      have hlen : vs.length = ps.length := by rw [hl]; exact hr.length
      rw [List.any_toArray]
      have : vs.map e = ps.map fun y => PyData.eqv y x := by
        refine List.ext_getElem (by simp [hlen]) fun i h1 h2 => ?_
        simp only [List.length_map] at h1 h2
        obtain ⟨p, bs, hp', r, l⟩ := each i vs[i] (List.getElem?_eq_getElem h1)
        simp only [List.getElem_map]
        rw [ev _ p bs r l]
        rw [List.getElem?_eq_getElem h2] at hp'
        cases hp'; rfl
      have h3 : ∀ {α : Type} (l : List α) (f : α → Bool), l.any f = (l.map f).any id := by intro α l f; simp [List.any_map]
      rw [h3 vs e, this, ← h3]
    rw [this]; exact h

theorem ok_in {k : Nat} {a b : D} {va vb : Value} {K : Bool → Prop} (a1 : AOk k A) (S : Sim h₀ W s) (ra : Rep W.R W.ρ a va) (rb : Rep W.R W.ρ b vb) (h : wIn a b W.st K) :
    OK prog w A h₀ noOwn (compareOp .In va vb) W s (CP W K) := by
  obtain ⟨ys, hb, f⟩ := in_facts a1 S ra h
  rcases seqD_cases hb with rfl | hb'
  · obtain ⟨l, vs, n, rfl, hg, hr⟩ := S.tup rb
    obtain ⟨e, he, hk⟩ := f vs hr
    exact SeqAt.in_tupleAt e ⟨_, hg, rfl, n, rfl⟩ he (cmp_done S hk)
  · obtain ⟨l, vs, n, rfl, hg, hr⟩ := S.lst rb hb'
    obtain ⟨e, he, hk⟩ := f vs hr
    exact SeqAt.in_listAt e ⟨_, hg, rfl, n, rfl⟩ he (cmp_done S hk)
theorem ok_notIn {k : Nat} {a b : D} {va vb : Value} {K : Bool → Prop} (a1 : AOk k A) (S : Sim h₀ W s) (ra : Rep W.R W.ρ a va) (rb : Rep W.R W.ρ b vb) (h : wIn a b W.st fun r => K (!r)) :
    OK prog w A h₀ noOwn (compareOp .NotIn va vb) W s (CP W K) := by
  obtain ⟨ys, hb, f⟩ := in_facts a1 S ra h
  rcases seqD_cases hb with rfl | hb'
  · obtain ⟨l, vs, n, rfl, hg, hr⟩ := S.tup rb
    obtain ⟨e, he, hk⟩ := f vs hr
    exact SeqAt.notIn_tupleAt e ⟨_, hg, rfl, n, rfl⟩ he (cmp_done S hk)
  · obtain ⟨l, vs, n, rfl, hg, hr⟩ := S.lst rb hb'
    obtain ⟨e, he, hk⟩ := f vs hr
    exact SeqAt.notIn_listAt e ⟨_, hg, rfl, n, rfl⟩ he (cmp_done S hk)

theorem ok_cmp {k : Nat} {op : CmpOp} {a b : D} {va vb : Value} {K : Bool → Prop} (a1 : AOk k A) (S : Sim h₀ W s) (ra : Rep W.R W.ρ a va) (rb : Rep W.R W.ρ b vb) (h : wCmp1 op a b W.st K) :
    OK prog w A h₀ noOwn (compareOp op va vb) W s (CP W K) := by
  cases op with
  | Eq => exact ok_eq a1 S ra rb h
  | NotEq => exact ok_ne a1 S ra rb h
  | Lt =>
    simp only [wCmp1] at h
    split at h
    · obtain ⟨t, rfl⟩ := ra; obtain ⟨u, rfl⟩ := rb; exact P.lt_int (cmp_done S h)
    · exact h.elim
  | LtE =>
    simp only [wCmp1] at h
    split at h
    · obtain ⟨t, rfl⟩ := ra; obtain ⟨u, rfl⟩ := rb; exact P.le_int (cmp_done S h)
    · exact h.elim
  | Gt =>
    simp only [wCmp1] at h
    split at h
    · obtain ⟨t, rfl⟩ := ra; obtain ⟨u, rfl⟩ := rb; exact P.gt_int (cmp_done S h)
    · exact h.elim
  | GtE =>
    simp only [wCmp1] at h
    split at h
    · obtain ⟨t, rfl⟩ := ra; obtain ⟨u, rfl⟩ := rb; exact P.ge_int (cmp_done S h)
    · exact h.elim
  | Is =>
    obtain ⟨rfl, hv, hk⟩ := wIs_inv h
    have hb : vb = .none := rb
    subst hb
    obtain ⟨p, e⟩ := is_plain ra hv
    exact wpAny_is_plain p (by rw [e]; exact cmp_done S hk)
  | IsNot =>
    obtain ⟨rfl, hv, hk⟩ := wIs_inv (show wIs a b (fun r => K (!r)) from h)
    have hb : vb = .none := rb
    subst hb
    obtain ⟨p, e⟩ := is_plain ra hv
    exact wpAny_isNot_plain p (by rw [e]; exact cmp_done S hk)
  | In => exact ok_in a1 S ra rb h
  | NotIn => exact ok_notIn a1 S ra rb h
end
end Mine
end

section
set_option autoImplicit false
set_option linter.unusedVariables false
namespace Mine
open PySem

section
variable {prog : Program} {w : World} {A : Around} {h₀ : Heap} {W : Wd} {s : Shared} {Q : D → St → Prop}

theorem sub_plain {e : Expr} (h : isSliceE e = false) (o i : Value) : subscripted e false o i = operate [o, i] (getItem o i) := by
  cases e <;> first | rfl | cases h

theorem ok_item {value slice : Expr} {d i : D} {vd vi : Value} (hs : isSliceE slice = false) (S : Sim h₀ W s) (rd : Rep W.R W.ρ d vd) (ri : Rep W.R W.ρ i vi) (h : wItem d i W.st Q) :
    OK prog w A h₀ noOwn (PyProof.Rows.subscriptTail value slice vd vi) W s (VP Q) := by
  unfold wItem at h
  split at h
  · rename_i k
    obtain ⟨t, rfl⟩ := ri
    obtain ⟨hlo, hhi, xs, j, x, hx, hk, hj, hxj, h⟩ := h
    rcases seqD_cases hx with rfl | hx'
    · obtain ⟨a, vs, n, rfl, hg, hr⟩ := S.tup rd
      obtain ⟨v, hv, hrv⟩ := hr.get j x hxj
      have hT : PyProof.Rows.IsTup s.heap a vs.toArray := ⟨_, hg, rfl, n, rfl⟩
      exact PyProof.Rows.item_tupleT hT (by omega) (by omega) (by rw [hr.length]; exact hj) hv (done_val' S hrv h) (sub_plain hs _ _)
    · obtain ⟨a, vs, n, rfl, hg, hr⟩ := S.lst rd hx'
      obtain ⟨v, hv, hrv⟩ := hr.get j x hxj
      have hL : s.heap.IsList a vs.toArray := ⟨_, hg, rfl, n, rfl⟩
      have h0 : 0 ≤ k := by rcases hk with q | q; exact q; rw [hx'] at q; cases q
      have hj' : k.toNat = j := by
        unfold seqIndex? at hj
        have q : ¬ k < 0 := by omega
        simp only [if_neg q] at hj
        split at hj
        · exact Option.some.inj hj
        · cases hj
      refine PyProof.Rows.tail_any hL.typeIs slot_list_getitem.lookup (wpAny_getItem_list hL h0 (by omega) ?_ (done_val' S hrv h)) (sub_plain hs _ _)
      rw [hj']; simpa using hv
  · exact h.elim

theorem lst_obj {h' : Heap} {a : Addr} {items : Array Value} (h : h'.IsList a items) : True := trivial

theorem ok_setItem {d i v : D} {vd vi vv : Value} {K : St → Prop} (S : Sim h₀ W s) (rd : Rep W.R W.ρ d vd) (ri : Rep W.R W.ρ i vi) (rv : Rep W.R W.ρ v vv) (h : wSetItem d i v W.st K) :
    OK prog w A h₀ noOwn (setItem vd vi vv) W s (fun _ W' _ => K W'.st) := by
  unfold wSetItem at h
  split at h
  · rename_i k
    obtain ⟨t, rfl⟩ := ri
    obtain ⟨n, xs, rfl, hc, h0, h1, hl, h⟩ := h
    obtain ⟨a, ha, rfl⟩ := rd
    obtain ⟨b, hb, vs, k', hg, hr⟩ := S.cel n _ hc
    rw [ha] at hb; cases hb
    have hL : s.heap.IsList a vs.toArray := ⟨_, hg, rfl, k', rfl⟩
    have hlen := hr.length
    have hl' : xs.length ≤ 1000000 := hl
    refine PySem.W.ki_setAt (n := k') hg h0 (by omega) (by rw [List.size_toArray, hlen]; exact h1) ?_
    have key : (s.heap.update a (Obj.mapSeq (·.setIfInBounds k.toNat vv))).get? a = some (lstO (vs.set k.toNat vv) k') := by
      rw [Heap.get?_update_self _ hg rfl]; simp [Obj.mapSeq]
    obtain ⟨st, sm⟩ := S.put (own := noOwn) (tk := s.toks) (k := k') ha hc (fun b o q e => (Heap.get?_update_other s.heap _ (Ne.symm q)).trans e) (vs := vs.set k.toNat vv) key (hr.set k.toNat rv)
    exact ⟨_, st, sm, h⟩
  · exact h.elim

theorem done_bool {b : Bool} (S : Sim h₀ W s) (h : Q (.bool b) W.st) : Fin' h₀ noOwn s W (VP Q) (.bool b) s := done_val' (d := .bool b) S rfl h
theorem done_boolT {b : Bool} (S : Sim h₀ W s) (h : Q (.bool b) W.st) (t : Nat) : Fin' h₀ noOwn s W (VP Q) (.bool b) { s with toks := t } := done_val (d := .bool b) S rfl h t

theorem ok_isinstance {d : D} {vd : Value} {T : String} {b : Bool} (S : Sim h₀ W s) (rd : Rep W.R W.ρ d vd) (ht : typeIs d T = some b) (h : Q (.bool b) W.st) :
    OK prog w A h₀ noOwn (call (.builtin "isinstance") [vd, .type T]) W s (VP Q) := by
  cases d with
  | none =>
    have e : vd = .none := rd
    subst e
    simp only [typeIs] at ht
    split at ht
    · rename_i hm
      cases ht
      simp only [List.mem_cons, List.not_mem_nil, or_false] at hm
      rcases hm with rfl | rfl | rfl | rfl | rfl
      · exact IsiPair.NoneType_int (done_boolT S h _)
      · exact IsiPair.NoneType_bool (done_boolT S h _)
      · exact IsiPair.NoneType_tuple (done_boolT S h _)
      · exact IsiPair.NoneType_list (done_boolT S h _)
      · exact IsiPair.NoneType_str (done_boolT S h _)
    · cases ht
  | bool c =>
    have e : vd = .bool c := rd
    subst e
    simp only [typeIs] at ht
    split at ht
    · rename_i hm
      cases ht
      simp only [List.mem_cons, List.not_mem_nil, or_false] at hm
      rcases hm with rfl | rfl
      · exact IsiPair.bool_int (done_bool S h)
      · exact IsiPair.bool_bool (done_bool S h)
    · split at ht
      · rename_i hm
        cases ht
        simp only [List.mem_cons, List.not_mem_nil, or_false] at hm
        rcases hm with rfl | rfl | rfl
        · exact IsiPair.bool_tuple (done_boolT S h _)
        · exact IsiPair.bool_list (done_boolT S h _)
        · exact IsiPair.bool_str (done_boolT S h _)
      · cases ht
  | int i =>
    obtain ⟨t, rfl⟩ := rd
    simp only [typeIs] at ht
    split at ht
    · rename_i hm; cases ht; subst hm; exact IsiPair.int_int (done_bool S h)
    · split at ht
      · rename_i hm
        cases ht
        simp only [List.mem_cons, List.not_mem_nil, or_false] at hm
        rcases hm with rfl | rfl | rfl | rfl
        · exact IsiPair.int_bool (done_boolT S h _)
        · exact IsiPair.int_tuple (done_boolT S h _)
        · exact IsiPair.int_list (done_boolT S h _)
        · exact IsiPair.int_str (done_boolT S h _)
      · cases ht
  | str x =>
    obtain ⟨t, rfl⟩ := rd
    simp only [typeIs] at ht
    split at ht
    · rename_i hm; cases ht; subst hm; exact IsiPair.str_str (done_bool S h)
    · split at ht
      · rename_i hm
        cases ht
        simp only [List.mem_cons, List.not_mem_nil, or_false] at hm
        rcases hm with rfl | rfl | rfl | rfl
        · exact IsiPair.str_bool (done_boolT S h _)
        · exact IsiPair.str_tuple (done_boolT S h _)
        · exact IsiPair.str_list (done_boolT S h _)
        · exact IsiPair.str_int (done_boolT S h _)
      · cases ht
  | tup ds =>
    obtain ⟨a, vs, n, rfl, hg, _⟩ := S.tup rd
    simp only [typeIs] at ht
    split at ht
    · rename_i hm; cases ht; subst hm; exact IsiPair.tuple_tuple hg rfl (done_bool S h)
    · split at ht
      · rename_i hm
        cases ht
        simp only [List.mem_cons, List.not_mem_nil, or_false] at hm
        rcases hm with rfl | rfl | rfl | rfl
        · exact IsiPair.tuple_bool hg rfl (done_boolT S h _)
        · exact IsiPair.tuple_str hg rfl (done_boolT S h _)
        · exact IsiPair.tuple_list hg rfl (done_boolT S h _)
        · exact IsiPair.tuple_int hg rfl (done_boolT S h _)
      · cases ht
  | list ds =>
    obtain ⟨a, vs, n, rfl, hg, _⟩ := S.lst rd rfl
    simp only [typeIs] at ht
    split at ht
    · rename_i hm; cases ht; subst hm; exact IsiPair.list_list hg rfl (done_bool S h)
    · split at ht
      · rename_i hm
        cases ht
        simp only [List.mem_cons, List.not_mem_nil, or_false] at hm
        rcases hm with rfl | rfl | rfl | rfl
        · exact IsiPair.list_bool hg rfl (done_boolT S h _)
        · exact IsiPair.list_str hg rfl (done_boolT S h _)
        · exact IsiPair.list_tuple hg rfl (done_boolT S h _)
        · exact IsiPair.list_int hg rfl (done_boolT S h _)
      · cases ht
  | loc n => simp [typeIs] at ht
  | val u => simp [typeIs] at ht

theorem int_items {R : Addr → Option Obj} {ρ : Nat → Option Addr} : ∀ {is : List Int} {vs : List Value}, RepAll R ρ (is.map .int) vs → ∃ ps : List (Int × Tok), vs = ps.map (fun p => .int p.1 p.2) ∧ ps.map (·.1) = is
  | [], vs, h => by have e : vs = [] := h; subst e; exact ⟨[], rfl, rfl⟩
  | i :: is, vs, h => by
    obtain ⟨v, ws, rfl, ⟨t, rfl⟩, hr⟩ := h
    obtain ⟨ps, rfl, rfl⟩ := int_items hr
    exact ⟨(i, t) :: ps, rfl, rfl⟩

noncomputable def bltV (f : Str) : Option Value :=
  if f = "len" then some (.builtin "len")
  else if f = "isinstance" then some (.builtin "isinstance")
  else if f = "list" then some (.type "list")
  else if f = "tuple" then some (.type "tuple")
  else if f = "min" then some (.builtin "min")
  else if f = "max" then some (.builtin "max")
  else if f = "sum" then some (.builtin "sum")
  else if f = "zip" then some (.type "zip")
  else if f = "enumerate" then some (.type "enumerate")
  else if f = "range" then some (.type "range")
  else none

theorem reps1 {R : Addr → Option Obj} {ρ : Nat → Option Addr} {d : D} {vs : List Value} (h : RepAll R ρ [d] vs) : ∃ v, vs = [v] ∧ Rep R ρ d v := by
  obtain ⟨v, ws, rfl, hr, e⟩ := h; have e' : ws = [] := e; subst e'; exact ⟨v, rfl, hr⟩
theorem reps2 {R : Addr → Option Obj} {ρ : Nat → Option Addr} {d e : D} {vs : List Value} (h : RepAll R ρ [d, e] vs) : ∃ v u, vs = [v, u] ∧ Rep R ρ d v ∧ Rep R ρ e u := by
  obtain ⟨v, ws, rfl, hr, h2⟩ := h; obtain ⟨u, rfl, hu⟩ := reps1 h2; exact ⟨v, u, rfl, hr, hu⟩

theorem done_grow {d : D} {v : Value} {h' : Heap} {tk : Nat} (S : Sim h₀ W s) (hk : ∀ b o, s.heap.get? b = some o → h'.get? b = some o) (hr : Rep W.R W.ρ d v) (h : Q d W.st) : Fin' h₀ noOwn s W (VP Q) v { s with heap := h', toks := tk } := by
  obtain ⟨st, sm⟩ := S.grow (own := noOwn) (tk := tk) hk
  exact ⟨W, st, sm, d, hr, h⟩

theorem ok_builtin {k : Nat} {trk : Bool} {f : Str} {fv : Value} {ds : List D} {vs : List Value} (a1 : AOk k A) (S : Sim h₀ W s) (hf : bltV f = some fv) (hr : RepAll W.R W.ρ ds vs) (h : wBuiltin trk f ds W.st Q) :
    OK prog w A h₀ noOwn (call fv vs) W s (VP Q) := by
  unfold wBuiltin at h
  unfold bltV at hf
  by_cases e : f = "len"
  · rw [if_pos e] at h hf; cases hf
    obtain ⟨d, xs, rfl, hx, hl, h⟩ := h
    obtain ⟨v, rfl, hd⟩ := reps1 hr
    have hl' : xs.length ≤ 1000000 := hl
    rcases seqD_cases hx with rfl | hx'
    · obtain ⟨a, us, n, rfl, hg, hu⟩ := S.tup hd
      have e1 := hu.length
      refine PyProof.Rows.len_tuple (items := us.toArray) ⟨_, hg, rfl, n, rfl⟩ (by rw [List.size_toArray]; omega) ?_
      rw [List.size_toArray, e1]
      exact done_val (d := .int xs.length) S ⟨_, rfl⟩ h _
    · obtain ⟨a, us, n, rfl, hg, hu⟩ := S.lst hd hx'
      have e1 := hu.length
      refine Calls.call_len_list (items := us.toArray) ⟨_, hg, rfl, n, rfl⟩ (by rw [List.size_toArray]; omega) ?_
      rw [List.size_toArray, e1]
      exact done_val (d := .int xs.length) S ⟨_, rfl⟩ h _
  rw [if_neg e] at h hf
  by_cases e : f = "isinstance"
  · rw [if_pos e] at h hf; cases hf
    obtain ⟨d, T, b, rfl, ht, h⟩ := h
    obtain ⟨v, u, rfl, hd, hu⟩ := reps2 hr
    have hu' : u = .type T := hu
    subst hu'
    exact ok_isinstance S hd ht h
  rw [if_neg e] at h hf
  by_cases e : f = "list"
  · rw [if_pos e] at h hf; cases hf
    obtain ⟨d, xs, rfl, hx, h⟩ := h
    obtain ⟨v, rfl, hd⟩ := reps1 hr
    obtain ⟨a, us, n, T, rfl, hT, hg, hu⟩ := S.seq hd hx
    refine call_list_seq a hT hg rfl rfl (fun h' c' hk hg' => ?_) (by rw [List.size_toArray, hu.length]; exact le_line h.1)
    exact done_list (n := c') (tk := s.toks) S hk (get_size _) (vs := us) hg' hu h
  rw [if_neg e] at h hf
  by_cases e : f = "tuple"
  · rw [if_pos e] at h hf; cases hf
    obtain ⟨d, xs, rfl, hx, hl, h⟩ := h
    obtain ⟨v, rfl, hd⟩ := reps1 hr
    obtain ⟨a, us, n, rfl, hg, hu⟩ := S.lst hd hx
    refine call_tuple_list (items := us.toArray) ⟨_, hg, rfl, n, rfl⟩ (fun h' hk => ?_) (by rw [List.size_toArray, hu.length]; exact le_line hl)
    have dead : s.heap.get? h'.objs.size = none := by
      cases q : s.heap.get? h'.objs.size with
      | none => rfl
      | some o => have := hk _ _ q; rw [get_size] at this; cases this
    exact done_tup (n := 0) (tk := s.toks) S (fun b o e => Heap.get?_push_of_some _ (hk b o e)) dead (vs := us) (Heap.get?_push_size _ rfl) hu h
  rw [if_neg e] at h hf
  by_cases e : f = "min"
  · rw [if_pos e] at h hf; cases hf
    rcases h with ⟨i, j, rfl, h⟩ | ⟨d, xs, is, i, rfl, hx, hi, hm, hle, h⟩
    · obtain ⟨v, u, rfl, ⟨t, rfl⟩, ⟨t', rfl⟩⟩ := reps2 hr
      refine min_two_ints a1.hn fun h' tk hk => ?_
      by_cases q : j < i
      · rw [if_pos q]
        rw [Int.min_eq_right (by omega)] at h
        exact done_grow (d := .int j) S hk ⟨_, rfl⟩ h
      · rw [if_neg q]
        rw [Int.min_eq_left (by omega)] at h
        exact done_grow (d := .int i) S hk ⟨_, rfl⟩ h
    · obtain ⟨v, rfl, hd⟩ := reps1 hr
      obtain ⟨a, us, n, rfl, hg, hu⟩ := S.lst hd hx
      have := ints_rep hi hu
      subst this
      obtain ⟨ps, rfl, rfl⟩ := int_items hu
      have hL : s.heap.IsList a (intItems ps.toArray) := ⟨_, hg, rfl, n, by simp [intItems]⟩
      have hne : 0 < ps.toArray.size := by
        cases ps with
        | nil => simp at hm
        | cons p ps => simp
      refine min_intList a1.hn hL hne fun v h' tk hv hk => ?_
      obtain ⟨t, rfl⟩ := intItems_at hv
      obtain ⟨h1, h2⟩ := argBest_lt (numAt ps.toArray) (ps.toArray.size - 1)
      have hmem : numAt ps.toArray (argBest (fun i j => decide (numAt ps.toArray i < numAt ps.toArray j)) (ps.toArray.size - 1)) ∈ ps.map (·.1) := by
        rw [numAt_eq]; exact getD_mem (by simp at hne h1 ⊢; omega)
      have heq : numAt ps.toArray (argBest (fun i j => decide (numAt ps.toArray i < numAt ps.toArray j)) (ps.toArray.size - 1)) = i := by
        refine Int.le_antisymm ?_ (hle _ hmem)
        obtain ⟨q, hq, hq2⟩ := List.getElem_of_mem hm
        have := h2 q (by simp at hq ⊢; omega)
        rw [numAt_eq ps.toArray q] at this
        simp only [List.getD_eq_getElem?_getD, List.getElem?_eq_getElem hq, hq2, Option.getD_some] at this
        exact this
      rw [heq]
      exact done_grow (d := .int i) S hk ⟨_, rfl⟩ h
  rw [if_neg e] at h hf
  by_cases e : f = "max"
  · rw [if_pos e] at h hf; cases hf
    obtain ⟨d, xs, is, i, rfl, hx, hi, hm, hle, h⟩ := h
    obtain ⟨v, rfl, hd⟩ := reps1 hr
    obtain ⟨a, us, n, rfl, hg, hu⟩ := S.lst hd hx
    have := ints_rep hi hu
    subst this
    obtain ⟨ps, rfl, rfl⟩ := int_items hu
    have hL : s.heap.IsList a (intItems ps.toArray) := ⟨_, hg, rfl, n, by simp [intItems]⟩
    have hne : 0 < ps.toArray.size := by
      cases ps with
      | nil => simp at hm
      | cons p ps => simp
    refine max_intList a1.hn hL hne fun v h' tk hv hk => ?_
    obtain ⟨t, rfl⟩ := intItems_at hv
    obtain ⟨h1, h2⟩ := argBest_gt (numAt ps.toArray) (ps.toArray.size - 1)
    have hmem : numAt ps.toArray (argBest (fun i j => decide (numAt ps.toArray i > numAt ps.toArray j)) (ps.toArray.size - 1)) ∈ ps.map (·.1) := by
      rw [numAt_eq]; exact getD_mem (by simp at hne h1 ⊢; omega)
    have heq : numAt ps.toArray (argBest (fun i j => decide (numAt ps.toArray i > numAt ps.toArray j)) (ps.toArray.size - 1)) = i := by
      refine Int.le_antisymm (hle _ hmem) ?_
      obtain ⟨q, hq, hq2⟩ := List.getElem_of_mem hm
      have := h2 q (by simp at hq ⊢; omega)
      rw [numAt_eq ps.toArray q] at this
      simp only [List.getD_eq_getElem?_getD, List.getElem?_eq_getElem hq, hq2, Option.getD_some] at this
      exact this
    rw [heq]
    exact done_grow (d := .int i) S hk ⟨_, rfl⟩ h
  rw [if_neg e] at h hf
  by_cases e : f = "sum"
  · rw [if_pos e] at h hf; cases hf
    obtain ⟨d, xs, is, rfl, hx, hi, h⟩ := h
    obtain ⟨v, rfl, hd⟩ := reps1 hr
    obtain ⟨a, us, n, rfl, hg, hu⟩ := S.lst hd hx
    have := ints_rep hi hu
    subst this
    obtain ⟨ps, rfl, rfl⟩ := int_items hu
    have hL : s.heap.IsList a (intItems ps.toArray) := ⟨_, hg, rfl, n, by simp [intItems]⟩
    refine sum_intListG a1.hn hL fun h' tk t' hk => ?_
    rw [preSum_eq, List.take_of_length_le (by simp)]
    exact done_grow (d := .int _) S hk ⟨_, rfl⟩ h
  rw [if_neg e] at h
  exact h.elim
end
end Mine
end

section
set_option autoImplicit false
set_option linter.unusedVariables false
namespace Mine
open PySem

section
variable {prog : Program} {w : World} {A : Around} {h₀ : Heap} {W : Wd} {s : Shared} {Q : D → St → Prop} {env : Env}

theorem base_plain {o : Expr} (h : isCallE o = false) (nm : Str) (t : Sem Value) : attributeBase o nm env t = t := by
  cases o <;> first | rfl | cases h

theorem not_star {n : Nat} {Γ : Ctx} {trk : Bool} {kd : Kd} {e : Expr} {m : Loc} {st : St} (h : wE Γ n trk kd e m st Q) : ∀ x p, e ≠ .Starred x p := by
  intro x p q
  subst q
  cases n with
  | zero => exact h
  | succ n => exact h
theorem star_cons {e : Expr} {r : List Expr} (h : ∀ x p, e ≠ .Starred x p) : starEach (e :: r) env = (false, eval e env) :: starEach r env := by
  cases e <;> first | rfl | exact absurd rfl (h _ _)

theorem back_cons {e : Expr} {r : List Expr} {pos : Pos} (h : ∀ x p, e ≠ .Starred x p) : backTo pos (starEach (e :: r) env) = (false, eval e env) :: backTo pos (starEach r env) := by
  rw [star_cons h]; rfl
theorem back_one {e : Expr} {pos : Pos} (h : ∀ x p, e ≠ .Starred x p) : backTo pos (starEach [e] env) = [(false, eval e env)] := back_cons h

theorem upd_seq {h : Heap} {l : Addr} {vs ws : List Value} {n : Nat} {f : Array Value → Array Value} (hg : h.get? l = some (lstO vs n)) (hf : f vs.toArray = ws.toArray) :
    ∃ k, (h.update l (Obj.mapSeq f)).get? l = some (lstO ws k) := by
  refine ⟨if (ws.toArray.size == vs.toArray.size) = true then n else n + 1, ?_⟩
  rw [Heap.get?_update_self _ hg rfl]
  simp only [Obj.mapSeq, hf]

theorem ok_put {n : Nat} {l : Addr} {xs ys : List D} {vs ws : List Value} {k : Nat} {f : Array Value → Array Value} (S : Sim h₀ W s) (ha : W.ρ n = some l) (hc : W.st.cs n = some (.list xs)) (hg : s.heap.get? l = some (lstO vs k))
    (hf : f vs.toArray = ws.toArray) (hr : RepAll W.R W.ρ ys ws) (h : Q .none (W.st.put n (.list ys))) :
    Fin' h₀ noOwn s W (VP Q) .none { s with heap := s.heap.update l (Obj.mapSeq f) } := by
  obtain ⟨k', hg'⟩ := upd_seq hg hf
  obtain ⟨st, sm⟩ := S.put (own := noOwn) (tk := s.toks) (k := k') ha hc (fun b o q e => (Heap.get?_update_other s.heap _ (Ne.symm q)).trans e) hg' hr
  exact ⟨_, st, sm, .none, rfl, h⟩

theorem cel_at (S : Sim h₀ W s) {n : Nat} {xs : List D} {v : Value} (rd : Rep W.R W.ρ (.loc n) v) (hc : W.st.cs n = some (.list xs)) :
    ∃ l vs k, v = .ref l ∧ W.ρ n = some l ∧ s.heap.get? l = some (lstO vs k) ∧ RepAll W.R W.ρ xs vs := by
  obtain ⟨l, ha, rfl⟩ := rd
  obtain ⟨b, hb, vs, k, hg, hr⟩ := S.cel n _ hc
  rw [ha] at hb; cases hb
  exact ⟨l, vs, k, rfl, ha, hg, hr⟩

theorem seq_pre (S : Sim h₀ W s) {d : D} {xs : List D} {v : Value} (rd : Rep W.R W.ρ d v) (hx : lstD W.st d = some xs) : s.TypeIs v "list" ∧ (∀ a, v = .ref a → ∃ ob, s.heap.get? a = some ob ∧ ob.dict = none) := by
  obtain ⟨l, vs, k, rfl, hg, _⟩ := S.lst rd hx
  exact ⟨⟨_, hg, rfl⟩, fun a e => by cases e; exact ⟨_, hg, rfl⟩⟩

theorem fews {pos : Pos} {es : List Expr} (hl : es.length ≤ 1) (hs : ∀ e ∈ es, ∀ x p, e ≠ .Starred x p) :
    ((backTo pos (starEach es env)).all (fun x => !x.1) && (backToKw pos (keywordEach [] env)).all (fun x => x.1.isSome)
      && decide (es.length + ([] : List Keyword).length + (if ([] : List Keyword).isEmpty then 0 else 1) < 30)) = true := by
  cases es with
  | nil => rfl
  | cons e r =>
    cases r with
    | nil => rw [back_one (hs e (.head _))]; rfl
    | cons _ _ => simp at hl

theorem ok_absurd {k : Nat} {o : Expr} {nm : Str} {apos pos : Pos} {es : List Expr} {Pr : D → St → Prop} (hb : isCallE o = false)
    (ho : OK prog w A h₀ noOwn (eval o env) W s (VP Pr)) (hm : ∀ d st, ¬ Pr d st) :
    OK prog w A h₀ noOwn (eval (.Call (.Attribute o nm apos) es [] pos) env) W s (VP Q) := by
  show wpAny _ _ (eval (.Call (.Attribute o nm apos) es [] pos) env) _ _ _
  rw [arm_eval_Call, base_plain hb]
  exact wpAny_bind (wpAny_mono ho (fun ov s₁ ⟨W1, x, S1, d, rd, p⟩ => (hm d _ p).elim) fun _ _ e => e)

/-- a method of a list, no argument -/
theorem ok_meth0 {o : Expr} {nm : Str} {apos pos : Pos} {Pr : D → St → Prop} (S : Sim h₀ W s) (hb : isCallE o = false) (hln : (apos.endLine == pos.line) = true)
    (ho : OK prog w A h₀ noOwn (eval o env) W s (VP Pr)) (hm : ∀ d st, Pr d st → wMeth nm d [] st Q) :
    OK prog w A h₀ noOwn (eval (.Call (.Attribute o nm apos) [] [] pos) env) W s (VP Q) := by
  by_cases e : nm = "clear"
  · subst e
    refine wpAny_Call_method (base_plain hb _ _) (fews (by simp) (by simp)) hln F.plainAttrs_list F.slot_list_clear F.type_list_clear ?_
    refine wpAny_mono ho (fun ov s₁ ⟨W1, x, S1, d, rd, p⟩ => ?_) fun _ _ e => e
    have h := hm d _ p
    unfold wMeth at h
    rw [if_neg (by decide +kernel), if_pos rfl] at h
    obtain ⟨n, xs, rfl, _, hc, hl, h⟩ := h
    obtain ⟨l, vs, k', rfl, ha, hg, hr⟩ := cel_at S1 rd hc
    refine ⟨⟨_, hg, rfl⟩, fun a e => by cases e; exact ⟨_, hg, rfl⟩, ?_⟩
    refine P.clear_list hg ?_ (by rw [List.size_toArray, hr.length]; exact le_line hl)
    obtain ⟨W2, y, S2, z⟩ := ok_put (f := fun _ => #[]) (ws := []) (ys := []) S1 ha hc hg rfl rfl h
    exact ⟨W2, x.trans S y, S2, z⟩
  · refine ok_absurd (k := 0) hb ho fun d st p => ?_
    have h := hm d st p
    unfold wMeth at h
    rw [if_neg e] at h
    split at h
    · obtain ⟨_, _, _, _, h, _⟩ := h; cases h
    · split at h
      · obtain ⟨_, _, _, _, _, h, _⟩ := h; cases h
      · split at h
        · obtain ⟨_, _, _, h, _⟩ := h; cases h
        · exact h

/-- a method of a list, one argument -/
theorem ok_meth1 {o e : Expr} {nm : Str} {apos pos : Pos} {Pr : D → St → Prop} (S : Sim h₀ W s) (hb : isCallE o = false) (hln : (apos.endLine == pos.line) = true) (hnm : isMeth1 nm) (hse : ∀ x p, e ≠ .Starred x p)
    (ho : OK prog w A h₀ noOwn (eval o env) W s (VP Pr))
    (he : ∀ d v W1 s1, Step noOwn s W s1 W1 → Sim h₀ W1 s1 → Rep W1.R W1.ρ d v → Pr d W1.st → OK prog w A h₀ noOwn (eval e env) W1 s1 (VP fun x st2 => wMeth nm d [x] st2 Q))
    (hl : ∀ d v W1 s1, Step noOwn s W s1 W1 → Sim h₀ W1 s1 → Rep W1.R W1.ρ d v → Pr d W1.st → ∃ xs, lstD W1.st d = some xs) :
    OK prog w A h₀ noOwn (eval (.Call (.Attribute o nm apos) [e] [] pos) env) W s (VP Q) := by
  have hfew := fews (env := env) (pos := pos) (es := [e]) (by simp) (by intro e' h; simp at h; subst h; exact hse)
  by_cases e1 : nm = "append"
  · subst e1
    refine wpAny_Call_method (base_plain hb _ _) hfew hln F.plainAttrs_list F.slot_list_append F.type_list_append ?_
    refine wpAny_mono ho (fun ov s₁ ⟨W1, x, S1, d, rd, p⟩ => ?_) fun _ _ e => e
    obtain ⟨xs0, hl0⟩ := hl d ov W1 s₁ x S1 rd p
    obtain ⟨pt, pd⟩ := seq_pre S1 rd hl0
    refine ⟨pt, pd, ?_⟩
    obtain ⟨l0, _, _, hv0, _, _⟩ := S1.lst rd hl0
    subst hv0
    rw [back_one hse]
    refine P.append_list (wpAny_mono (he d _ W1 s₁ x S1 rd p) (fun v s2 ⟨W2, y, S2, x2, r2, h0⟩ => ?_) fun _ _ e => e)
    have h : wMeth _ d [x2] W2.st Q := h0
    unfold wMeth at h
    rw [if_pos rfl] at h
    obtain ⟨n, x', xs, rfl, e', hc, hlen, h⟩ := h
    cases e'
    obtain ⟨l, vs, k', e2, ha, hg, hr⟩ := cel_at S2 (y.rep S1 rd) hc
    cases e2
    refine ⟨vs.toArray, k', by rw [List.size_toArray, hr.length]; exact le_line hlen, hg, ?_⟩
    obtain ⟨W3, z, S3, q⟩ := ok_put (f := fun xs => xs.push v) (ws := vs ++ [v]) S2 ha hc hg (by simp) (hr.append (RepAll.one r2)) h
    exact ⟨W3, x.trans S (y.trans S1 z), S3, q⟩
  by_cases e2 : nm = "extend"
  · subst e2
    refine wpAny_Call_method (base_plain hb _ _) hfew hln F.plainAttrs_list F.slot_list_extend F.type_list_extend ?_
    refine wpAny_mono ho (fun ov s₁ ⟨W1, x, S1, d, rd, p⟩ => ?_) fun _ _ e => e
    obtain ⟨xs0, hl0⟩ := hl d ov W1 s₁ x S1 rd p
    obtain ⟨pt, pd⟩ := seq_pre S1 rd hl0
    refine ⟨pt, pd, ?_⟩
    obtain ⟨l0, _, _, hv0, _, _⟩ := S1.lst rd hl0
    subst hv0
    rw [back_one hse]
    refine P.extend_list (wpAny_mono (he d _ W1 s₁ x S1 rd p) (fun v s2 ⟨W2, y, S2, x2, r2, h0⟩ => ?_) fun _ _ e => e)
    have h : wMeth _ d [x2] W2.st Q := h0
    unfold wMeth at h
    rw [if_neg (by decide +kernel), if_neg (by decide +kernel), if_pos rfl] at h
    obtain ⟨n, y', xs, ys, rfl, e', hc, hy, hlen, h⟩ := h
    cases e'
    obtain ⟨l, vs, k', e2, ha, hg, hr⟩ := cel_at S2 (y.rep S1 rd) hc
    cases e2
    obtain ⟨b, us, kb, rfl, hgb, hrb⟩ := S2.lst r2 hy
    have q1 := hr.length
    have q2 := hrb.length
    have q3 : xs.length + ys.length ≤ 1000000 := hlen
    refine ⟨b, vs.toArray, us.toArray, k', kb, by rw [List.size_toArray, q1]; exact le_line (by omega), ?_, ?_, rfl, hg, hgb, ?_⟩
    · simp only [List.size_toArray, q1, q2]; have := lim_line; show _ ≤ sizeLine + 1; have : lim = 1000000 := rfl; omega
    · simp only [Builtin.List.listTooLong, List.size_toArray, q1, q2, sizeLine]
      intro z
      simp at z
      omega
    · obtain ⟨W3, z, S3, q⟩ := ok_put (f := fun xs => xs ++ us.toArray) (ws := vs ++ us) S2 ha hc hg (by simp) (hr.append hrb) h
      exact ⟨W3, x.trans S (y.trans S1 z), S3, q⟩
  by_cases e3 : nm = "index"
  · subst e3
    refine wpAny_Call_method (base_plain hb _ _) hfew hln F.plainAttrs_list F.slot_list_index F.type_list_index ?_
    refine wpAny_mono ho (fun ov s₁ ⟨W1, x, S1, d, rd, p⟩ => ?_) fun _ _ e => e
    obtain ⟨xs0, hl0⟩ := hl d ov W1 s₁ x S1 rd p
    obtain ⟨pt, pd⟩ := seq_pre S1 rd hl0
    refine ⟨pt, pd, ?_⟩
    obtain ⟨l0, _, _, hv0, _, _⟩ := S1.lst rd hl0
    subst hv0
    rw [back_one hse]
    refine P.index_list (wpAny_mono (he d _ W1 s₁ x S1 rd p) (fun v s2 ⟨W2, y, S2, x2, r2, h0⟩ => ?_) fun _ _ e => e)
    have h : wMeth _ d [x2] W2.st Q := h0
    unfold wMeth at h
    rw [if_neg (by decide +kernel), if_neg (by decide +kernel), if_neg (by decide +kernel), if_pos rfl] at h
    obtain ⟨i, xs, is, e', hx, hi, hmem, hlen, h⟩ := h
    cases e'
    obtain ⟨t, rfl⟩ := r2
    obtain ⟨l, vs, k', e2, hg, hr⟩ := S2.lst (y.rep S1 rd) hx
    cases e2
    have := ints_rep hi hr
    subst this
    obtain ⟨ps, rfl, rfl⟩ := int_items hr
    have hlen' : ps.length ≤ 1000000 := by have : ps.length ≤ lim := by simpa using hlen
                                           exact this
    have hj : (ps.map (·.1)).idxOf i < ps.length := by simpa using List.idxOf_lt_length_of_mem hmem
    let e : Value → Bool := fun v => match v with
      | .int k _ => k == i
      | _ => false
    refine ⟨((ps.map fun p => Value.int p.1 p.2)).toArray, k', e, (ps.map (·.1)).idxOf i, by simpa using hj, hg, ?_, by omega, ?_, ?_, ?_⟩
    · intro y hy
      simp at hy
      obtain ⟨a, b, _, rfl⟩ := hy
      exact MeetsSeq.EqGives.int _ _ _ _
    · have : (ps.map (·.1))[(ps.map (·.1)).idxOf i]'(by simpa using hj) = i := List.getElem_idxOf (by simpa using hj)
      simp only [List.getElem_map] at this
      simp [e, this]
    · intro q hq hlt
      have : (ps.map (·.1))[q]'(by simpa using hq) ≠ i := by
        intro z
        have h1 : (ps.map (·.1)).idxOf i ≤ q := by
          have h2 : i ∈ (ps.map (·.1)).take (q + 1) := by
            rw [← z]
            refine List.mem_take_iff_getElem.mpr ⟨q, by simp at hq ⊢; omega, rfl⟩
          have h3 := List.idxOf_lt_length_of_mem h2
          have h4 : (ps.map (·.1)).idxOf i = ((ps.map (·.1)).take (q + 1)).idxOf i := by
            conv => lhs; rw [← List.take_append_drop (q + 1) (ps.map (·.1))]
            rw [List.idxOf_append, if_pos h2]
          rw [h4]
          have h5 : ((ps.map (·.1)).take (q + 1)).length ≤ q + 1 := by simp; omega
          omega
        omega
      simp only [List.getElem_map] at this
      simp [e, this]
    · exact ⟨W2, x.trans S (y.trans S1 (Step.toks _ _ _)), S2.toks _, .int _, ⟨_, rfl⟩, h⟩
  · exfalso; rcases hnm with q | q | q; exact e1 q; exact e2 q; exact e3 q
end
end Mine
end

section
set_option autoImplicit false
set_option linter.unusedVariables false
namespace Mine
open PySem

/-- a sequence and an iterator over it: a tuple (true) or a list (false) -/
noncomputable def IsS (k : Bool) (h : Heap) (l : Addr) (items : Array Value) : Prop := match k with
  | true => h.IsTuple l items
  | false => h.IsList l items
noncomputable def IsIt (k : Bool) (h : Heap) (i l : Addr) (n : Nat) : Prop := match k with
  | true => h.IsTupleIter i l n
  | false => h.IsListIter i l n
noncomputable def itN (k : Bool) : String := if k then "tuple_iterator" else "list_iterator"
noncomputable abbrev itO (k : Bool) (l : Addr) : Obj := { cls := .type (itN k), data := .fields #[.ref l, .int 0 0] }

theorem IsS.at {k : Bool} {h h' : Heap} {l : Addr} {items : Array Value} (x : IsS k h l items) (hk : ∀ o, h.get? l = some o → h'.get? l = some o) : IsS k h' l items := by
  cases k with
  | true => obtain ⟨o, ho, r⟩ := x; exact ⟨o, hk o ho, r⟩
  | false => obtain ⟨o, ho, r⟩ := x; exact ⟨o, hk o ho, r⟩
theorem IsIt.at {k : Bool} {h h' : Heap} {i l : Addr} {n : Nat} (x : IsIt k h i l n) (hk : ∀ o, h.get? i = some o → h'.get? i = some o) : IsIt k h' i l n := by
  cases k with
  | true => obtain ⟨o, ho, r⟩ := x; exact ⟨o, hk o ho, r⟩
  | false => obtain ⟨o, ho, r⟩ := x; exact ⟨o, hk o ho, r⟩
theorem IsIt.new (k : Bool) {h : Heap} {i l : Addr} (hg : h.get? i = some (itO k l)) : IsIt k h i l 0 := by
  cases k with
  | true => exact ⟨_, hg, rfl, rfl⟩
  | false => exact ⟨_, hg, rfl, rfl⟩
theorem IsIt.alive {k : Bool} {h : Heap} {i l : Addr} {n : Nat} (x : IsIt k h i l n) : ∃ o, h.get? i = some o := by
  cases k with
  | true => obtain ⟨o, ho, _⟩ := x; exact ⟨o, ho⟩
  | false => obtain ⟨o, ho, _⟩ := x; exact ⟨o, ho⟩
theorem IsS.alive {k : Bool} {h : Heap} {l : Addr} {items : Array Value} (x : IsS k h l items) : ∃ o, h.get? l = some o := by
  cases k with
  | true => obtain ⟨o, ho, _⟩ := x; exact ⟨o, ho⟩
  | false => obtain ⟨o, ho, _⟩ := x; exact ⟨o, ho⟩

section
variable {prog : Program} {w : World} {A : Around} {E : Value → Shared → Prop} {s : Shared}

theorem pyIter_S {k : Bool} {l : Addr} {items : Array Value} {Q : Value → Shared → Prop} (hl : IsS k s.heap l items) (h : Q (.ref s.heap.objs.size) { s with heap := s.heap.push (itO k l) }) :
    wpAny (model prog w) A (pyIter (.ref l)) Q E s := by
  cases k with
  | true => exact wpAny_pyIter_tuple hl h
  | false => exact wpAny_pyIter_list hl h

theorem pyNext_S {k : Bool} {it l : Addr} {i : Nat} {items : Array Value} {x : Value} {Q : Option Value → Shared → Prop} (hit : IsIt k s.heap it l i) (hl : IsS k s.heap l items) (hx : items[i]? = some x)
    (hQ : ∀ h', IsIt k h' it l (i + 1) → Heap.SameBut it s.heap h' → Q (some x) { s with heap := h' }) : wpAny (model prog w) A (pyNext (.ref it)) Q E s := by
  cases k with
  | true => exact wpAny_pyNext_tuple_item hit hl hx hQ
  | false => exact wpAny_pyNext_list_item hit hl hx hQ
theorem pyNext_SE {k : Bool} {it l : Addr} {i : Nat} {items : Array Value} {Q : Option Value → Shared → Prop} (hh : A.handled = none) (hit : IsIt k s.heap it l i) (hl : IsS k s.heap l items) (hx : items[i]? = none)
    (hQ : ∀ h', Heap.ExtBut it s.heap h' → Q none { s with heap := h' }) : wpAny (model prog w) A (pyNext (.ref it)) Q E s := by
  cases k with
  | true => exact wpAny_pyNext_tuple_end hh hit hl hx hQ
  | false => exact wpAny_pyNext_list_end hh hit hl hx hQ

theorem nextOf_S {k : Bool} {it l : Addr} {i : Nat} {items : Array Value} {x : Value} {Q : Value → Shared → Prop} (hit : IsIt k s.heap it l i) (hl : IsS k s.heap l items) (hx : items[i]? = some x)
    (hQ : ∀ h', IsIt k h' it l (i + 1) → Heap.SameBut it s.heap h' → Q x { s with heap := h' }) : wpAny (model prog w) A (Builtin.SmallTypes.nextOf (.ref it)) Q E s := by
  cases k with
  | false => exact wpAny_nextOf_list_item hit hl hx hQ
  | true =>
    obtain ⟨o, ho, hc, hd⟩ := id hit
    have hT : s.TypeIs (.ref it) "tuple_iterator" := ⟨o, ho, hc⟩
    obtain ⟨ol, hol, _, nl, hdl⟩ := hl
    unfold Builtin.SmallTypes.nextOf
    refine wpAny_bind (wpAny_callSpecial?_slot (name := Str.ofString "__next__") hT F.slot_tuple_iterator_next
      (wpAny_call_entry F.slot_tuple_iterator_next hT F.entry_tuple_iterator_next ?_ (F.args_tuple_iterator_next_1 _)))
    show wpAny _ _ (field (.ref it) 0 >>= _) _ _ s
    refine wpAny_bind (wpAny_field ho hd (x := .ref l) rfl ?_)
    show wpAny _ _ (if (Value.ref l == Value.none) = true then _ else _) _ _ s
    rw [if_neg (show ¬ ((Value.ref l == Value.none) = true) from Bool.false_ne_true)]
    show wpAny _ _ (field (.ref it) 1 >>= _) _ _ s
    refine wpAny_bind (wpAny_field ho hd (x := .int i 0) rfl ?_)
    show wpAny _ _ (seqItems? (.ref l) >>= _) _ _ s
    refine wpAny_bind (wpAny_seqItems hol hdl ?_)
    simp only [Int.toNat_natCast, hx]
    refine wpAny_bind (wpAny_setField ho hd (by simp) (wpAny_pure ⟨x, rfl, wpAny_pure (hQ _ ?_ (Heap.SameBut.update ..))⟩))
    exact ⟨_, Heap.get?_update_self _ ho (Obj.isFreed_of_fields (Obj.data_mapFields hd _)), (Obj.cls_mapFields ..).trans hc, by rw [Obj.data_mapFields hd]; simp [rawInt]⟩

theorem nextOf_SE {k : Bool} {it l : Addr} {i : Nat} {items : Array Value} {Q : Value → Shared → Prop} (hh : A.handled = none) (hit : IsIt k s.heap it l i) (hl : IsS k s.heap l items) (hx : items[i]? = none)
    (hE : ∀ h' e, Heap.ExtBut it s.heap h' → (∃ o, h'.get? e = some o ∧ o.cls = .type "StopIteration") → E (.ref e) { s with heap := h' }) : wpAny (model prog w) A (Builtin.SmallTypes.nextOf (.ref it)) Q E s := by
  cases k with
  | false => exact wpAny_nextOf_list_end hh hit hl hx hE
  | true =>
    obtain ⟨o, ho, hc, hd⟩ := id hit
    have hT : s.TypeIs (.ref it) "tuple_iterator" := ⟨o, ho, hc⟩
    obtain ⟨ol, hol, _, nl, hdl⟩ := hl
    unfold Builtin.SmallTypes.nextOf
    refine wpAny_bind (wpAny_callSpecial?_slot (name := Str.ofString "__next__") hT F.slot_tuple_iterator_next
      (wpAny_call_entry F.slot_tuple_iterator_next hT F.entry_tuple_iterator_next ?_ (F.args_tuple_iterator_next_1 _)))
    show wpAny _ _ (field (.ref it) 0 >>= _) _ _ s
    refine wpAny_bind (wpAny_field ho hd (x := .ref l) rfl ?_)
    show wpAny _ _ (if (Value.ref l == Value.none) = true then _ else _) _ _ s
    rw [if_neg (show ¬ ((Value.ref l == Value.none) = true) from Bool.false_ne_true)]
    show wpAny _ _ (field (.ref it) 1 >>= _) _ _ s
    refine wpAny_bind (wpAny_field ho hd (x := .int i 0) rfl ?_)
    show wpAny _ _ (seqItems? (.ref l) >>= _) _ _ s
    refine wpAny_bind (wpAny_seqItems hol hdl ?_)
    simp only [Int.toNat_natCast, hx]
    refine wpAny_bind (wpAny_rule (wpAny_bind (wpAny_setField ho hd (by simp) ?_)))
    show wpAny _ _ (newExc (.type "StopIteration") [] >>= _) _ _ _
    refine wpAny_bind ?_
    simp only [newExc, newTuple]
    refine wpAny_bind (wpAny_newObj_type ?_ (by size_fits))
    refine wpAny_bind (m := firstArgMember _ _) (wpAny_of_eq (a := Value.none) (by first | rfl | (simp only [firstArgMember]; rfl)) ?_)
    refine wpAny_newObj_type ?_ (by size_fits)
    simp only [raiseNew]
    refine wpAny_bind (wpAny_handled ?_)
    first | rw [show A.in1.handled = none from hh] | rw [hh]
    refine wpAny_bind (wpAny_pure (wpAny_throw ?_))
    exact hE _ _ (((Heap.SameBut.update ..).extBut.push _).push _) ⟨_, Heap.get?_push_size _ rfl, rfl⟩
end
end Mine
end

section
set_option autoImplicit false
set_option linter.unusedVariables false
namespace Mine
open PySem

section
variable {prog : Program} {w : World} {A : Around} {E : Value → Shared → Prop} {s : Shared}

theorem zip_item {b1 b2 : Bool} {z TI TO i1 i2 l1 l2 : Addr} {k1 k2 : Nat} {xs ys : Array Value} {x y a b : Value} {Q : Value → Shared → Prop} (D : ZipApart z TI TO i1 i2 l1 l2)
    (hz : IsZip s.heap z TI TO .none) (hTI : IsPair s.heap TI (.ref i1) (.ref i2)) (hTO : IsPair s.heap TO a b)
    (h1 : IsIt b1 s.heap i1 l1 k1) (h2 : IsIt b2 s.heap i2 l2 k2) (hl1 : IsS b1 s.heap l1 xs) (hl2 : IsS b2 s.heap l2 ys) (hx : xs[k1]? = some x) (hy : ys[k2]? = some y)
    (hQ : ∀ h', IsZip h' z TI TO (rawInt s.heap.objs.size) → IsPair h' TO x y → IsIt b1 h' i1 l1 (k1 + 1) → IsIt b2 h' i2 l2 (k2 + 1) → IsPair h' s.heap.objs.size x y → h'.objs.size = s.heap.objs.size + 1 →
      (∀ c o, c ≠ z → c ≠ TO → c ≠ i1 → c ≠ i2 → s.heap.get? c = some o → h'.get? c = some o) → Q (.ref s.heap.objs.size) { s with heap := h' }) :
    wpAny (model prog w) A (Builtin.«zip.__next__» ⟨[.ref z], []⟩) (fun fin s' => ∃ v, fin = .done (.ret v) ∧ Q v s') E s := by
  show wpAny _ _ (field (.ref z) 2 >>= _) _ _ _
  refine wpAny_bind (wpAny_field hz rfl (x := .bool false) rfl ?_)
  show wpAny _ _ (field (.ref z) 3 >>= _) _ _ _
  refine wpAny_bind (wpAny_field hz rfl (x := .ref TI) rfl ?_)
  refine wpAny_bind (wpAny_seqItems hTI rfl ?_)
  show wpAny _ _ (Builtin.SmallTypes.ownedTupleIsFree (.ref z) >>= _) _ _ _
  refine wpAny_bind ?_
  unfold Builtin.SmallTypes.ownedTupleIsFree
  refine wpAny_bind (wpAny_field hz rfl (x := .none) rfl (wpAny_pure ?_))
  simp only [if_true]
  refine wpAny_bind (wpAny_rule ?_)
  refine wpAny_bind (wpAny_field hz rfl (x := .ref TO) rfl ?_)
  refine wpAny_bind (wpAny_setField_rec hz (by simp) fun h₁ hz₁ hs₁ => ?_)
  replace hz₁ : IsZip h₁ z TI TO .ellipsis := hz₁
  refine wpAny_bind ?_
  simp only [List.zipIdx_cons, List.zipIdx_nil, List.forIn_cons, List.forIn_nil]
  refine wpAny_bind (wpAny_bind (wpAny_onRaise ?_))
  show wpAny _ _ (Builtin.SmallTypes.nextOf (.ref i1) >>= _) _ _ _
  refine wpAny_bind (nextOf_S (h1.at fun o e => hs₁.extBut _ _ D.i1z e) (hl1.at fun o e => hs₁.extBut _ _ D.l1z e) hx fun h₂ h1₂ hs₂ => wpAny_pure ?_)
  have hTO₂ : IsPair h₂ TO a b := hs₂.extBut _ _ D.TOi1 (hs₁.extBut _ _ D.TOz hTO)
  refine wpAny_bind (wpAny_seqItems hTO₂ rfl ?_)
  refine wpAny_bind (wpAny_updateSeq_pair hTO₂ fun h₃ hTO₃ hs₃ => ?_)
  replace hTO₃ : IsPair h₃ TO x b := hTO₃
  refine wpAny_bind (wpAny_letGo (wpAny_pure ?_))
  refine wpAny_bind (wpAny_bind (wpAny_onRaise ?_))
  show wpAny _ _ (Builtin.SmallTypes.nextOf (.ref i2) >>= _) _ _ _
  refine wpAny_bind (nextOf_S (h2.at fun o e => hs₃.extBut _ _ D.TOi2.symm (hs₂.extBut _ _ D.i12.symm (hs₁.extBut _ _ D.i2z e)))
    (hl2.at fun o e => hs₃.extBut _ _ D.l2TO (hs₂.extBut _ _ D.l2i1 (hs₁.extBut _ _ D.l2z e))) hy fun h₄ h2₄ hs₄ => wpAny_pure ?_)
  have hTO₄ : IsPair h₄ TO x b := hs₄.extBut _ _ D.TOi2 hTO₃
  refine wpAny_bind (wpAny_seqItems hTO₄ rfl ?_)
  refine wpAny_bind (wpAny_updateSeq_pair hTO₄ fun h₅ hTO₅ hs₅ => ?_)
  replace hTO₅ : IsPair h₅ TO x y := hTO₅
  refine wpAny_bind (wpAny_letGo (wpAny_pure (wpAny_pure ?_)))
  refine wpAny_bind (wpAny_seqItems hTO₅ rfl ?_)
  refine wpAny_bind (wpAny_newTuple ?_)
  have hsz : h₅.objs.size = s.heap.objs.size := by rw [hs₅.1, hs₄.1, hs₃.1, hs₂.1, hs₁.1]
  have hz₅ : IsZip h₅ z TI TO .ellipsis := hs₅.extBut _ _ D.TOz.symm (hs₄.extBut _ _ D.i2z.symm (hs₃.extBut _ _ D.TOz.symm (hs₂.extBut _ _ D.i1z.symm hz₁)))
  have hk₅ : ∀ c o, c ≠ z → c ≠ TO → c ≠ i1 → c ≠ i2 → s.heap.get? c = some o → h₅.get? c = some o := fun c o c1 c2 c3 c4 e =>
    hs₅.extBut _ _ c2 (hs₄.extBut _ _ c4 (hs₃.extBut _ _ c2 (hs₂.extBut _ _ c3 (hs₁.extBut _ _ c1 e))))
  have h1₅ : IsIt b1 h₅ i1 l1 (k1 + 1) := h1₂.at fun o e => hs₅.extBut _ _ D.TOi1.symm (hs₄.extBut _ _ D.i12 (hs₃.extBut _ _ D.TOi1.symm e))
  have h2₅ : IsIt b2 h₅ i2 l2 (k2 + 1) := h2₄.at fun o e => hs₅.extBut _ _ D.TOi2.symm e
  have hzlt : z < h₅.objs.size := Heap.lt_size hz₅
  show wpAny _ _ (Builtin.SmallTypes.ownedTupleHandOut (.ref z) (.ref h₅.objs.size) >>= _) _ _ _
  refine wpAny_bind ?_
  unfold Builtin.SmallTypes.ownedTupleHandOut
  have hz₆ : IsZip (h₅.push { cls := .type "tuple", data := .seq #[x, y] }) z TI TO .ellipsis := Heap.get?_push_of_some _ hz₅
  refine wpAny_bind (wpAny_setField_rec hz₆ (by simp) fun h₇ hz₇ hs₇ => ?_)
  replace hz₇ : IsZip h₇ z TI TO (rawInt h₅.objs.size) := hz₇
  refine wpAny_setField_rec hz₇ (by simp) fun h₈ hz₈ hs₈ => ?_
  replace hz₈ : IsZip h₈ z TI TO (rawInt h₅.objs.size) := hz₈
  have up : ∀ c o, c ≠ z → h₅.get? c = some o → h₈.get? c = some o := fun c o c1 e => hs₈.extBut _ _ c1 (hs₇.extBut _ _ c1 (Heap.get?_push_of_some _ e))
  have hT₈ : IsPair h₈ h₅.objs.size x y := hs₈.extBut _ _ (Nat.ne_of_gt hzlt) (hs₇.extBut _ _ (Nat.ne_of_gt hzlt) (Heap.get?_push_size _ rfl))
  have hz8 : h₈.objs.size = h₅.objs.size + 1 := by rw [hs₈.1, hs₇.1, Heap.size_push]
  rw [hsz] at hz₈ hT₈ hz8
  refine wpAny_pure ⟨_, rfl, ?_⟩
  show Q (.ref h₅.objs.size) _
  rw [hsz]
  exact hQ h₈ hz₈ (up _ _ D.TOz hTO₅) (h1₅.at fun o e => up _ o D.i1z e) (h2₅.at fun o e => up _ o D.i2z e) hT₈ hz8 fun c o c1 c2 c3 c4 e => up c o c1 (hk₅ c o c1 c2 c3 c4 e)

theorem zip_end {b1 b2 : Bool} {z TI TO i1 i2 l1 l2 : Addr} {k1 k2 : Nat} {xs ys : Array Value} {a b : Value} {Q : Fin → Shared → Prop} (hh : A.handled = none) (D : ZipApart z TI TO i1 i2 l1 l2)
    (hz : IsZip s.heap z TI TO .none) (hTI : IsPair s.heap TI (.ref i1) (.ref i2)) (hTO : IsPair s.heap TO a b)
    (h1 : IsIt b1 s.heap i1 l1 k1) (h2 : IsIt b2 s.heap i2 l2 k2) (hl1 : IsS b1 s.heap l1 xs) (hl2 : IsS b2 s.heap l2 ys) (hend : xs[k1]? = none ∨ ys[k2]? = none)
    (hE : ∀ h' e, (∀ c o, c ≠ z → c ≠ TO → c ≠ i1 → c ≠ i2 → s.heap.get? c = some o → h'.get? c = some o) → (∃ o, h'.get? e = some o ∧ o.cls = .type "StopIteration") → E (.ref e) { s with heap := h' }) :
    wpAny (model prog w) A (Builtin.«zip.__next__» ⟨[.ref z], []⟩) Q E s := by
  show wpAny _ _ (field (.ref z) 2 >>= _) _ _ _
  refine wpAny_bind (wpAny_field hz rfl (x := .bool false) rfl ?_)
  show wpAny _ _ (field (.ref z) 3 >>= _) _ _ _
  refine wpAny_bind (wpAny_field hz rfl (x := .ref TI) rfl ?_)
  refine wpAny_bind (wpAny_seqItems hTI rfl ?_)
  show wpAny _ _ (Builtin.SmallTypes.ownedTupleIsFree (.ref z) >>= _) _ _ _
  refine wpAny_bind ?_
  unfold Builtin.SmallTypes.ownedTupleIsFree
  refine wpAny_bind (wpAny_field hz rfl (x := .none) rfl (wpAny_pure ?_))
  simp only [if_true]
  refine wpAny_bind (wpAny_rule ?_)
  refine wpAny_bind (wpAny_field hz rfl (x := .ref TO) rfl ?_)
  refine wpAny_bind (wpAny_setField_rec hz (by simp) fun h₁ hz₁ hs₁ => ?_)
  replace hz₁ : IsZip h₁ z TI TO .ellipsis := hz₁
  refine wpAny_bind ?_
  simp only [List.zipIdx_cons, List.zipIdx_nil, List.forIn_cons, List.forIn_nil]
  refine wpAny_bind (wpAny_bind (wpAny_onRaise ?_))
  show wpAny _ _ (Builtin.SmallTypes.nextOf (.ref i1) >>= _) _ _ _
  cases hx : xs[k1]? with
  | none =>
    refine wpAny_bind (nextOf_SE hh (h1.at fun o e => hs₁.extBut _ _ D.i1z e) (hl1.at fun o e => hs₁.extBut _ _ D.l1z e) hx fun h₂ e hs₂ he => ?_)
    obtain ⟨oe, hoe, hce⟩ := he
    have hz₂ : IsZip h₂ z TI TO .ellipsis := hs₂ _ _ D.i1z.symm hz₁
    have hez : e ≠ z := fun x => by subst x; rw [hz₂] at hoe; cases hoe; simp at hce
    refine wpAny_setField_rec hz₂ (by simp) fun h₃ _ hs₃ => hE h₃ e (fun c o c1 _ c3 _ x => hs₃.extBut _ _ c1 (hs₂ _ _ c3 (hs₁.extBut _ _ c1 x))) ⟨oe, hs₃.extBut _ _ hez hoe, hce⟩
  | some x =>
    have hy : ys[k2]? = none := by rcases hend with h | h; rw [hx] at h; cases h; exact h
    refine wpAny_bind (nextOf_S (h1.at fun o e => hs₁.extBut _ _ D.i1z e) (hl1.at fun o e => hs₁.extBut _ _ D.l1z e) hx fun h₂ h1₂ hs₂ => wpAny_pure ?_)
    have hTO₂ : IsPair h₂ TO a b := hs₂.extBut _ _ D.TOi1 (hs₁.extBut _ _ D.TOz hTO)
    refine wpAny_bind (wpAny_seqItems hTO₂ rfl ?_)
    refine wpAny_bind (wpAny_updateSeq_pair hTO₂ fun h₃ hTO₃ hs₃ => ?_)
    refine wpAny_bind (wpAny_letGo (wpAny_pure ?_))
    refine wpAny_bind (wpAny_bind (wpAny_onRaise ?_))
    show wpAny _ _ (Builtin.SmallTypes.nextOf (.ref i2) >>= _) _ _ _
    refine wpAny_bind (nextOf_SE hh (h2.at fun o e => hs₃.extBut _ _ D.TOi2.symm (hs₂.extBut _ _ D.i12.symm (hs₁.extBut _ _ D.i2z e)))
      (hl2.at fun o e => hs₃.extBut _ _ D.l2TO (hs₂.extBut _ _ D.l2i1 (hs₁.extBut _ _ D.l2z e))) hy fun h₄ e hs₄ he => ?_)
    obtain ⟨oe, hoe, hce⟩ := he
    have hz₄ : IsZip h₄ z TI TO .ellipsis := hs₄ _ _ D.i2z.symm (hs₃.extBut _ _ D.TOz.symm (hs₂.extBut _ _ D.i1z.symm hz₁))
    have hez : e ≠ z := fun x => by subst x; rw [hz₄] at hoe; cases hoe; simp at hce
    refine wpAny_setField_rec hz₄ (by simp) fun h₅ _ hs₅ => hE h₅ e (fun c o c1 c2 c3 c4 x => hs₅.extBut _ _ c1 (hs₄ _ _ c4 (hs₃.extBut _ _ c2 (hs₂.extBut _ _ c3 (hs₁.extBut _ _ c1 x))))) ⟨oe, hs₅.extBut _ _ hez hoe, hce⟩

theorem pyNext_zip {b1 b2 : Bool} {z TI TO i1 i2 l1 l2 : Addr} {k1 k2 : Nat} {xs ys : Array Value} {x y a b : Value} {Q : Option Value → Shared → Prop} (D : ZipApart z TI TO i1 i2 l1 l2)
    (hz : IsZip s.heap z TI TO .none) (hTI : IsPair s.heap TI (.ref i1) (.ref i2)) (hTO : IsPair s.heap TO a b)
    (h1 : IsIt b1 s.heap i1 l1 k1) (h2 : IsIt b2 s.heap i2 l2 k2) (hl1 : IsS b1 s.heap l1 xs) (hl2 : IsS b2 s.heap l2 ys) (hx : xs[k1]? = some x) (hy : ys[k2]? = some y)
    (hQ : ∀ h', IsZip h' z TI TO (rawInt s.heap.objs.size) → IsPair h' TO x y → IsIt b1 h' i1 l1 (k1 + 1) → IsIt b2 h' i2 l2 (k2 + 1) → IsPair h' s.heap.objs.size x y → h'.objs.size = s.heap.objs.size + 1 →
      (∀ c o, c ≠ z → c ≠ TO → c ≠ i1 → c ≠ i2 → s.heap.get? c = some o → h'.get? c = some o) → Q (some (.ref s.heap.objs.size)) { s with heap := h' }) :
    wpAny (model prog w) A (pyNext (.ref z)) Q E s := by
  have hT : s.TypeIs (.ref z) "zip" := ⟨_, hz, rfl⟩
  unfold pyNext
  exact wpAny_bind (wpAny_attempt (wpAny_callSpecial?_slot (name := Str.ofString "__next__") hT F.slot_zip_next
    (wpAny_call_entry F.slot_zip_next hT F.entry_zip_next
      (zip_item D hz hTI hTO h1 h2 hl1 hl2 hx hy fun h' a1 a2 a3 a4 a5 a6 a7 => wpAny_pure (hQ h' a1 a2 a3 a4 a5 a6 a7)) (F.args_zip_next_1 _))))

theorem pyNext_zipE {b1 b2 : Bool} {z TI TO i1 i2 l1 l2 : Addr} {k1 k2 : Nat} {xs ys : Array Value} {a b : Value} {Q : Option Value → Shared → Prop} (hh : A.handled = none) (D : ZipApart z TI TO i1 i2 l1 l2)
    (hz : IsZip s.heap z TI TO .none) (hTI : IsPair s.heap TI (.ref i1) (.ref i2)) (hTO : IsPair s.heap TO a b)
    (h1 : IsIt b1 s.heap i1 l1 k1) (h2 : IsIt b2 s.heap i2 l2 k2) (hl1 : IsS b1 s.heap l1 xs) (hl2 : IsS b2 s.heap l2 ys) (hend : xs[k1]? = none ∨ ys[k2]? = none)
    (hQ : ∀ h', (∀ c o, c ≠ z → c ≠ TO → c ≠ i1 → c ≠ i2 → s.heap.get? c = some o → h'.get? c = some o) → Q none { s with heap := h' }) : wpAny (model prog w) A (pyNext (.ref z)) Q E s := by
  have hT : s.TypeIs (.ref z) "zip" := ⟨_, hz, rfl⟩
  unfold pyNext
  refine wpAny_bind (wpAny_attempt (wpAny_callSpecial?_slot (name := Str.ofString "__next__") hT F.slot_zip_next
    (wpAny_call_entry F.slot_zip_next hT F.entry_zip_next (zip_end hh D hz hTI hTO h1 h2 hl1 hl2 hend fun h' e hk he => ?_) (F.args_zip_next_1 _))))
  obtain ⟨o, ho, hc⟩ := he
  refine wpAny_bind (wpAny_isInstance (T := "StopIteration") (b := true) ⟨o, ho, hc⟩ isSubtype_stop ?_)
  exact wpAny_pure (hQ _ hk)
end

noncomputable abbrev zH1 (b1 : Bool) (h : Heap) (l1 : Addr) : Heap := h.push (itO b1 l1)
noncomputable abbrev zH2 (b1 b2 : Bool) (h : Heap) (l1 l2 : Addr) : Heap := (zH1 b1 h l1).push (itO b2 l2)
noncomputable abbrev zH3 (b1 b2 : Bool) (h : Heap) (l1 l2 : Addr) : Heap := (zH2 b1 b2 h l1 l2).push { cls := .type "tuple", data := .seq #[.ref h.objs.size, .ref (zH1 b1 h l1).objs.size] }
noncomputable abbrev zH4 (b1 b2 : Bool) (h : Heap) (l1 l2 : Addr) : Heap := (zH3 b1 b2 h l1 l2).push { cls := .type "tuple", data := .seq #[.none, .none] }
noncomputable abbrev zH5 (b1 b2 : Bool) (h : Heap) (l1 l2 : Addr) : Heap := (zH4 b1 b2 h l1 l2).push { cls := .type "zip", data := .fields #[.none, .bool false, .bool false, .ref (zH2 b1 b2 h l1 l2).objs.size, .ref (zH3 b1 b2 h l1 l2).objs.size] }

theorem meets_zip (b1 b2 : Bool) (l1 l2 : Addr) (xs ys : Array Value) :
    Meets (Builtin.«zip.__new__» ⟨[.type "zip", .ref l1, .ref l2], []⟩) (fun _ R s => IsS b1 s.heap l1 xs ∧ IsS b2 s.heap l2 ys ∧
      R (.ok (.ret (.ref (zH4 b1 b2 s.heap l1 l2).objs.size))) { s with heap := zH5 b1 b2 s.heap l1 l2 }) :=
  .of_wp fun prog w A R s h => by
    obtain ⟨hp, g, d, tk, os⟩ := s; obtain ⟨hl1, hl2, h⟩ := h
    have hsub := sub_zip
    have hL1 : IsS b1 (Shared.heap ⟨hp, g, d, tk, os⟩) l1 xs := hl1
    have hL2 : IsS b2 (Shared.heap ⟨hp.push (itO b1 l1), g, d, tk, os⟩) l2 ys := hl2.at fun o e => Heap.get?_push_of_some _ e
    wp_walk using pyIter_S hL1, pyIter_S hL2
    exact ⟨_, rfl, h⟩

theorem call_zip {prog : Program} {w : World} {A : Around} {E : Value → Shared → Prop} {s : Shared} {b1 b2 : Bool} {l1 l2 : Addr} {xs ys : Array Value} {Q : Value → Shared → Prop} (hl1 : IsS b1 s.heap l1 xs) (hl2 : IsS b2 s.heap l2 ys)
    (h : ∀ h', IsZip h' (s.heap.objs.size + 4) (s.heap.objs.size + 2) (s.heap.objs.size + 3) .none → IsPair h' (s.heap.objs.size + 2) (.ref s.heap.objs.size) (.ref (s.heap.objs.size + 1)) →
      IsPair h' (s.heap.objs.size + 3) .none .none → IsIt b1 h' s.heap.objs.size l1 0 → IsIt b2 h' (s.heap.objs.size + 1) l2 0 →
      (∀ c o, s.heap.get? c = some o → h'.get? c = some o) → Q (.ref (s.heap.objs.size + 4)) { s with heap := h' }) :
    wpAny (model prog w) A (call (.type "zip") [.ref l1, .ref l2]) Q E s := by
  refine callType_new F.called_zip (by decide) (F.typeCall_zip_2 _ _) (F.newCall_zip_2 _ _) (fun obj => F.args_object_init_3 obj _ _) F.entry_zip_new
    (meets_zip b1 b2 l1 l2 xs ys) ⟨hl1, hl2, ?_⟩
  have z1 : (zH1 b1 s.heap l1).objs.size = s.heap.objs.size + 1 := Heap.size_push ..
  have z2 : (zH2 b1 b2 s.heap l1 l2).objs.size = s.heap.objs.size + 2 := by rw [Heap.size_push, z1]
  have z3 : (zH3 b1 b2 s.heap l1 l2).objs.size = s.heap.objs.size + 3 := by rw [Heap.size_push, z2]
  have z4 : (zH4 b1 b2 s.heap l1 l2).objs.size = s.heap.objs.size + 4 := by rw [Heap.size_push, z3]
  have g5 : (zH5 b1 b2 s.heap l1 l2).get? (zH4 b1 b2 s.heap l1 l2).objs.size = some _ := Heap.get?_push_size _ rfl
  have g4 : (zH5 b1 b2 s.heap l1 l2).get? (zH3 b1 b2 s.heap l1 l2).objs.size = some _ := Heap.get?_push_of_some _ (Heap.get?_push_size _ rfl)
  have g3 : (zH5 b1 b2 s.heap l1 l2).get? (zH2 b1 b2 s.heap l1 l2).objs.size = some _ := Heap.get?_push_of_some _ (Heap.get?_push_of_some _ (Heap.get?_push_size _ rfl))
  have g2 : (zH5 b1 b2 s.heap l1 l2).get? (zH1 b1 s.heap l1).objs.size = some (itO b2 l2) := Heap.get?_push_of_some _ (Heap.get?_push_of_some _ (Heap.get?_push_of_some _ (Heap.get?_push_size _ rfl)))
  have g1 : (zH5 b1 b2 s.heap l1 l2).get? s.heap.objs.size = some (itO b1 l1) := Heap.get?_push_of_some _ (Heap.get?_push_of_some _ (Heap.get?_push_of_some _ (Heap.get?_push_of_some _ (Heap.get?_push_size _ rfl))))
  show _ ∧ _
  rw [z2, z3, z4] at g5
  rw [z1, z2] at g3
  rw [z3] at g4
  rw [z1] at g2
  rw [z4]
  exact ⟨⟨_, g5, rfl⟩, h _ g5 g3 g4 (IsIt.new b1 g1) (IsIt.new b2 g2) fun c o x =>
    Heap.get?_push_of_some _ (Heap.get?_push_of_some _ (Heap.get?_push_of_some _ (Heap.get?_push_of_some _ (Heap.get?_push_of_some _ x))))⟩
end Mine
end

section
set_option autoImplicit false
set_option linter.unusedVariables false
namespace Mine
open PySem

structure Turn (prog : Program) (w : World) (A : Around) (target : Expr) (I : Addr) (fp wr : List Addr) (n : Nat) (V : Nat → Value → Heap → Heap → Prop) (St : Nat → Heap → Prop) : Prop where
  frame : ∀ i h h', St i h → (∀ b ∈ fp, ∀ o, h.get? b = some o → h'.get? b = some o) → St i h'
  item : ∀ i (s : Shared) (Q : Value → Shared → Prop) (E : Value → Shared → Prop), i < n → St i s.heap →
    (∀ v h' tk, V i v s.heap h' → St (i + 1) h' → (∀ b o, b ∉ wr → s.heap.get? b = some o → h'.get? b = some o) → Q v { s with heap := h', toks := tk }) →
    wpAny (model prog w) A (pyNext (.ref I)) (fun r s1 => match r with
      | none => False
      | some v => wpAny (model prog w) A (letOwnedTupleGo target (.ref I) v) (fun _ s2 => Q v s2) E s1) E s
  done : ∀ (s : Shared) (Q : Shared → Prop) (E : Value → Shared → Prop), St n s.heap →
    (∀ h' tk, (∀ b o, b ∉ wr → s.heap.get? b = some o → h'.get? b = some o) → Q { s with heap := h', toks := tk }) →
    wpAny (model prog w) A (pyNext (.ref I)) (fun r s1 => match r with
      | none => Q s1
      | some _ => False) E s
  self : ∀ i (s : Shared) (Q : Value → Shared → Prop) (E : Value → Shared → Prop), St i s.heap → Q (.ref I) s → wpAny (model prog w) A (pyIter (.ref I)) Q E s
  alive : ∀ i h, St i h → ∀ b ∈ fp, ∃ o, h.get? b = some o

section
variable {prog : Program} {w : World} {A : Around}

theorem letGo_S {E : Value → Shared → Prop} {k : Bool} {target : Expr} {I l : Addr} {i : Nat} {v : Value} {Q : Unit → Shared → Prop} {s : Shared} (hit : IsIt k s.heap I l i) (h : Q () s) :
    wpAny (model prog w) A (letOwnedTupleGo target (.ref I) v) Q E s := by
  cases k with
  | true => exact PyProof.Rows.letGo_tupleiter hit h
  | false => exact PyProof.Rows.letGo_listiter hit h
theorem letGo_int {E : Value → Shared → Prop} {target : Expr} {it : Value} {i : Int} {t : Tok} {Q : Unit → Shared → Prop} {s : Shared} (h : Q () s) :
    wpAny (model prog w) A (letOwnedTupleGo target it (.int i t)) Q E s := by
  have : letOwnedTupleGo target it (.int i t) = pure () := by
    cases target <;> first | rfl | (cases it <;> rfl)
  rw [this]; exact wpAny_pure h
theorem pyIter_It {E : Value → Shared → Prop} {k : Bool} {I l : Addr} {i : Nat} {Q : Value → Shared → Prop} {s : Shared} (hit : IsIt k s.heap I l i) (h : Q (.ref I) s) : wpAny (model prog w) A (pyIter (.ref I)) Q E s := by
  cases k with
  | true => exact wpAny_pyIter_tupleiter hit h
  | false => exact wpAny_pyIter_listiter hit h

theorem Turn.seq (hh : A.handled = none) (k : Bool) (target : Expr) (I l : Addr) (hne : l ≠ I) (items : Array Value) :
    Turn prog w A target I [I, l] [I] items.size (fun i v _ _ => items[i]? = some v) (fun i h => IsIt k h I l i ∧ IsS k h l items) where
  frame := fun _ _ _ st hk => ⟨st.1.at fun o e => hk I (by simp) o e, st.2.at fun o e => hk l (by simp) o e⟩
  item := fun i s Q E hi st hQ => by
    refine pyNext_S st.1 st.2 (x := items[i]) (by simp [hi]) fun h' hit' hs' => ?_
    refine letGo_S (k := k) hit' ?_
    exact hQ _ h' s.toks (by simp [hi]) ⟨hit', st.2.at fun o e => hs'.extBut _ _ hne e⟩ fun b o hb e => hs'.extBut b o (fun h => hb (by simp [h])) e
  done := fun s Q E st hQ => pyNext_SE hh st.1 st.2 (by simp) fun h' he' => hQ h' s.toks fun b o hb e => he' b o (fun h => hb (by simp [h])) e
  self := fun _ _ _ _ st hQ => pyIter_It st.1 hQ
  alive := fun i h st b hb => by
    simp at hb
    rcases hb with rfl | rfl
    · exact st.1.alive
    · exact st.2.alive

theorem Turn.range (hh : A.handled = none) (target : Expr) (I : Addr) (a : Int) (n : Nat) :
    Turn prog w A target I [I] [I] n (fun i v _ _ => i < n ∧ ∃ t, v = .int (a + i) t) (fun i h => IsRangeIter h I (a + (i : Nat)) ((n : Int) - (i : Nat)) 1) where
  frame := fun _ _ _ st hk => hk I (by simp) _ st
  item := fun i s Q E hi st hQ => by
    refine wpAny_pyNext_range_item st (by omega) fun h' hit' hs' => ?_
    refine letGo_int ?_
    refine hQ _ h' _ ⟨hi, _, rfl⟩ ?_ fun b o hb e => hs'.extBut b o (fun h => hb (by simp [h])) e
    have e1 : a + ((i + 1 : Nat) : Int) = a + (i : Int) + 1 := by omega
    have e2 : (n : Int) - ((i + 1 : Nat) : Int) = (n : Int) - (i : Int) - 1 := by omega
    rw [e1, e2]; exact hit'
  done := fun s Q E st hQ => wpAny_pyNext_range_end hh st (by omega) fun h' he' => hQ h' s.toks fun b o hb e => he' b o (fun h => hb (by simp [h])) e
  self := fun _ _ _ _ st hQ => wpAny_pyIter_rangeiter st hQ
  alive := fun i h st b hb => by simp at hb; subst hb; exact ⟨_, st⟩

theorem Turn.zip (hh : A.handled = none) (b1 b2 : Bool) (elts : List Expr) (kk : Nat) (pos : Pos) (z TI TO i1 i2 l1 l2 : Addr) (D : ZipApart z TI TO i1 i2 l1 l2) (xs ys : Array Value) :
    Turn prog w A (.Tuple elts kk pos) z [z, TI, TO, i1, i2, l1, l2] [z, TO, i1, i2] (min xs.size ys.size)
      (fun i v h h' => ∃ T x y, v = .ref T ∧ h.get? T = none ∧ xs[i]? = some x ∧ ys[i]? = some y ∧ h'.get? T = some (tupO [x, y] 0))
      (fun i h => IsZip h z TI TO .none ∧ IsPair h TI (.ref i1) (.ref i2) ∧ (∃ a b, IsPair h TO a b) ∧ IsIt b1 h i1 l1 i ∧ IsIt b2 h i2 l2 i ∧ IsS b1 h l1 xs ∧ IsS b2 h l2 ys) where
  frame := fun i h h' hst hk => by
    obtain ⟨hz, hTI, ⟨a, b, hTO⟩, h1, h2, hl1, hl2⟩ := hst
    exact ⟨hk z (by simp) _ hz, hk TI (by simp) _ hTI, ⟨a, b, hk TO (by simp) _ hTO⟩, h1.at fun o e => hk i1 (by simp) o e, h2.at fun o e => hk i2 (by simp) o e,
      hl1.at fun o e => hk l1 (by simp) o e, hl2.at fun o e => hk l2 (by simp) o e⟩
  item := fun i s Q E hi hst hQ => by
    obtain ⟨hz, hTI, ⟨a, b, hTO⟩, h1, h2, hl1, hl2⟩ := hst
    have hix : i < xs.size := Nat.lt_of_lt_of_le hi (Nat.min_le_left ..)
    have hiy : i < ys.size := Nat.lt_of_lt_of_le hi (Nat.min_le_right ..)
    refine pyNext_zip D hz hTI hTO h1 h2 hl1 hl2 (Array.getElem?_eq_getElem hix) (Array.getElem?_eq_getElem hiy) fun h' a1 a2 a3 a4 a5 a6 hk => ?_
    have lt : ∀ {c o}, s.heap.get? c = some o → s.heap.objs.size ≠ c := fun e => Nat.ne_of_gt (Heap.lt_size e)
    refine wpAny_letOwnedTupleGo_zip a1 fun h2' hz' hs' => ?_
    refine hQ _ h2' s.toks ⟨s.heap.objs.size, _, _, rfl, get_size _, Array.getElem?_eq_getElem hix, Array.getElem?_eq_getElem hiy, hs'.extBut _ _ (lt hz) a5⟩
      ⟨hz', hs'.extBut _ _ D.TIz (hk _ _ D.TIz D.TITO D.TIi1 D.TIi2 hTI), ⟨_, _, hs'.extBut _ _ D.TOz a2⟩, a3.at fun o e => hs'.extBut _ _ D.i1z e, a4.at fun o e => hs'.extBut _ _ D.i2z e,
        hl1.at fun o e => hs'.extBut _ _ D.l1z (hk _ o D.l1z D.l1TO D.l1i1 D.l1i2 e), hl2.at fun o e => hs'.extBut _ _ D.l2z (hk _ o D.l2z D.l2TO D.l2i1 D.l2i2 e)⟩
      fun c o hc e => hs'.extBut _ _ (fun x => hc (by simp [x])) (hk c o (fun x => hc (by simp [x])) (fun x => hc (by simp [x])) (fun x => hc (by simp [x])) (fun x => hc (by simp [x])) e)
  done := fun s Q E hst hQ => by
    obtain ⟨hz, hTI, ⟨a, b, hTO⟩, h1, h2, hl1, hl2⟩ := hst
    refine pyNext_zipE hh D hz hTI hTO h1 h2 hl1 hl2 ?_ fun h' hk => hQ h' s.toks fun c o hc e => hk c o (fun x => hc (by simp [x])) (fun x => hc (by simp [x])) (fun x => hc (by simp [x])) (fun x => hc (by simp [x])) e
    by_cases q : xs.size ≤ ys.size
    · left; rw [Nat.min_eq_left q]; simp
    · right; rw [Nat.min_eq_right (by omega)]; simp
  self := fun _ _ _ _ st hQ => wpAny_pyIter_zip st.1 hQ
  alive := fun i h hst c hc => by
    obtain ⟨hz, hTI, ⟨a, b, hTO⟩, h1, h2, hl1, hl2⟩ := hst
    simp at hc
    rcases hc with rfl | rfl | rfl | rfl | rfl | rfl | rfl
    · exact ⟨_, hz⟩
    · exact ⟨_, hTI⟩
    · exact ⟨_, hTO⟩
    · exact h1.alive
    · exact h2.alive
    · exact hl1.alive
    · exact hl2.alive

theorem Turn.enum (hh : A.handled = none) (elts : List Expr) (kk : Nat) (pos : Pos) (e it l : Addr) (hei : e ≠ it) (hle : l ≠ e) (hli : l ≠ it) (items : Array Value) :
    Turn prog w A (.Tuple elts kk pos) e [e, it, l] [e, it] items.size
      (fun i v h h' => ∃ T x tk, v = .ref T ∧ h.get? T = none ∧ items[i]? = some x ∧ h'.get? T = some (tupO [.int (i : Nat) tk, x] 0))
      (fun i h => (∃ old, IsEnum h e it ((i : Nat) : Int) old) ∧ h.IsListIter it l i ∧ h.IsList l items) where
  frame := fun i h h' hst hk => by
    obtain ⟨⟨old, he⟩, ⟨oi, hi, hi'⟩, ⟨ol, hl, hl'⟩⟩ := hst
    exact ⟨⟨old, hk e (by simp) _ he⟩, ⟨oi, hk it (by simp) _ hi, hi'⟩, ⟨ol, hk l (by simp) _ hl, hl'⟩⟩
  item := fun i s Q E hi hst hQ => by
    obtain ⟨⟨old, he⟩, hit, hl⟩ := hst
    have lt : ∀ {c o}, s.heap.get? c = some o → s.heap.objs.size ≠ c := fun e => Nat.ne_of_gt (Heap.lt_size e)
    obtain ⟨ol, hl1, hl2⟩ := hl
    refine wpAny_pyNext_enum_item he hit ⟨ol, hl1, hl2⟩ (Array.getElem?_eq_getElem hi) hei fun h' heo hit' ht' _ hk => ?_
    refine wpAny_letOwnedTupleGo_enum heo fun h2 he2 hs2 => ?_
    obtain ⟨oi, hi1, hi2⟩ := hit'
    refine hQ _ h2 (s.toks + 1) ⟨s.heap.objs.size, _, s.toks, rfl, get_size _, Array.getElem?_eq_getElem hi, hs2.extBut _ _ (lt he) ht'⟩ ⟨⟨_, by exact he2⟩, ⟨oi, hs2.extBut _ _ (Ne.symm hei) hi1, hi2⟩, ⟨ol, hs2.extBut _ _ hle (hk l _ hle hli hl1), hl2⟩⟩
      fun c o hc q => hs2.extBut _ _ (fun x => hc (by simp [x])) (hk c o (fun x => hc (by simp [x])) (fun x => hc (by simp [x])) q)
  done := fun s Q E hst hQ => by
    obtain ⟨⟨old, he⟩, hit, hl⟩ := hst
    exact wpAny_pyNext_enum_end hh he hit hl (by simp) fun h' hk => hQ h' s.toks fun c o hc q => hk c o (fun x => hc (by simp [x])) q
  self := fun _ _ _ _ st hQ => by
    obtain ⟨⟨old, he⟩, _⟩ := st
    exact wpAny_pyIter_enum he hQ
  alive := fun i h hst c hc => by
    obtain ⟨⟨old, he⟩, ⟨oi, hi, _⟩, ⟨ol, hl, _⟩⟩ := hst
    simp at hc
    rcases hc with rfl | rfl | rfl
    · exact ⟨_, he⟩
    · exact ⟨_, hi⟩
    · exact ⟨_, hl⟩
end

/-- an iterator is ready: what it will yield, and what it leans on -/
structure IterOK (prog : Program) (w : World) (A : Around) (target : Expr) (own : Addr → Prop) (it : Value) (items : List D) (p : Nat → Bool) (s0 : Shared) (s : Shared) (W : Wd) : Prop where
  ex : ∃ I fp wr V St, it = .ref I ∧ Turn prog w A target I fp wr items.length V St ∧ St 0 s.heap ∧
    (∀ i v h h', V i v h h' → ∃ d, items[i]? = some d ∧ (Rep W.R W.ρ d v ∨ ∃ T vs ds, d = .tup ds ∧ v = .ref T ∧ h.get? T = none ∧ h'.get? T = some (tupO vs 0) ∧ RepAll W.R W.ρ ds vs)) ∧
    (∀ b ∈ wr, s0.heap.get? b = none ∧ W.R b = none ∧ ∀ n, W.ρ n ≠ some b) ∧
    (∀ b ∈ wr, b ∈ fp) ∧
    (∀ b ∈ fp, (∃ o, s.heap.get? b = some o) ∧ ¬ own b ∧ ∀ n, W.ρ n = some b → p n = true)
  pd : ∀ n, p n = true → ∃ a, W.ρ n = some a

end Mine
end

section
set_option autoImplicit false
set_option linter.unusedVariables false
namespace Mine
open PySem

/-- a frame's own addresses: alive at s0, of no data, of no cell -/
noncomputable def OwnOK (own : Addr → Prop) (s0 : Shared) (W : Wd) : Prop := ∀ b, own b → (∃ o, s0.heap.get? b = some o) ∧ W.R b = none ∧ ∀ n, W.ρ n ≠ some b

section
variable {prog : Program} {w : World} {A : Around} {h₀ : Heap} {own : Addr → Prop} {s0 s : Shared} {W0 W : Wd}

structure Fresh (own : Addr → Prop) (s0 : Shared) (W : Wd) (b : Addr) : Prop where
  dead0 : s0.heap.get? b = none
  R : W.R b = none
  ρ : ∀ n, W.ρ n ≠ some b
  own : ¬ own b

theorem fresh_of (S : Sim h₀ W s) (x : Step noOwn s0 W0 s W) (O : OwnOK own s0 W) {b : Addr} (hb : s.heap.get? b = none) : Fresh own s0 W b where
  dead0 := by
    cases q : s0.heap.get? b with
    | none => rfl
    | some o => obtain ⟨o', e⟩ := x.live b o q; rw [hb] at e; cases e
  R := by
    cases q : W.R b with
    | none => rfl
    | some o => have := S.frz b o q; rw [hb] at this; cases this
  ρ := fun n q => by obtain ⟨_, o, e⟩ := S.dis n b q; rw [hb] at e; cases e
  own := fun q => by
    obtain ⟨⟨o, e⟩, _⟩ := O b q
    obtain ⟨o', e'⟩ := x.live b o e; rw [hb] at e'; cases e'
theorem dead_ge {b : Addr} (hb : s.heap.objs.size ≤ b) : s.heap.get? b = none := by
  cases q : s.heap.get? b with
  | none => rfl
  | some o => exact absurd (Heap.lt_size q) (Nat.not_lt.mpr hb)

theorem lst_fp (S : Sim h₀ W s) (O : OwnOK own s0 W) {d : D} {xs : List D} {v : Value} (rd : Rep W.R W.ρ d v) (hx' : lstD W.st d = some xs) :
    ∃ l vs, v = .ref l ∧ IsS false s.heap l vs.toArray ∧ RepAll W.R W.ρ xs vs ∧ ¬ own l ∧ ∀ n, W.ρ n = some l → pinOf d n = true := by
  obtain ⟨l, vs, n, e, hg, hr⟩ := S.lst rd hx'
  refine ⟨l, vs, e, ⟨_, hg, rfl, n, rfl⟩, hr, fun q => ?_, fun k q => ?_⟩
  · cases d with
    | list ds => obtain ⟨l', _, _, e', hR, _⟩ := rd; rw [e] at e'; cases e'; rw [(O l q).2.1] at hR; cases hR
    | loc j => obtain ⟨l', hl, e'⟩ := rd; rw [e] at e'; cases e'; exact (O l q).2.2 j hl
    | _ => simp [lstD] at hx'
  · cases d with
    | list ds => obtain ⟨l', _, _, e', hR, _⟩ := rd; rw [e] at e'; cases e'; rw [(S.dis k l q).1] at hR; cases hR
    | loc j =>
      obtain ⟨l', hl, e'⟩ := rd
      rw [e] at e'; cases e'
      have := S.inj k j l q hl
      subst this
      simp [pinOf]
    | _ => simp [lstD] at hx'
/-- what a sequence's own object must satisfy -/
theorem seq_fp (S : Sim h₀ W s) (O : OwnOK own s0 W) {d : D} {xs : List D} {v : Value} (rd : Rep W.R W.ρ d v) (hx : seqD W.st d = some xs) :
    ∃ l vs b, v = .ref l ∧ IsS b s.heap l vs.toArray ∧ RepAll W.R W.ρ xs vs ∧ ¬ own l ∧ ∀ n, W.ρ n = some l → pinOf d n = true := by
  rcases seqD_cases hx with rfl | hx'
  · obtain ⟨l, vs, n, e, hR, hr⟩ := id rd
    have hg := S.frz _ _ hR
    refine ⟨l, vs, true, e, ⟨_, hg, rfl, n, rfl⟩, hr, fun q => ?_, fun k q => ?_⟩
    · rw [(O l q).2.1] at hR; cases hR
    · rw [(S.dis k l q).1] at hR; cases hR
  · obtain ⟨l, vs, h⟩ := lst_fp S O rd hx'
    exact ⟨l, vs, false, h⟩

theorem pin_dom {d : D} {v : Value} (rd : Rep W.R W.ρ d v) (n : Nat) (h : pinOf d n = true) : ∃ a, W.ρ n = some a := by
  cases d with
  | loc j => obtain ⟨a, ha, _⟩ := rd; simp only [pinOf, beq_iff_eq] at h; subst h; exact ⟨a, ha⟩
  | _ => simp [pinOf] at h

theorem iter_seq {k : Nat} {target : Expr} {d : D} {xs : List D} {v : Value} (a1 : AOk k A) (S : Sim h₀ W s) (x : Step noOwn s0 W0 s W) (O : OwnOK own s0 W) (rd : Rep W.R W.ρ d v) (hx : seqD W.st d = some xs) :
    OK prog w A h₀ noOwn (pyIter v) W s (fun it W' s' => W' = W ∧ IterOK prog w A target own it xs (pinOf d) s0 s' W) := by
  obtain ⟨l, vs, b, rfl, hS, hr, hno, hpin⟩ := seq_fp S O rd hx
  refine pyIter_S hS ?_
  obtain ⟨st, sm⟩ := S.grow (own := noOwn) (tk := s.toks) (h' := s.heap.push (itO b l)) (fun c o e => Heap.get?_push_of_some _ e)
  refine ⟨W, st, sm, rfl, ⟨s.heap.objs.size, [s.heap.objs.size, l], [s.heap.objs.size], fun i v _ _ => vs.toArray[i]? = some v, fun i h => IsIt b h s.heap.objs.size l i ∧ IsS b h l vs.toArray, rfl, ?_, ⟨IsIt.new b (Heap.get?_push_size _ rfl), hS.at fun o e => Heap.get?_push_of_some _ e⟩, ?_, ?_, ?_, ?_⟩, pin_dom rd⟩
  · have hne : l ≠ s.heap.objs.size := by obtain ⟨o, e⟩ := hS.alive; exact Nat.ne_of_lt (Heap.lt_size e)
    have := Turn.seq (prog := prog) (w := w) a1.hn b target s.heap.objs.size l hne vs.toArray
    have e : vs.toArray.size = xs.length := by rw [List.size_toArray, hr.length]
    rw [e] at this
    exact this
  · intro i u h h' hv
    obtain ⟨d', h1, h2⟩ := hr.get' i u (by simpa using hv)
    exact ⟨d', h1, .inl h2⟩
  · intro c hc
    simp at hc; subst hc
    have f := fresh_of (own := own) S x O (get_size s.heap)
    exact ⟨f.dead0, f.R, f.ρ⟩
  · intro c hc; simp at hc; simp [hc]
  · intro c hc
    simp at hc
    rcases hc with rfl | rfl
    · have f := fresh_of (own := own) S x O (get_size s.heap)
      exact ⟨⟨_, Heap.get?_push_size _ rfl⟩, f.own, fun n q => absurd q (f.ρ n)⟩
    · obtain ⟨o, e⟩ := hS.alive
      exact ⟨⟨o, Heap.get?_push_of_some _ e⟩, hno, hpin⟩

theorem zip_reps {xs ys : List D} {us vs : List Value} (hr1 : RepAll W.R W.ρ xs us) (hr2 : RepAll W.R W.ρ ys vs) {i : Nat} {a b : Value} (h1 : us[i]? = some a) (h2 : vs[i]? = some b) :
    ∃ d, (zipL xs ys)[i]? = some d ∧ ∃ ds, d = .tup ds ∧ RepAll W.R W.ρ ds [a, b] := by
  obtain ⟨d1, e1, r1⟩ := hr1.get' i a h1
  obtain ⟨d2, e2, r2⟩ := hr2.get' i b h2
  refine ⟨.tup [d1, d2], ?_, [d1, d2], rfl, a, [b], rfl, r1, b, [], rfl, r2, rfl⟩
  have : (xs.zip ys)[i]? = some (d1, d2) := List.getElem?_zip_eq_some.mpr ⟨e1, e2⟩
  simp only [zipL, List.getElem?_map, this, Option.map_some]

theorem iter_zip {k : Nat} {target : Expr} {d1 d2 : D} {xs ys : List D} {v1 v2 : Value} (a1 : AOk k A) (S : Sim h₀ W s) (x : Step noOwn s0 W0 s W) (O : OwnOK own s0 W) (ht : isTupE target = true)
    (r1 : Rep W.R W.ρ d1 v1) (hx : seqD W.st d1 = some xs) (r2 : Rep W.R W.ρ d2 v2) (hy : seqD W.st d2 = some ys) :
    OK prog w A h₀ noOwn (call (.type "zip") [v1, v2]) W s (fun z W' s' => W' = W ∧ OK prog w A h₀ noOwn (pyIter z) W s' (fun it W'' s'' => W'' = W ∧ IterOK prog w A target own it (zipL xs ys) (fun n => pinOf d1 n || pinOf d2 n) s0 s'' W)) := by
  obtain ⟨elts, kk, pos, rfl⟩ : ∃ elts kk pos, target = .Tuple elts kk pos := by
    cases target with
    | Tuple a b c => exact ⟨a, b, c, rfl⟩
    | _ => cases ht
  obtain ⟨l1, us, b1, rfl, hS1, hr1, hno1, hpin1⟩ := seq_fp S O r1 hx
  obtain ⟨l2, vs, b2, rfl, hS2, hr2, hno2, hpin2⟩ := seq_fp S O r2 hy
  refine call_zip hS1 hS2 fun h' hz hTI hTO hi1 hi2 hk => ?_
  obtain ⟨st, sm⟩ := S.grow (own := noOwn) (tk := s.toks) hk
  refine ⟨W, st, sm, rfl, ?_⟩
  refine wpAny_pyIter_zip hz ⟨W, Step.refl _ _, sm, rfl, ?_⟩
  have lt1 : l1 < s.heap.objs.size := by obtain ⟨o, e⟩ := hS1.alive; exact Heap.lt_size e
  have lt2 : l2 < s.heap.objs.size := by obtain ⟨o, e⟩ := hS2.alive; exact Heap.lt_size e
  have fr : ∀ j, Fresh own s0 W (s.heap.objs.size + j) := fun j => fresh_of S x O (dead_ge (Nat.le_add_right _ _))
  have fr0 : Fresh own s0 W s.heap.objs.size := fr 0
  have D : ZipApart (s.heap.objs.size + 4) (s.heap.objs.size + 2) (s.heap.objs.size + 3) s.heap.objs.size (s.heap.objs.size + 1) l1 l2 := PySem.W.ktu_apart _ _ _ lt1 lt2
  have hl : min us.toArray.size vs.toArray.size = (zipL xs ys).length := by simp [zipL, hr1.length, hr2.length]
  have TZ := Turn.zip (prog := prog) (w := w) a1.hn b1 b2 elts kk pos _ _ _ _ _ l1 l2 D us.toArray vs.toArray
  rw [hl] at TZ
  refine ⟨⟨_, _, _, _, _, rfl, TZ, ⟨hz, hTI, ⟨_, _, hTO⟩, hi1, hi2, hS1.at fun o e => hk _ o e, hS2.at fun o e => hk _ o e⟩, ?_, ?_, ?_, ?_⟩, fun n q => by
    rcases Bool.or_eq_true_iff.mp q with q | q
    · exact pin_dom r1 n q
    · exact pin_dom r2 n q⟩
  · rintro i u h h2 ⟨T, a, b, rfl, hd, ha, hb, hg⟩
    obtain ⟨d, e, ds, rfl, hr⟩ := zip_reps hr1 hr2 (i := i) (by simpa using ha) (by simpa using hb)
    exact ⟨_, e, .inr ⟨T, [a, b], ds, rfl, rfl, hd, hg, hr⟩⟩
  · intro c hc
    simp at hc
    rcases hc with rfl | rfl | rfl | rfl
    · exact ⟨(fr 4).dead0, (fr 4).R, (fr 4).ρ⟩
    · exact ⟨(fr 3).dead0, (fr 3).R, (fr 3).ρ⟩
    · exact ⟨fr0.dead0, fr0.R, fr0.ρ⟩
    · exact ⟨(fr 1).dead0, (fr 1).R, (fr 1).ρ⟩
  · intro c hc; simp at hc; rcases hc with rfl | rfl | rfl | rfl <;> simp
  · intro c hc
    simp at hc
    rcases hc with rfl | rfl | rfl | rfl | rfl | rfl | rfl
    · exact ⟨⟨_, hz⟩, (fr 4).own, fun n q => absurd q ((fr 4).ρ n)⟩
    · exact ⟨⟨_, hTI⟩, (fr 2).own, fun n q => absurd q ((fr 2).ρ n)⟩
    · exact ⟨⟨_, hTO⟩, (fr 3).own, fun n q => absurd q ((fr 3).ρ n)⟩
    · exact ⟨hi1.alive, fr0.own, fun n q => absurd q (fr0.ρ n)⟩
    · exact ⟨hi2.alive, (fr 1).own, fun n q => absurd q ((fr 1).ρ n)⟩
    · obtain ⟨o, e⟩ := hS1.alive
      exact ⟨⟨o, hk _ _ e⟩, hno1, fun n q => by rw [hpin1 n q]; rfl⟩
    · obtain ⟨o, e⟩ := hS2.alive
      exact ⟨⟨o, hk _ _ e⟩, hno2, fun n q => by rw [hpin2 n q]; simp⟩

theorem enum_reps {xs : List D} {us : List Value} (hr1 : RepAll W.R W.ρ xs us) {i : Nat} {tk : Tok} {b : Value} (h1 : us[i]? = some b) :
    ∃ d, (enumL xs)[i]? = some d ∧ ∃ ds, d = .tup ds ∧ RepAll W.R W.ρ ds [.int (i : Nat) tk, b] := by
  obtain ⟨d1, e1, r1⟩ := hr1.get' i b h1
  refine ⟨.tup [.int (i : Nat), d1], ?_, [.int (i : Nat), d1], rfl, _, [b], rfl, ⟨tk, rfl⟩, b, [], rfl, r1, rfl⟩
  simp only [enumL, List.getElem?_map, List.getElem?_zipIdx, e1, Option.map_some, Nat.zero_add]

theorem iter_enum {k : Nat} {target : Expr} {d1 : D} {xs : List D} {v1 : Value} (a1 : AOk k A) (S : Sim h₀ W s) (x : Step noOwn s0 W0 s W) (O : OwnOK own s0 W) (ht : isTupE target = true)
    (r1 : Rep W.R W.ρ d1 v1) (hx : lstD W.st d1 = some xs) :
    OK prog w A h₀ noOwn (call (.type "enumerate") [v1]) W s (fun z W' s' => W' = W ∧ OK prog w A h₀ noOwn (pyIter z) W s' (fun it W'' s'' => W'' = W ∧ IterOK prog w A target own it (enumL xs) (pinOf d1) s0 s'' W)) := by
  obtain ⟨elts, kk, pos, rfl⟩ : ∃ elts kk pos, target = .Tuple elts kk pos := by
    cases target with
    | Tuple a b c => exact ⟨a, b, c, rfl⟩
    | _ => cases ht
  obtain ⟨l1, us, rfl, hS1, hr1, hno1, hpin1⟩ := lst_fp S O r1 hx
  obtain ⟨ol, hol, hol'⟩ := id hS1
  refine call_enumerate_list hS1 fun h' he hit hsz hk => ?_
  obtain ⟨st, sm⟩ := S.grow (own := noOwn) (tk := s.toks) hk
  refine ⟨W, st, sm, rfl, ?_⟩
  refine wpAny_pyIter_enum he ⟨W, Step.refl _ _, sm, rfl, ?_⟩
  have lt1 : l1 < s.heap.objs.size := Heap.lt_size hol
  have fr : ∀ j, Fresh own s0 W (s.heap.objs.size + j) := fun j => fresh_of S x O (dead_ge (Nat.le_add_right _ _))
  have fr0 : Fresh own s0 W s.heap.objs.size := fr 0
  have hl : us.toArray.size = (enumL xs).length := by simp [enumL, hr1.length]
  have TE := Turn.enum (prog := prog) (w := w) a1.hn elts kk pos (s.heap.objs.size + 1) s.heap.objs.size l1 (Nat.succ_ne_self _) (Nat.ne_of_lt (Nat.lt_succ_of_lt lt1)) (Nat.ne_of_lt lt1) us.toArray
  rw [hl] at TE
  refine ⟨⟨_, _, _, _, _, rfl, TE, ⟨⟨_, he⟩, hit, ⟨ol, hk _ _ hol, hol'⟩⟩, ?_, ?_, ?_, ?_⟩, pin_dom r1⟩
  · rintro i u h h2 ⟨T, a, tk, rfl, hd, ha, hg⟩
    obtain ⟨d, e, ds, rfl, hr⟩ := enum_reps (tk := tk) hr1 (i := i) (by simpa using ha)
    exact ⟨_, e, .inr ⟨T, _, ds, rfl, rfl, hd, hg, hr⟩⟩
  · intro c hc
    simp at hc
    rcases hc with rfl | rfl
    · exact ⟨(fr 1).dead0, (fr 1).R, (fr 1).ρ⟩
    · exact ⟨fr0.dead0, fr0.R, fr0.ρ⟩
  · intro c hc; simp at hc; rcases hc with rfl | rfl <;> simp
  · intro c hc
    simp at hc
    rcases hc with rfl | rfl | rfl
    · exact ⟨⟨_, he⟩, (fr 1).own, fun n q => absurd q ((fr 1).ρ n)⟩
    · obtain ⟨oi, hi, _⟩ := hit
      exact ⟨⟨_, hi⟩, fr0.own, fun n q => absurd q (fr0.ρ n)⟩
    · exact ⟨⟨_, hk _ _ hol⟩, hno1, hpin1⟩

theorem range_len (a b : Int) : (rangeL a b).length = (b - a).toNat := by simp [rangeL]
theorem range_get {a b : Int} {i : Nat} (h : i < (b - a).toNat) : (rangeL a b)[i]? = some (.int (a + i)) := by
  simp [rangeL, h]

theorem iter_range {k : Nat} {target : Expr} {a b : Int} {r : Addr} {t u v : Tok} (a1 : AOk k A) (S : Sim h₀ W s) (x : Step noOwn s0 W0 s W) (O : OwnOK own s0 W) (ha : a ≤ lim) (ha' : -lim ≤ a) (hb : b ≤ lim) (hb' : -lim ≤ b)
    (hr : IsRange s.heap r a b 1 t u v) :
    OK prog w A h₀ noOwn (pyIter (.ref r)) W s (fun it W' s' => W' = W ∧ IterOK prog w A target own it (rangeL a b) (fun _ => false) s0 s' W) := by
  have ha1 : a ≤ 1000000 := ha
  have ha2 : -1000000 ≤ a := ha'
  have hb1 : b ≤ 1000000 := hb
  have hb2 : -1000000 ≤ b := hb'
  have hsz : Builtin.Range.rangeSize a b 1 = ((b - a).toNat : Int) := by
    unfold Builtin.Range.rangeSize
    simp
    omega
  refine wpAny_pyIter_range hr ?_ ?_
  · have f1 : ∀ z : Int, -3000000 ≤ z → z ≤ 3000000 → Builtin.Range.rangeFitsLong z = true := fun z q1 q2 => by
      unfold Builtin.Range.rangeFitsLong
      rw [Bool.and_eq_true]
      exact ⟨decide_eq_true (by omega), decide_eq_true (by omega)⟩
    unfold Builtin.Range.small
    simp only [hsz]
    rw [f1 a (by omega) (by omega), f1 b (by omega) (by omega), f1 1 (by omega) (by omega), f1 _ (by omega) (by omega)]
    simp [f1 (b + (1 - 1)) (by omega) (by omega), f1 b (by omega) (by omega)]
  · obtain ⟨st, sm⟩ := S.grow (own := noOwn) (tk := s.toks) (h' := s.heap.push { cls := .type "range_iterator", data := .fields #[rawInt a, rawInt (Builtin.Range.rangeSize a b 1), rawInt 1] }) (fun c o e => Heap.get?_push_of_some _ e)
    have TR := Turn.range (prog := prog) (w := w) a1.hn target s.heap.objs.size a (b - a).toNat
    rw [← range_len] at TR
    have f := fresh_of (own := own) S x O (get_size s.heap)
    refine ⟨W, st, sm, rfl, ⟨_, _, _, _, _, rfl, TR, ?_, ?_, ?_, ?_, ?_⟩, fun n q => by cases q⟩
    · have := Heap.get?_push_size s.heap (o := { cls := .type "range_iterator", data := .fields #[rawInt a, rawInt (Builtin.Range.rangeSize a b 1), rawInt 1] }) rfl
      rw [range_len]
      show IsRangeIter _ _ _ _ _
      rw [hsz] at this
      rw [hsz]
      simpa using this
    · rintro i z h h' ⟨hi, tt, rfl⟩
      rw [range_len] at hi
      exact ⟨_, range_get hi, .inl ⟨tt, rfl⟩⟩
    · intro c hc; simp at hc; subst hc; exact ⟨f.dead0, f.R, f.ρ⟩
    · intro c hc; exact hc
    · intro c hc; simp at hc; subst hc
      exact ⟨⟨_, Heap.get?_push_size _ rfl⟩, f.own, fun n q => absurd q (f.ρ n)⟩
end
end Mine
end

section
set_option autoImplicit false
set_option linter.unusedVariables false
namespace Mine
open PySem

noncomputable def FlRep (W : Wd) : Fl → Flow → Prop
  | .next, f => f = .next
  | .brk, f => f = .brk
  | .cont, f => f = .cont
  | .ret d, f => ∃ v, f = .ret v ∧ Rep W.R W.ρ d v
noncomputable def FP (own : Addr → Prop) (env : Env) (kd : Kd) (K : Fl → Loc → St → Prop) : Flow → Wd → Shared → Prop :=
  fun f W s => ∃ fl m, FlRep W fl f ∧ Fram own env kd m W s ∧ K fl m W.st

theorem Fram.heap {own : Addr → Prop} {env : Env} {kd : Kd} {m : Loc} {W : Wd} {s : Shared} (F : Fram own env kd m W s) {h' : Heap} {tk : Nat} (hl : ∀ o, s.heap.get? env.locals = some o → h'.get? env.locals = some o)
    (hc : ∀ y c o, env.cells.lookup y = some c → s.heap.get? c = some o → h'.get? c = some o) : Fram own env kd m W { s with heap := h', toks := tk } := by
  refine ⟨F.fn, F.gl, F.bi, F.kE, F.dbg, fun y d e => ?_, ?_, fun y c q => ?_, F.ci, F.lo, F.co, F.kF⟩
  · obtain ⟨h1, v, h2, h3⟩ := F.nm y d e
    exact ⟨h1, v, h2.at hl (fun c o q e => hc y c o q e), h3⟩
  · obtain ⟨mv, o, es, ep, ho, r⟩ := F.ns
    exact ⟨mv, o, es, ep, hl o ho, r⟩
  · obtain ⟨⟨v, o', e', r'⟩, h2⟩ := F.cl y c q
    exact ⟨⟨v, o', hc y c o' q e', r'⟩, h2⟩

structure LInv (h₀ : Heap) (own : Addr → Prop) (s0 : Shared) (W0 : Wd) (s : Shared) (W : Wd) (p : Nat → Bool) (fp wr : List Addr) (St : Nat → Heap → Prop) (i : Nat) (W' : Wd) (s' : Shared) : Prop where
  st : Step own s0 W0 s' W'
  sm : Sim h₀ W' s'
  inv : St i s'.heap
  mR : ∀ a o, W.R a = some o → W'.R a = some o
  mρ : ∀ n a, W.ρ n = some a → W'.ρ n = some a
  wrF : ∀ b ∈ wr, s0.heap.get? b = none ∧ W'.R b = none ∧ ∀ n, W'.ρ n ≠ some b
  fpF : ∀ b ∈ fp, (∃ o, s'.heap.get? b = some o) ∧ ¬ own b ∧ ∀ n, W'.ρ n = some b → p n = true
  sub : ∀ b ∈ wr, b ∈ fp
  hid : ∀ n, p n = true → n < W'.st.hi ∧ W'.st.cs n = none
  kp : ∀ n a o, p n = true → W.ρ n = some a → s.heap.get? a = some o → s'.heap.get? a = some o
  po : ∀ n a, p n = true → W.ρ n = some a → ¬ own a

section
variable {h₀ : Heap} {own : Addr → Prop} {s0 s s' : Shared} {W0 W W' : Wd} {p : Nat → Bool} {fp wr : List Addr} {St : Nat → Heap → Prop} {i : Nat}

theorem LInv.start (S : Sim h₀ W s) (x : Step own s0 W0 s W) (hst : St 0 s.heap) (hwr : ∀ b ∈ wr, s0.heap.get? b = none ∧ W.R b = none ∧ ∀ n, W.ρ n ≠ some b)
    (hsub : ∀ b ∈ wr, b ∈ fp) (hfp : ∀ b ∈ fp, (∃ o, s.heap.get? b = some o) ∧ ¬ own b ∧ ∀ n, W.ρ n = some b → p n = true) (hpd : ∀ n, p n = true → ∃ a, W.ρ n = some a) (hpo : ∀ n a, p n = true → W.ρ n = some a → ¬ own a) :
    LInv h₀ own s0 W0 s W p fp wr St 0 { W with st := W.st.hide p } s where
  st := ⟨x.rest, x.keep, x.live, x.extR, x.rho, x.new, x.hi, fun n hn e => by
    show (if p n then none else W.st.cs n) = none
    split
    · rfl
    · exact x.hid n hn e⟩
  sm := S.hide p
  inv := hst
  mR := fun _ _ e => e
  mρ := fun _ _ e => e
  wrF := hwr
  fpF := hfp
  sub := hsub
  hid := fun n q => ⟨let ⟨a, ha⟩ := hpd n q; S.dom n a ha, by show (if p n then none else W.st.cs n) = none; rw [q]; rfl⟩
  kp := fun _ _ _ _ _ e => e
  po := hpo

/-- the iterator moves -/
theorem LInv.next (L : LInv h₀ own s0 W0 s W p fp wr St i W' s') {h' : Heap} {tk j : Nat} (hst : St j h') (hk : ∀ b o, b ∉ wr → s'.heap.get? b = some o → h'.get? b = some o)
    (hal : ∀ b ∈ fp, ∃ o, h'.get? b = some o) : LInv h₀ own s0 W0 s W p fp wr St j W' { s' with heap := h', toks := tk } := by
  have nw : ∀ b o, s0.heap.get? b = some o → b ∉ wr := fun b o e q => by rw [(L.wrF b q).1] at e; cases e
  have nR : ∀ b o, W'.R b = some o → b ∉ wr := fun b o e q => by rw [(L.wrF b q).2.1] at e; cases e
  have nρ : ∀ n b, W'.ρ n = some b → b ∉ wr := fun n b e q => (L.wrF b q).2.2 n e
  refine ⟨⟨L.st.rest, fun b o e hm ho => hk b o (nw b o e) (L.st.keep b o e hm ho), fun b o e => ?_, L.st.extR, L.st.rho, L.st.new, L.st.hi, L.st.hid⟩, ⟨L.sm.base, fun b o e => hk b o (nR b o e) (L.sm.frz b o e), fun n c e => ?_, fun n a e => ?_, L.sm.inj, L.sm.dom⟩, hst, L.mR, L.mρ, L.wrF, fun b q => ⟨hal b q, (L.fpF b q).2⟩, L.sub, L.hid, fun n a o q e1 e2 => hk a o (nρ n a (L.mρ n a e1)) (L.kp n a o q e1 e2), L.po⟩
  · obtain ⟨o', e'⟩ := L.st.live b o e
    exact ⟨o', hk b o' (nw b o e) e'⟩
  · obtain ⟨a, ha, hc⟩ := L.sm.cel n c e
    refine ⟨a, ha, ?_⟩
    cases c with
    | list ds => obtain ⟨vs, k, hg, hr⟩ := hc; exact ⟨vs, k, hk _ _ (nρ n a ha) hg, hr⟩
    | dict es => exact hc
  · obtain ⟨h1, o, h2⟩ := L.sm.dis n a e
    exact ⟨h1, o, hk a o (nρ n a e) h2⟩

/-- the iterator is done -/
theorem LInv.last (L : LInv h₀ own s0 W0 s W p fp wr St i W' s') {h' : Heap} {tk : Nat} (hk : ∀ b o, b ∉ wr → s'.heap.get? b = some o → h'.get? b = some o) :
    LInv h₀ own s0 W0 s W p [] [] (fun _ _ => True) 0 W' { s' with heap := h', toks := tk } := by
  have nw : ∀ b o, s0.heap.get? b = some o → b ∉ wr := fun b o e q => by rw [(L.wrF b q).1] at e; cases e
  have nR : ∀ b o, W'.R b = some o → b ∉ wr := fun b o e q => by rw [(L.wrF b q).2.1] at e; cases e
  have nρ : ∀ n b, W'.ρ n = some b → b ∉ wr := fun n b e q => (L.wrF b q).2.2 n e
  refine ⟨⟨L.st.rest, fun b o e hm ho => hk b o (nw b o e) (L.st.keep b o e hm ho), fun b o e => ?_, L.st.extR, L.st.rho, L.st.new, L.st.hi, L.st.hid⟩, ⟨L.sm.base, fun b o e => hk b o (nR b o e) (L.sm.frz b o e), fun n c e => ?_, fun n a e => ?_, L.sm.inj, L.sm.dom⟩, trivial, L.mR, L.mρ, (fun b q => nomatch q), (fun b q => nomatch q), (fun b q => nomatch q), L.hid, fun n a o q e1 e2 => hk a o (nρ n a (L.mρ n a e1)) (L.kp n a o q e1 e2), L.po⟩
  · obtain ⟨o', e'⟩ := L.st.live b o e
    exact ⟨o', hk b o' (nw b o e) e'⟩
  · obtain ⟨a, ha, hc⟩ := L.sm.cel n c e
    refine ⟨a, ha, ?_⟩
    cases c with
    | list ds => obtain ⟨vs, k, hg, hr⟩ := hc; exact ⟨vs, k, hk _ _ (nρ n a ha) hg, hr⟩
    | dict es => exact hc
  · obtain ⟨h1, o, h2⟩ := L.sm.dis n a e
    exact ⟨h1, o, hk a o (nρ n a e) h2⟩

/-- a fresh object is frozen -/
theorem LInv.freeze (L : LInv h₀ own s0 W0 s W p fp wr St i W' s') {T : Addr} {o : Obj} (hg : s'.heap.get? T = some o) (h0 : s0.heap.get? T = none) (hR : W'.R T = none) (hρ : ∀ n, W'.ρ n ≠ some T) (hw : T ∉ wr) :
    LInv h₀ own s0 W0 s W p fp wr St i { W' with R := fun b => if b = T then some o else W'.R b } s' := by
  have mono : ∀ b o', W'.R b = some o' → (if b = T then some o else W'.R b) = some o' := fun b o' e => by
    rw [if_neg (fun q => by subst q; rw [hR] at e; cases e)]; exact e
  refine ⟨⟨L.st.rest, L.st.keep, L.st.live, fun b o' e => ?_, L.st.rho, L.st.new, L.st.hi, L.st.hid⟩, ⟨fun b o' e => mono b o' (L.sm.base b o' e), fun b o' e => ?_, fun n c e => ?_, fun n a e => ?_, L.sm.inj, L.sm.dom⟩, L.inv, fun a o' e => mono a o' (L.mR a o' e), L.mρ, fun b q => ⟨(L.wrF b q).1, ?_, (L.wrF b q).2.2⟩, L.fpF, L.sub, L.hid, L.kp, L.po⟩
  · show (if b = T then some o else W'.R b) = W0.R b
    rw [if_neg (fun q => by subst q; rw [h0] at e; cases e)]; exact L.st.extR b o' e
  · have e1 : (if b = T then some o else W'.R b) = some o' := e
    by_cases q : b = T
    · rw [if_pos q] at e1; cases e1; subst q; exact hg
    · rw [if_neg q] at e1; exact L.sm.frz b o' e1
  · obtain ⟨a, ha, hc⟩ := L.sm.cel n c e
    refine ⟨a, ha, ?_⟩
    cases c with
    | list ds => obtain ⟨vs, k, hg', hr⟩ := hc; exact ⟨vs, k, hg', RepAll.mono mono (fun _ _ e => e) ds vs hr⟩
    | dict es => exact hc
  · obtain ⟨h1, h2⟩ := L.sm.dis n a e
    refine ⟨?_, h2⟩
    show (if a = T then some o else W'.R a) = none
    rw [if_neg (fun q => hρ n (by rw [← q]; exact e))]; exact h1
  · show (if b = T then some o else W'.R b) = none
    rw [if_neg (fun r => hw (by rw [← r]; exact q))]; exact (L.wrF b q).2.1

/-- a piece of code runs -/
theorem LInv.go {W2 : Wd} {s2 : Shared} (S0 : Sim h₀ W0 s0) (L : LInv h₀ own s0 W0 s W p fp wr St i W' s') (hf : ∀ j h h', St j h → (∀ b ∈ fp, ∀ o, h.get? b = some o → h'.get? b = some o) → St j h') (x : Step own s' W' s2 W2) (S2 : Sim h₀ W2 s2) :
    LInv h₀ own s0 W0 s W p fp wr St i W2 s2 := by
  have kf : ∀ b ∈ fp, ∀ o, s'.heap.get? b = some o → s2.heap.get? b = some o := fun b q o e => x.keep b o e (fun n hn => (L.hid n ((L.fpF b q).2.2 n hn)).2) (L.fpF b q).2.1
  have newF : ∀ b o, s'.heap.get? b = some o → ∀ n, W2.ρ n = some b → W'.ρ n = some b := fun b o e n q => by
    rcases x.new n b q with h | h
    · exact h
    · rw [h] at e; cases e
  refine ⟨L.st.trans S0 x, S2, hf i _ _ L.inv kf, fun a o e => x.repR L.sm a o (L.mR a o e), fun n a e => x.rho n a (L.mρ n a e), fun b q => ?_, fun b q => ?_, L.sub, fun n q => ⟨Nat.lt_of_lt_of_le (L.hid n q).1 x.hi, x.hid n (L.hid n q).1 (L.hid n q).2⟩, fun n a o q e1 e2 => ?_, L.po⟩
  · obtain ⟨o, e⟩ := (L.fpF b (L.sub b q)).1
    exact ⟨(L.wrF b q).1, by rw [x.extR b o e]; exact (L.wrF b q).2.1, fun n r => (L.wrF b q).2.2 n (newF b o e n r)⟩
  · obtain ⟨o, e⟩ := (L.fpF b q).1
    exact ⟨⟨o, kf b q o e⟩, (L.fpF b q).2.1, fun n r => (L.fpF b q).2.2 n (newF b o e n r)⟩
  · have e3 := L.kp n a o q e1 e2
    refine x.keep a o e3 (fun k hk => ?_) (L.po n a q e1)
    have := L.sm.inj k n a hk (L.mρ n a e1)
    subst this
    exact (L.hid k q).2

/-- the loop is over: the pinned cells are looked at again -/
theorem LInv.stop (S : Sim h₀ W s) (x : Step own s0 W0 s W) (L : LInv h₀ own s0 W0 s W p fp wr St i W' s') :
    Step own s0 W0 s' { W' with st := W'.st.back W.st p } ∧ Sim h₀ { W' with st := W'.st.back W.st p } s' := by
  refine ⟨⟨L.st.rest, L.st.keep, L.st.live, L.st.extR, L.st.rho, L.st.new, L.st.hi, fun n hn e => ?_⟩, ⟨L.sm.base, L.sm.frz, fun n c e => ?_, L.sm.dis, L.sm.inj, L.sm.dom⟩⟩
  · show (if p n then W.st.cs n else W'.st.cs n) = none
    split
    · exact x.hid n hn e
    · exact L.st.hid n hn e
  · have e' : (if p n then W.st.cs n else W'.st.cs n) = some c := e
    split at e'
    · rename_i q
      obtain ⟨a, ha, hc⟩ := S.cel n c e'
      refine ⟨a, L.mρ n a ha, ?_⟩
      cases c with
      | list ds => obtain ⟨vs, k, hg, hr⟩ := hc; exact ⟨vs, k, L.kp n a _ q ha hg, RepAll.mono L.mR L.mρ ds vs hr⟩
      | dict es => exact hc
    · exact L.sm.cel n c e'

/-- one turn: the iterator moves, and yields d -/
theorem LInv.turn {target : Expr} {prog : Program} {w : World} {A : Around} {I : Addr} {n : Nat} {V : Nat → Value → Heap → Heap → Prop} (T : Turn prog w A target I fp wr n V St)
    (L : LInv h₀ own s0 W0 s W p fp wr St i W' s') {h' : Heap} {tk : Nat} {v : Value} {d : D} (hst : St (i + 1) h') (hk : ∀ b o, b ∉ wr → s'.heap.get? b = some o → h'.get? b = some o)
    (hd : Rep W.R W.ρ d v ∨ ∃ T vs ds, d = .tup ds ∧ v = .ref T ∧ s'.heap.get? T = none ∧ h'.get? T = some (tupO vs 0) ∧ RepAll W.R W.ρ ds vs) :
    ∃ W'', LInv h₀ own s0 W0 s W p fp wr St (i + 1) W'' { s' with heap := h', toks := tk } ∧ Rep W''.R W''.ρ d v ∧ W''.st = W'.st ∧ Step (fun b => b ∈ wr) s' W' { s' with heap := h', toks := tk } W'' := by
  have L1 := L.next (tk := tk) hst hk (T.alive _ _ hst)
  have lv : ∀ b o, s'.heap.get? b = some o → ∃ o', h'.get? b = some o' := fun b o e => by
    by_cases q : b ∈ wr
    · exact T.alive _ _ hst b (L.sub b q)
    · exact ⟨o, hk b o q e⟩
  rcases hd with hd | ⟨T', vs, ds, rfl, rfl, hdead, hg, hr⟩
  · exact ⟨W', L1, Rep.mono L.mR L.mρ d v hd, rfl, ⟨rfl, rfl, rfl⟩, fun b o e _ q => hk b o q e, lv, fun _ _ _ => rfl, fun _ _ e => e, fun _ _ e => .inl e, Nat.le_refl _, fun _ _ e => e⟩
  · have h0 : s0.heap.get? T' = none := by
      cases q : s0.heap.get? T' with
      | none => rfl
      | some o => obtain ⟨o', e⟩ := L.st.live T' o q; rw [hdead] at e; cases e
    have hR : W'.R T' = none := by
      cases q : W'.R T' with
      | none => rfl
      | some o => have := L.sm.frz T' o q; rw [hdead] at this; cases this
    have hρ : ∀ n, W'.ρ n ≠ some T' := fun n q => by obtain ⟨_, o, e⟩ := L.sm.dis n T' q; rw [hdead] at e; cases e
    have hw : T' ∉ wr := fun q => by obtain ⟨o, e⟩ := (L.fpF T' (L.sub T' q)).1; rw [hdead] at e; cases e
    have mono : ∀ b o', W'.R b = some o' → (if b = T' then some (tupO vs 0) else W'.R b) = some o' := fun b o' e => by
      rw [if_neg (fun q => by subst q; rw [hR] at e; cases e)]; exact e
    refine ⟨_, L1.freeze hg h0 hR hρ hw, ⟨T', vs, 0, rfl, by show (if T' = T' then some (tupO vs 0) else W'.R T') = _; rw [if_pos rfl], RepAll.mono (fun a o e => mono a o (L.mR a o e)) L.mρ ds vs hr⟩, rfl, ⟨rfl, rfl, rfl⟩, fun b o e _ q => hk b o q e, lv, fun b o e => ?_, fun _ _ e => e, fun _ _ e => .inl e, Nat.le_refl _, fun _ _ e => e⟩
    show (if b = T' then some (tupO vs 0) else W'.R b) = W'.R b
    rw [if_neg (fun q => by subst q; rw [hdead] at e; cases e)]
end
end Mine
end

section
set_option autoImplicit false
set_option linter.unusedVariables false
namespace Mine
open PySem

section
variable {prog : Program} {w : World} {A : Around} {h₀ : Heap} {own : Addr → Prop} {env : Env} {kd : Kd} {m : Loc} {W : Wd} {s : Shared}

theorem assignEach_len (env : Env) (es : List Expr) : (assignEach es env).length = es.length := by
  induction es with
  | nil => rfl
  | cons t r ih => cases t <;> simp [assignEach, ih]
theorem tg_len {es : List Expr} {xs : List Str} (h : tgNames es = some xs) : es.length = xs.length := by
  induction es generalizing xs with
  | nil => cases h; rfl
  | cons t r ih =>
    cases t with
    | Name x p =>
      simp only [tgNames, Option.map_eq_some_iff] at h
      obtain ⟨ys, hy, rfl⟩ := h
      simp [ih hy]
    | _ => simp [tgNames] at h
theorem tg_star {es : List Expr} {xs : List Str} (env : Env) (h : tgNames es = some xs) : (assignEach es env).findIdx? (·.1) = none := by
  rw [List.findIdx?_eq_none_iff]
  induction es generalizing xs with
  | nil => intro x hx; simp [assignEach] at hx
  | cons t r ih =>
    cases t with
    | Name x p =>
      simp only [tgNames, Option.map_eq_some_iff] at h
      obtain ⟨ys, hy, rfl⟩ := h
      intro z hz
      simp only [assignEach, List.mem_cons] at hz
      rcases hz with rfl | hz
      · rfl
      · exact ih hy z hz
    | _ => simp [tgNames] at h

theorem updAll_else : ∀ (xs : List Str) (ds : List D) (m : Loc), xs.all (isOwn kd) = true → ∀ x, isOwn kd x = false → updAll m xs ds x = m x
  | [], _, _, _, _, _ => by simp [updAll]
  | _ :: _, [], _, _, _, _ => by simp [updAll]
  | y :: ys, d :: ds, m, h, x, hx => by
    simp only [List.all_cons, Bool.and_eq_true] at h
    rw [updAll, updAll_else ys ds _ h.2 x hx]
    exact if_neg (fun z => by rw [z, h.1] at hx; cases hx)

theorem ok_inOrder : ∀ (es : List Expr) (xs : List Str) (ds : List D) (vs : List Value) (m : Loc) (s : Shared), tgNames es = some xs → xs.all (isOwn kd) = true → ds.length = xs.length → Sim h₀ W s → Fram own env kd m W s → RepAll W.R W.ρ ds vs →
    OK prog w A h₀ own (assignInOrder ((assignEach es env).map (·.2)) vs) W s (fun _ W' s' => W' = W ∧ Fram own env kd (updAll m xs ds) W s') := by
  intro es
  induction es with
  | nil =>
    intro xs ds vs m s h1 h2 h3 S F hr
    cases h1
    exact PyProof.Rows.assignInOrder_nil ⟨W, Step.refl _ _, S, rfl, F⟩
  | cons t r ih =>
    intro xs ds vs m s h1 h2 h3 S F hr
    cases t with
    | Name x p =>
      simp only [tgNames, Option.map_eq_some_iff] at h1
      obtain ⟨ys, hy, rfl⟩ := h1
      cases ds with
      | nil => simp at h3
      | cons d ds =>
        obtain ⟨v, ws, rfl, hd, hr'⟩ := hr
        simp only [List.all_cons, Bool.and_eq_true] at h2
        simp only [List.length_cons, Nat.add_right_cancel_iff] at h3
        refine PyProof.Rows.assignInOrder_cons ?_
        show wpAny _ _ (standAt p >>= fun _ => bindName env x v) _ _ s
        refine wpAny_bind (wpAny_standAt ?_)
        refine OK.nest S (ok_bind_name S F h2.1 hd) fun _ W1 s1 x1 S1 h => ?_
        obtain ⟨rfl, F1⟩ := h
        exact ih ys ds ws _ s1 hy h2.2 h3 S1 F1 hr'
    | _ => simp [tgNames] at h1

theorem ok_target {k : Nat} {t : Expr} {d : D} {v : Value} {K : Loc → Prop} (a1 : AOk k A) (S : Sim h₀ W s) (F : Fram own env kd m W s) (hr : Rep W.R W.ρ d v) (h : wTarget kd t d m K) :
    OK prog w A h₀ own (assign t env v) W s (fun _ W' s' => W' = W ∧ ∃ m', K m' ∧ Fram own env kd m' W s' ∧ ∀ x, isOwn kd x = false → m' x = m x) := by
  cases t with
  | Name x p =>
    show wpAny _ _ (standAt p >>= fun _ => bindName env x v) _ _ s
    refine wpAny_bind (wpAny_standAt ?_)
    exact (ok_bind_name S F h.1 hr).mono fun _ W1 s1 _ _ ⟨e, F1⟩ => ⟨e, _, h.2, F1, fun y q => if_neg (fun z => by rw [z, h.1] at q; cases q)⟩
  | Tuple es kk p =>
    obtain ⟨xs, ds, h1, h2, rfl, h3, hK⟩ := h
    obtain ⟨a, vs, n, rfl, hR, hra⟩ := hr
    have hg := S.frz _ _ hR
    refine PyProof.Rows.assign_Tuple_tuple (items := vs.toArray) a1.hn ⟨_, hg, rfl, n, rfl⟩ ?_ (tg_star env h1) fun h' he => ?_
    · rw [assignEach_len, tg_len h1, List.size_toArray, hra.length, h3]
    · obtain ⟨st, sm⟩ := S.grow (own := own) (tk := s.toks) (h' := h') (fun b o e => he b o (Nat.ne_of_lt (Heap.lt_size e)) e)
      refine OK.after S st ?_
      have F' := F.step0 S (S.grow (own := noOwn) (tk := s.toks) (h' := h') (fun b o e => he b o (Nat.ne_of_lt (Heap.lt_size e)) e)).1
      exact (ok_inOrder es xs ds vs m _ h1 h2 h3 sm F' hra).mono fun _ W1 s1 _ _ ⟨e, F1⟩ => ⟨e, _, hK, F1, updAll_else xs ds m h2⟩
  | _ => exact h.elim

theorem OwnOK.step {own own' : Addr → Prop} {s0 s : Shared} {W0 W : Wd} (O : OwnOK own s0 W0) (x : Step own' s0 W0 s W) : OwnOK own s W := fun b hb => by
  obtain ⟨⟨o, e⟩, h2, h3⟩ := O b hb
  obtain ⟨o', e'⟩ := x.live b o e
  refine ⟨⟨o', e'⟩, (x.extR b o e).trans h2, fun n q => ?_⟩
  rcases x.new n b q with z | z
  · exact h3 n z
  · rw [z] at e; cases e
theorem OwnOK.at {own own' : Addr → Prop} {s0 s : Shared} {W0 W : Wd} (O : OwnOK own s0 W0) (x : Step own' s0 W0 s W) : OwnOK own s0 W := fun b hb => ⟨(O b hb).1, (O.step x b hb).2⟩

/-- what a loop's body does -/
noncomputable def BodyOK (prog : Program) (w : World) (A : Around) (h₀ : Heap) (own : Addr → Prop) (env : Env) (kd : Kd) (t : Expr) (body : List Stmt) (step : D → Loc → St → (Fl → Loc → St → Prop) → Prop) : Prop :=
  ∀ d m W s v K, Sim h₀ W s → Fram own env kd m W s → OwnOK own s W → Rep W.R W.ρ d v → step d m W.st K →
    wpAny (model prog w) A (assign t env v) (fun _ s₂ => wpAny (model prog w) A (execs body env) (Fin' h₀ own s W (FP own env kd K)) E0 s₂) E0 s

theorem wFor_next {step : D → Loc → St → (Fl → Loc → St → Prop) → Prop} {items : List D} {i : Nat} {d : D} {m : Loc} {st : St} {Q : Fl → Loc → St → Prop} (hd : items[i]? = some d) (h : wFor step (items.drop i) m st Q) :
    step d m st fun fl m' st' => match fl with
      | .next => wFor step (items.drop (i + 1)) m' st' Q
      | .cont => wFor step (items.drop (i + 1)) m' st' Q
      | .brk => Q .next m' st'
      | .ret d => Q (.ret d) m' st' := by
  obtain ⟨hi, rfl⟩ := List.getElem?_eq_some_iff.mp hd
  rw [List.drop_eq_getElem_cons hi] at h
  exact h

theorem ok_forLoop {s0 : Shared} {W0 : Wd} {t : Expr} {body : List Stmt} {it : Value} {items : List D} {p : Nat → Bool} {K : Fl → Loc → St → Prop} {step : D → Loc → St → (Fl → Loc → St → Prop) → Prop} {m0 : Loc}
    (S0 : Sim h₀ W0 s0) (F0 : Fram own env kd m0 W0 s0) (x : Step own s0 W0 s W) (S : Sim h₀ W s) (F : Fram own env kd m W s) (I : IterOK prog w A t own it items p s0 s W)
    (O0 : OwnOK own s0 W0)
    (hb : BodyOK prog w A h₀ own env kd t body step)
    (h : wFor step items m (W.st.hide p) fun fl m2 st2 => K fl m2 (st2.back W.st p)) {R : Result → Shared → Prop}
    (hR : ∀ f s', (∃ W', Step own s0 W0 s' W' ∧ Sim h₀ W' s' ∧ FP own env kd K f W' s') → R (.ok f) s') :
    codeAny (model prog w) A (.forLoop t it body [] env) R s := by
  obtain ⟨⟨Ia, fp, wr, V, St, rfl, T, hst, hV, hwr, hsub, hfp⟩, hpd⟩ := I
  have fin : ∀ {fp wr St} i W' s' fl f m', LInv h₀ own s0 W0 s W p fp wr St i W' s' → FlRep W' fl f → Fram own env kd m' W' s' → K fl m' (W'.st.back W.st p) → R (.ok f) s' := fun {fp wr St} i W' s' fl f m' L hf F' hK => by
    obtain ⟨x', S'⟩ := L.stop S x
    refine hR f s' ⟨_, x', S', fl, m', ?_, F'.st _, hK⟩
    cases fl <;> exact hf
  have noWr : ∀ c, (∃ o, s0.heap.get? c = some o) → c ∉ wr := fun c ⟨o, e⟩ q => by rw [(hwr c q).1] at e; cases e
  have hl0 : ∃ o, s0.heap.get? env.locals = some o := by obtain ⟨mv, o, _, _, e, _⟩ := F0.ns; exact ⟨o, e⟩
  have hc0 : ∀ y c, env.cells.lookup y = some c → ∃ o, s0.heap.get? c = some o := fun y c e => by obtain ⟨⟨v, o, e', _⟩, _⟩ := F0.cl y c e; exact ⟨o, e'⟩
  refine codeAny_forLoop_any (fun n s' => ∃ i W' m', n = items.length - i ∧ i ≤ items.length ∧ LInv h₀ own s0 W0 s W p fp wr St i W' s' ∧ Fram own env kd m' W' s' ∧ wFor step (items.drop i) m' W'.st fun fl m2 st2 => K fl m2 (st2.back W.st p)) ?_ items.length
    ⟨0, _, m, rfl, Nat.zero_le _, LInv.start S x hst hwr hsub hfp hpd (fun n a q e z => ((O0.step x) a z).2.2 n e), F.st _, h⟩
  rintro n s' ⟨i, W', m', rfl, hi, L, F', hw⟩
  rcases Nat.lt_or_ge i items.length with hlt | hge
  · refine wpAny_mono (T.item i s' (fun v s2 => wpAny (model prog w) A (assign t env v) (fun _ s₂ => wpAny (model prog w) A (execs body env) (fun f s₃ => match f with
            | .next | .cont => ∃ m, m < items.length - i ∧ ∃ i W' m', m = items.length - i ∧ i ≤ items.length ∧ LInv h₀ own s0 W0 s W p fp wr St i W' s₃ ∧ Fram own env kd m' W' s₃ ∧ wFor step (items.drop i) m' W'.st fun fl m2 st2 => K fl m2 (st2.back W.st p)
            | .brk => R (.ok .next) s₃
            | .ret v => R (.ok (.ret v)) s₃) (notedBy (model prog w) A env fun e s' => R (.error e) s') s₂) (notedBy (model prog w) A env fun e s' => R (.error e) s') s2) _ hlt L.inv fun v h' tk hv hst' hk => ?_) (fun r s1 hr => ?_) fun _ _ e => e
    · obtain ⟨d, hd, hrep⟩ := hV i v _ _ hv
      obtain ⟨W2, L2, hr2, hs2, xs2⟩ := L.turn T (tk := tk) hst' hk hrep
      have F2 := F'.step L.sm xs2 ⟨noWr _ hl0, fun y c e => noWr c (hc0 y c e)⟩
      have hw2 := wFor_next hd hw
      rw [← hs2] at hw2
      have main := hb d m' W2 _ v _ L2.sm F2 (O0.step L2.st) hr2 hw2
      refine wpAny_mono main (fun _ s2 h2 => ?_) fun _ _ e => e.elim
      refine wpAny_mono h2 (fun f s3 hf => ?_) fun _ _ e => e.elim
      obtain ⟨W3, x3, S3, fl, m3, hfl, F3, hK3⟩ := hf
      have L3 := L2.go S0 T.frame x3 S3
      cases fl with
      | next => have e : f = .next := hfl; subst e; exact ⟨items.length - (i + 1), by omega, i + 1, W3, m3, rfl, hlt, L3, F3, hK3⟩
      | cont => have e : f = .cont := hfl; subst e; exact ⟨items.length - (i + 1), by omega, i + 1, W3, m3, rfl, hlt, L3, F3, hK3⟩
      | brk => have e : f = .brk := hfl; subst e; exact fin _ _ _ .next .next m3 L3 rfl F3 hK3
      | ret d' => obtain ⟨u, e, hu⟩ := hfl; subst e; exact fin _ _ _ (.ret d') (.ret u) m3 L3 ⟨u, rfl, hu⟩ F3 hK3
    · cases r with
      | none => exact hr.elim
      | some v => exact hr
  · have e : i = items.length := Nat.le_antisymm hi hge
    subst e
    rw [List.drop_length] at hw
    refine wpAny_mono (T.done s' (fun s1 => wpAny (model prog w) A (execs [] env) (fun f s₃ => R (.ok f) s₃) (notedBy (model prog w) A env fun e s' => R (.error e) s') s1) _ L.inv fun h' tk hk => ?_) (fun r s1 hr => ?_) fun _ _ e => e
    · refine wpAny_execs_nil ?_
      exact fin 0 W' _ .next .next m' (L.last hk) rfl (F'.heap (fun o e => hk _ o (noWr _ hl0) e) fun y c o q e => hk _ o (noWr c (hc0 y c q)) e) hw
    · cases r with
      | none => exact hr
      | some v => exact hr.elim
end
end Mine
end

section
set_option autoImplicit false
set_option linter.unusedVariables false
namespace Mine
open PySem

noncomputable def clo (cells : List (Str × Addr)) : List (Str × NameKind) → List (Str × Addr) → List (Str × Addr)
  | [], acc => acc
  | (x, k) :: r, acc => if k == .free then (match cells.lookup x with
    | some c => clo cells r ((x, c) :: acc)
    | none => clo cells r acc) else clo cells r acc

theorem clo_eq {env : Env} {scope : Scope} (h : ∀ p ∈ scope.names, p.2 = .free → ∃ c, env.cells.lookup p.1 = some c) : closureFor scope env = pure (clo env.cells scope.names []) := by
  have go : ∀ (l : List (Str × NameKind)) (acc : List (Str × Addr)), (∀ p ∈ l, p.2 = .free → ∃ c, env.cells.lookup p.1 = some c) →
      (forIn l acc fun (x : Str × NameKind) (cs : List (Str × Addr)) => (if x.2 == .free then (do let c ← cellOf env x.1; pure (ForInStep.yield ((x.1, c) :: cs))) else pure (ForInStep.yield cs) : Sem _)) = pure (clo env.cells l acc) := by
    intro l
    induction l with
    | nil => intro acc _; rfl
    | cons p r ih =>
      intro acc hp
      obtain ⟨x, k⟩ := p
      rw [List.forIn_cons]
      cases q : k == NameKind.free with
      | true =>
        obtain ⟨c, hc⟩ := hp (x, k) (.head _) (by simpa using q)
        have hc' : List.lookup x env.cells = some c := hc
        simp only [q, if_true, clo, hc', cellOf, pure_bind]
        exact ih _ fun p hp' => hp p (.tail _ hp')
      | false =>
        simp only [q, Bool.false_eq_true, if_false, clo, pure_bind]
        exact ih _ fun p hp' => hp p (.tail _ hp')
  unfold closureFor
  show (forIn scope.names [] _ >>= fun r => pure r) = _
  rw [bind_pure]
  exact go scope.names [] h

theorem clo_mem {cells : List (Str × Addr)} : ∀ (l : List (Str × NameKind)) (acc : List (Str × Addr)), (∀ p ∈ acc, cells.lookup p.1 = some p.2) → ∀ p ∈ clo cells l acc, cells.lookup p.1 = some p.2
  | [], _, h => h
  | (x, k) :: r, acc, h => by
    unfold clo
    split
    · split
      · rename_i c hc
        exact clo_mem r _ fun p hp => by
          rcases List.mem_cons.mp hp with rfl | hp
          · exact hc
          · exact h p hp
      · exact clo_mem r _ h
    · exact clo_mem r _ h
theorem clo_acc {cells : List (Str × Addr)} : ∀ (l : List (Str × NameKind)) (acc : List (Str × Addr)), ∀ p ∈ acc, p ∈ clo cells l acc
  | [], _, _, h => h
  | (x, k) :: r, acc, p, h => by
    unfold clo
    split
    · split
      · exact clo_acc r _ p (.tail _ h)
      · exact clo_acc r _ p h
    · exact clo_acc r _ p h
theorem clo_has {cells : List (Str × Addr)} : ∀ (l : List (Str × NameKind)) (acc : List (Str × Addr)) (x : Str) (c : Addr), (x, NameKind.free) ∈ l → cells.lookup x = some c → (x, c) ∈ clo cells l acc
  | (y, k) :: r, acc, x, c, h, hc => by
    unfold clo
    rcases List.mem_cons.mp h with e | h
    · cases e
      simp only [beq_self_eq_true, if_true, hc]
      exact clo_acc r _ _ (.head _)
    · split
      · split
        · exact clo_has r _ x c h hc
        · exact clo_has r _ x c h hc
      · exact clo_has r _ x c h hc

theorem cf_app : ∀ (l : List (Str × NameKind)) (n : Nat) (acc : List (Str × Addr)), cellsFrom n l acc = cellsFrom n l [] ++ acc
  | [], _, _ => rfl
  | (x, k) :: r, n, acc => by
    unfold cellsFrom
    split
    · rw [cf_app r (n + 1) ((x, n) :: acc), cf_app r (n + 1) [(x, n)]]; simp
    · exact cf_app r n acc
theorem cf_has : ∀ (l : List (Str × NameKind)) (n : Nat) (x : Str), (x, NameKind.cell) ∈ l → ∃ c, (x, c) ∈ cellsFrom n l []
  | (y, k) :: r, n, x, h => by
    unfold cellsFrom
    rcases List.mem_cons.mp h with e | h
    · cases e
      simp only [beq_self_eq_true, if_true]
      rw [cf_app]; exact ⟨n, by simp⟩
    · split
      · obtain ⟨c, hc⟩ := cf_has r (n + 1) x h
        rw [cf_app]; exact ⟨c, by simp [hc]⟩
      · exact cf_has r n x h
theorem cf_from : ∀ (l : List (Str × NameKind)) (n : Nat) (x : Str) (c : Addr), (x, c) ∈ cellsFrom n l [] → (x, NameKind.cell) ∈ l
  | [], _, _, _, h => by simp [cellsFrom] at h
  | (y, k) :: r, n, x, c, h => by
    unfold cellsFrom at h
    split at h
    · rename_i q
      rw [cf_app] at h
      rcases List.mem_append.mp h with h | h
      · exact .tail _ (cf_from r _ x c h)
      · simp at h; rw [h.1, beq_iff_eq.mp q]; exact .head _
    · exact .tail _ (cf_from r n x c h)

theorem lookup_mem {α : Type} : ∀ {l : List (Str × α)} {x : Str} {c : α}, (x, c) ∈ l → ∃ c', l.lookup x = some c'
  | (y, v) :: r, x, c, h => by
    rw [List.lookup_cons]
    cases q : x == y with
    | true => exact ⟨v, rfl⟩
    | false =>
      rcases List.mem_cons.mp h with e | h
      · cases e; simp at q
      · exact lookup_mem h
theorem lookup_nodup {α : Type} : ∀ {l : List (Str × α)}, (l.map (·.1)).Nodup → ∀ {x : Str} {c : α}, (x, c) ∈ l → l.lookup x = some c
  | (y, v) :: r, hn, x, c, h => by
    rw [List.lookup_cons]
    simp only [List.map_cons, List.nodup_cons] at hn
    rcases List.mem_cons.mp h with e | h
    · cases e; simp
    · cases q : x == y with
      | true => exact absurd (List.mem_map.mpr ⟨_, h, (beq_iff_eq.mp q)⟩) hn.1
      | false => exact lookup_nodup hn.2 h
theorem lookup_app {α : Type} : ∀ (l l' : List (Str × α)) (x : Str), (l ++ l').lookup x = (l.lookup x).or (l'.lookup x)
  | [], _, _ => rfl
  | (y, v) :: r, l', x => by
    rw [List.cons_append, List.lookup_cons, List.lookup_cons]
    cases q : x == y with
    | true => rfl
    | false => exact lookup_app r l' x

theorem relabel_other {env : Env} : ∀ {names : List (Str × NameKind)} {x : Str} {k : NameKind}, k ≠ .free → names.lookup x = some k →
    (names.map fun (n, k) => if (k == NameKind.free && env.scope.kind == .function && env.kindOf n == some .cell) then (n, NameKind.cell) else (n, k)).lookup x = some k
  | [], _, _, _, h => by simp at h
  | (n, k') :: r, x, k, hk, h => by
    have ih := @relabel_other env r x k hk
    show List.lookup x ((if (k' == NameKind.free && env.scope.kind == .function && env.kindOf n == some .cell) = true then (n, NameKind.cell) else (n, k')) :: _) = _
    cases hx : x == n with
    | true =>
      simp only [List.lookup_cons, hx] at h
      cases h
      simp [List.lookup_cons, hx, hk]
    | false =>
      simp only [List.lookup_cons, hx] at h
      by_cases hc : (k' == NameKind.free && env.scope.kind == .function && env.kindOf n == some .cell) = true
      · rw [if_pos hc]; simp only [List.lookup_cons, hx]; exact ih h
      · rw [if_neg hc]; simp only [List.lookup_cons, hx]; exact ih h
theorem relabel_free {env : Env} : ∀ {names : List (Str × NameKind)} {x : Str}, names.lookup x = some .free →
    (names.map fun (n, k) => if (k == NameKind.free && env.scope.kind == .function && env.kindOf n == some .cell) then (n, NameKind.cell) else (n, k)).lookup x = some .cell ∨
    (names.map fun (n, k) => if (k == NameKind.free && env.scope.kind == .function && env.kindOf n == some .cell) then (n, NameKind.cell) else (n, k)).lookup x = some .free
  | [], _, h => by simp at h
  | (n, k') :: r, x, h => by
    have ih := @relabel_free env r x
    show List.lookup x ((if (k' == NameKind.free && env.scope.kind == .function && env.kindOf n == some .cell) = true then (n, NameKind.cell) else (n, k')) :: _) = _ ∨ List.lookup x ((if (k' == NameKind.free && env.scope.kind == .function && env.kindOf n == some .cell) = true then (n, NameKind.cell) else (n, k')) :: _) = _
    cases hx : x == n with
    | true =>
      simp only [List.lookup_cons, hx] at h
      cases h
      split
      · left; simp [List.lookup_cons, hx]
      · right; simp [List.lookup_cons, hx]
    | false =>
      simp only [List.lookup_cons, hx] at h
      by_cases hc : (k' == NameKind.free && env.scope.kind == .function && env.kindOf n == some .cell) = true
      · rw [if_pos hc]; simp only [List.lookup_cons, hx]; exact ih h
      · rw [if_neg hc]; simp only [List.lookup_cons, hx]; exact ih h

noncomputable def compEnv (scope : Scope) (cl : List (Str × Addr)) (C : Addr) (env : Env) : Env :=
  { scope := relabel scope env, locals := C, globals := env.globals, cells := cellsFrom (C + 1) scope.names cl, qual := env.qual, func := none, code := env.code, frame := env.frame, builtins := env.builtins }

theorem newCompEnv {M : Model} {A : Around} {E : Value → Shared → Prop} {s : Shared} {scope : Scope} {globals : Addr} {cl : List (Str × Addr)} {qual : Str} {outer : Env} {Q : Env → Shared → Prop}
    (h : Q { scope, locals := s.heap.objs.size, globals, cells := cellsFrom (s.heap.objs.size + 1) scope.names cl, qual, func := none, code := outer.code, frame := outer.frame, builtins := outer.builtins }
      { s with heap := pushCells (s.heap.push { cls := .type "dict", data := .dict #[] }) scope.names }) :
    wpAny M A (newFunctionEnv scope globals cl [] qual none .none (some outer)) Q E s := by
  simp only [newFunctionEnv, Option.isSome_some, if_true]
  refine wpAny_bind (wpAny_alloc ?_)
  refine wpAny_bind (wpAny_layCells _ (fun name kind cells => by cases hkc : kind == NameKind.cell <;> simp [hkc]) _ _ _ _ ?_)
  rw [show ({ s with heap := s.heap.push { cls := .type "dict", data := .dict #[] } } : Shared).heap.objs.size = s.heap.objs.size + 1 from Heap.size_push ..]
  simp only [List.forIn_nil]
  exact wpAny_bind (wpAny_pure (wpAny_pure h))

section
variable {prog : Program} {w : World} {A : Around} {E : Value → Shared → Prop} {s : Shared}

theorem appendD {l : Addr} {vs : List Value} {n : Nat} {x : Value} {Q : Value → Shared → Prop} (hg : s.heap.get? l = some (lstO vs n)) (hsz : vs.length ≤ sizeLine)
    (hQ : ∀ h' k, h'.get? l = some (lstO (vs ++ [x]) k) → Heap.SameBut l s.heap h' → Q .none { s with heap := h' }) :
    wpAny (model prog w) A (call (.builtin "list.append") [.ref l, x]) Q E s := by
  refine wpAny_call_entry PySem.slot_list_append ⟨_, hg, rfl⟩ PySem.entry_list_append ?_ (args_list_append _ _)
  show wpAny _ _ (updateSeq l (·.push x) >>= fun _ => ret .none) _ _ s
  refine wpAny_bind ?_
  obtain ⟨k, hk⟩ := upd_seq (f := (·.push x)) (ws := vs ++ [x]) hg (by simp)
  refine wpAny_updateSeq hg rfl (wpAny_pure ⟨.none, rfl, hQ _ k hk (Heap.SameBut.update ..)⟩) (by simpa using hsz) (by simpa using hsz)

noncomputable abbrev tests (ifs : List Expr) (env : Env) : Sem Bool := forIn ifs true fun c r => if r = true then do let ok ← isTrue c env (eval c env); pure (ForInStep.yield ok) else pure (ForInStep.yield r)

theorem codeAny_compLoop_gen {elt target iter : Expr} {ifs : List Expr} {scope : Scope} {pos : Pos} {it acc : Value} {env : Env} {R : Result → Shared → Prop} (I : Nat → Shared → Prop)
    (turn : ∀ n s, I n s → wpAny (model prog w) A (pyNext it) (fun r s₁ => match r with
      | none => R (.ok .next) s₁
      | some v => wpAny (model prog w) A (letOwnedTupleGo target it v) (fun _ s₁' => wpAny (model prog w) A (assign target env v) (fun _ s₂ =>
          wpAny (model prog w) A (tests ifs env) (fun ok s₃ =>
            if ok = true then wpAny (model prog w) A (eval elt env) (fun x s₄ =>
              wpAny (model prog w) A (call (.builtin "list.append") [acc, x]) (fun _ s₅ => ∃ m, m < n ∧ I m s₅) (notedBy (model prog w) A env fun e s' => R (.error e) s') s₄) (notedBy (model prog w) A env fun e s' => R (.error e) s') s₃
            else ∃ m, m < n ∧ I m s₃) (notedBy (model prog w) A env fun e s' => R (.error e) s') s₂) (notedBy (model prog w) A env fun e s' => R (.error e) s') s₁') (notedBy (model prog w) A env fun e s' => R (.error e) s') s₁) (notedBy (model prog w) A env fun e s' => R (.error e) s') s)
    (n : Nat) (h : I n s) :
    codeAny (model prog w) A (.compLoop (.ListComp elt [⟨target, iter, ifs, 0⟩] scope pos) 0 it acc env) R s := by
  refine codeAny_loop rfl I (fun n s hI => ?_) n h
  show wpAny _ A ((compTurn (.ListComp elt [⟨target, iter, ifs, 0⟩] scope pos) 0 it acc env).onRaise (fun x => do noteFrame x env; theTreesLotGoes x)) _ _ s
  refine wpAny_noted ?_
  rw [compTurn_list]
  refine wpAny_bind (wpAny_standAt (wpAny_bind (wpAny_mono (turn n s hI) (fun r s₁ h₁ => ?_) fun _ _ h' => h')))
  cases r with
  | none => exact wpAny_pure h₁
  | some v =>
    refine wpAny_bind (wpAny_mono h₁ (fun _ s₁' h₁' => ?_) fun _ _ h' => h')
    refine wpAny_bind (wpAny_mono h₁' (fun _ s₂ h₂ => wpAny_bind (wpAny_mono h₂ (fun ok s₃ h₃ => ?_) fun _ _ h' => h')) fun _ _ h' => h')
    cases ok with
    | false => exact wpAny_pure ⟨rfl, h₃⟩
    | true =>
      exact wpAny_bind (wpAny_bind (wpAny_mono h₃ (fun x s₄ h₄ => wpAny_bind (wpAny_mono h₄ (fun _ s₅ h₅ => wpAny_pure (wpAny_pure ⟨rfl, h₅⟩)) fun _ _ h' => h')) fun _ _ h' => h'))
end
end Mine
end

section
set_option autoImplicit false
set_option linter.unusedVariables false
namespace Mine
open PySem

section
variable {h₀ : Heap} {own : Addr → Prop} {s0 s : Shared} {W0 W : Wd}

theorem Step.freeze' (x : Step own s0 W0 s W) (S : Sim h₀ W s) {T : Addr} {o : Obj} (hg : s.heap.get? T = some o) (h0 : s0.heap.get? T = none) (hR : W.R T = none) (hρ : ∀ n, W.ρ n ≠ some T) :
    Step own s0 W0 s { W with R := fun b => if b = T then some o else W.R b } ∧ Sim h₀ { W with R := fun b => if b = T then some o else W.R b } s := by
  have mono : ∀ b o', W.R b = some o' → (if b = T then some o else W.R b) = some o' := fun b o' e => by
    rw [if_neg (fun q => by subst q; rw [hR] at e; cases e)]; exact e
  refine ⟨⟨x.rest, x.keep, x.live, fun b o' e => ?_, x.rho, x.new, x.hi, x.hid⟩, ⟨fun b o' e => mono b o' (S.base b o' e), fun b o' e => ?_, fun n c e => ?_, fun n a e => ?_, S.inj, S.dom⟩⟩
  · show (if b = T then some o else W.R b) = W0.R b
    rw [if_neg (fun q => by subst q; rw [h0] at e; cases e)]; exact x.extR b o' e
  · have e1 : (if b = T then some o else W.R b) = some o' := e
    by_cases q : b = T
    · rw [if_pos q] at e1; cases e1; subst q; exact hg
    · rw [if_neg q] at e1; exact S.frz b o' e1
  · obtain ⟨a, ha, hc⟩ := S.cel n c e
    refine ⟨a, ha, ?_⟩
    cases c with
    | list ds => obtain ⟨vs, k, hg', hr⟩ := hc; exact ⟨vs, k, hg', RepAll.mono mono (fun _ _ e => e) ds vs hr⟩
    | dict es => exact hc
  · obtain ⟨h1, h2⟩ := S.dis n a e
    refine ⟨?_, h2⟩
    show (if a = T then some o else W.R a) = none
    rw [if_neg (fun q => hρ n (by rw [← q]; exact e))]; exact h1

theorem Step.track' (x : Step own s0 W0 s W) (S : Sim h₀ W s) {a : Addr} {vs : List Value} {k : Nat} {ds : List D} (hg : s.heap.get? a = some (lstO vs k)) (h0 : s0.heap.get? a = none) (hR : W.R a = none) (na : ∀ n, W.ρ n ≠ some a) (hr : RepAll W.R W.ρ ds vs) :
    let W' : Wd := { W with ρ := fun n => if n = W.st.hi then some a else W.ρ n, st := W.st.alloc (.list ds) }
    Step own s0 W0 s W' ∧ Sim h₀ W' s ∧ W'.ρ W.st.hi = some a := by
  intro W'
  have old : ∀ n b, W.ρ n = some b → W'.ρ n = some b := fun n b e => by
    show (if n = W.st.hi then some a else W.ρ n) = some b
    rw [if_neg (Nat.ne_of_lt (S.dom n b e))]; exact e
  have cases' : ∀ n b, W'.ρ n = some b → (n = W.st.hi ∧ b = a) ∨ W.ρ n = some b := fun n b e => by
    by_cases q : n = W.st.hi
    · left; refine ⟨q, ?_⟩
      have : (if n = W.st.hi then some a else W.ρ n) = some b := e
      rw [if_pos q] at this; exact (Option.some.inj this).symm
    · right
      have : (if n = W.st.hi then some a else W.ρ n) = some b := e
      rwa [if_neg q] at this
  refine ⟨⟨x.rest, x.keep, x.live, x.extR, fun n b e => old n b (x.rho n b e), fun n b e => ?_, Nat.le_succ_of_le x.hi, fun n hn e => ?_⟩, ⟨S.base, S.frz, fun n c e => ?_, fun n b e => ?_, fun n k' b e1 e2 => ?_, fun n b e => ?_⟩, ?_⟩
  · rcases cases' n b e with ⟨_, rfl⟩ | h
    · exact .inr h0
    · exact x.new n b h
  · show (if n = W.st.hi then some _ else W.st.cs n) = none
    rw [if_neg (Nat.ne_of_lt (Nat.lt_of_lt_of_le hn x.hi))]; exact x.hid n hn e
  · have e' : (if n = W.st.hi then some (Cell.list ds) else W.st.cs n) = some c := e
    by_cases q : n = W.st.hi
    · rw [if_pos q] at e'; cases e'
      exact ⟨a, by show (if n = W.st.hi then some a else W.ρ n) = some a; rw [if_pos q], vs, k, hg, RepAll.mono (fun _ _ e => e) old ds vs hr⟩
    · rw [if_neg q] at e'
      obtain ⟨b, hb, hc⟩ := S.cel n c e'
      refine ⟨b, old n b hb, ?_⟩
      cases c with
      | list ds' => obtain ⟨vs', k', hg', hr'⟩ := hc; exact ⟨vs', k', hg', RepAll.mono (fun _ _ e => e) old ds' vs' hr'⟩
      | dict es => exact hc
  · rcases cases' n b e with ⟨_, rfl⟩ | h
    · exact ⟨hR, _, hg⟩
    · exact S.dis n b h
  · rcases cases' n b e1 with ⟨q1, r1⟩ | h1
    · rcases cases' k' b e2 with ⟨q2, _⟩ | h2
      · rw [q1, q2]
      · exact absurd (r1 ▸ h2) (na k')
    · rcases cases' k' b e2 with ⟨_, r2⟩ | h2
      · exact absurd (r2 ▸ h1) (na n)
      · exact S.inj n k' b h1 h2
  · rcases cases' n b e with ⟨q, _⟩ | h
    · rw [q]; exact Nat.lt_succ_self _
    · exact Nat.lt_succ_of_lt (S.dom n b h)
  · show (if W.st.hi = W.st.hi then some a else W.ρ W.st.hi) = some a
    rw [if_pos rfl]

/-- an object nobody looks at changes -/
theorem Step.dead' (x : Step own s0 W0 s W) (S : Sim h₀ W s) {C : Addr} {h' : Heap} (h0 : s0.heap.get? C = none) (hR : W.R C = none) (hρ : ∀ n, W.ρ n ≠ some C) (hs : ∀ b o, b ≠ C → s.heap.get? b = some o → h'.get? b = some o) :
    Step own s0 W0 { s with heap := h' } W ∧ Sim h₀ W { s with heap := h' } := by
  refine ⟨⟨x.rest, fun b o e hm ho => hs b o (fun q => by rw [q, h0] at e; cases e) (x.keep b o e hm ho), fun b o e => ?_, x.extR, x.rho, x.new, x.hi, x.hid⟩, ⟨S.base, fun b o e => hs b o (fun q => by rw [q, hR] at e; cases e) (S.frz b o e), fun n c e => ?_, fun n a e => ?_, S.inj, S.dom⟩⟩
  · obtain ⟨o', e'⟩ := x.live b o e
    exact ⟨o', hs b o' (fun q => by rw [q, h0] at e; cases e) e'⟩
  · obtain ⟨a, ha, hc⟩ := S.cel n c e
    refine ⟨a, ha, ?_⟩
    cases c with
    | list ds => obtain ⟨vs, k, hg', hr⟩ := hc; exact ⟨vs, k, hs a _ (fun q => hρ n (by rw [← q]; exact ha)) hg', hr⟩
    | dict es => exact hc
  · obtain ⟨h1, o, h2⟩ := S.dis n a e
    exact ⟨h1, o, hs a o (fun q => hρ n (by rw [← q]; exact e)) h2⟩
end

/-- the comprehension's frame -/
noncomputable def compOwn (C : Addr) (names : List (Str × NameKind)) : Addr → Prop := fun b => b = C ∨ ∃ x, (x, b) ∈ cellsFrom (C + 1) names []

section
variable {prog : Program} {w : World} {A : Around} {h₀ : Heap} {own : Addr → Prop} {env : Env} {kd : Kd} {m : Loc} {s0 s : Shared} {W0 W : Wd}

noncomputable abbrev compM (scope : Scope) (m : Loc) : Loc := fun x => if scope.names.lookup x = some .free then m x else none
noncomputable abbrev compK (scope : Scope) : Kd := fun x => scope.names.lookup x

noncomputable def CompStep (prog : Program) (w : World) (A : Around) (h₀ : Heap) (scope : Scope) (m : Loc) (t elt : Expr) (ifs : List Expr) (step : D → St → (Option D → St → Prop) → Prop) : Prop :=
  ∀ (own' : Addr → Prop) (cenv : Env) d W s v K, Sim h₀ W s → Fram own' cenv (compK scope) (compM scope m) W s → Rep W.R W.ρ d v → step d W.st K →
    wpAny (model prog w) A (assign t cenv v) (fun _ s1 => wpAny (model prog w) A (tests ifs cenv) (fun ok s2 =>
      if ok = true then wpAny (model prog w) A (eval elt cenv) (fun x s3 => Fin' h₀ own' s W (fun x W' s' => Fram own' cenv (compK scope) (compM scope m) W' s' ∧ ∃ dx, Rep W'.R W'.ρ dx x ∧ K (some dx) W'.st) x s3) E0 s2
      else Fin' h₀ own' s W (fun (_ : Unit) W' s' => Fram own' cenv (compK scope) (compM scope m) W' s' ∧ K none W'.st) () s2) E0 s1) E0 s

theorem compFram {D C : Addr} {H : Heap} {tk : Nat} {scope : Scope} (F : Fram own env kd m W s) (S : Sim h₀ W s) (sc : ScopeOk kd scope) (hD : C = s.heap.objs.size + 1) (hDD : D = s.heap.objs.size)
    (hH : H = pushCells (((s.heap.push (lstO [] 0))).push { cls := .type "dict", data := .dict #[] }) scope.names) :
    Fram (compOwn C scope.names) (compEnv scope (clo env.cells scope.names []) C env) (compK scope) (compM scope m) W { s with heap := H, toks := tk } ∧
    (∀ b o, s.heap.get? b = some o → H.get? b = some o) ∧ H.get? D = some (lstO [] 0) ∧ (∀ b, compOwn C scope.names b → s.heap.get? b = none ∧ b ≠ D) ∧ (∀ x c, (compEnv scope (clo env.cells scope.names []) C env).cells.lookup x = some c → compOwn C scope.names c ∨ env.cells.lookup x = some c) := by
  have sz : ((s.heap.push (lstO [] 0))).objs.size = s.heap.objs.size + 1 := Heap.size_push ..
  have sz2 : (((s.heap.push (lstO [] 0))).push { cls := .type "dict", data := .dict #[] }).objs.size = s.heap.objs.size + 2 := by rw [Heap.size_push, sz]
  have ok := cellsFrom_ok scope.names (((s.heap.push (lstO [] 0))).push { cls := .type "dict", data := .dict #[] }) (s.heap.objs.size + 2) [] ⟨fun _ _ hm => (nomatch hm), List.Pairwise.nil⟩ (by rw [sz2]; exact Nat.le_refl _)
  rw [sz2, ← hH] at ok
  have hC1 : C + 1 = s.heap.objs.size + 2 := by rw [hD]
  have hkeep : ∀ b o, s.heap.get? b = some o → H.get? b = some o := fun b o e => by rw [hH]; exact pushCells_keeps _ _ b o (Heap.get?_push_of_some _ (Heap.get?_push_of_some _ e))
  have cfm : ∀ x c, (x, c) ∈ cellsFrom (C + 1) scope.names [] → H.IsCell c none ∧ s.heap.objs.size + 2 ≤ c := fun x c hm => ok.empty x c (by rw [← hC1]; exact hm)
  have clm : ∀ x c, (x, c) ∈ clo env.cells scope.names [] → env.cells.lookup x = some c := fun x c hm => clo_mem scope.names [] (fun p hp => nomatch hp) (x, c) hm
  have dead : ∀ b, s.heap.objs.size ≤ b → s.heap.get? b = none := fun b hb => dead_ge hb
  have ρd : ∀ b, s.heap.get? b = none → ∀ n, W.ρ n ≠ some b := fun b hb n q => by obtain ⟨_, o, e⟩ := S.dis n b q; rw [hb] at e; cases e
  have Rd : ∀ b, s.heap.get? b = none → W.R b = none := fun b hb => by
    cases q : W.R b with
    | none => rfl
    | some o => have := S.frz b o q; rw [hb] at this; cases this
  have hcd : ∀ x c, (x, c) ∈ cellsFrom (C + 1) scope.names [] → s.heap.get? c = none := fun x c hm => dead c (Nat.le_trans (Nat.le_add_right _ 2) (cfm x c hm).2)
  have hClt : s.heap.get? C = none := dead C (by rw [hD]; exact Nat.le_succ _)
  have hns : H.Ns C (fun _ => none) := by
    rw [hH, hD, ← sz]
    exact (Heap.Ns.new _ (.type "dict")).keeps (pushCells_keeps _ _)
  have cells : (compEnv scope (clo env.cells scope.names []) C env).cells = cellsFrom (C + 1) scope.names [] ++ clo env.cells scope.names [] := cf_app _ _ _
  have nofree : ∀ x, (x, NameKind.free) ∈ scope.names → (cellsFrom (C + 1) scope.names []).lookup x = none := fun x hx => by
    cases q : (cellsFrom (C + 1) scope.names []).lookup x with
    | none => rfl
    | some c =>
      have h1 := lookup_nodup sc.2.1 (cf_from _ _ x c (mem_of_lookup q))
      have h2 := lookup_nodup sc.2.1 hx
      rw [h1] at h2; cases h2
  have cases' : ∀ x c, (compEnv scope (clo env.cells scope.names []) C env).cells.lookup x = some c → (x, c) ∈ cellsFrom (C + 1) scope.names [] ∨ env.cells.lookup x = some c := fun x c e => by
    have := mem_of_lookup e
    rw [cells] at this
    rcases List.mem_append.mp this with h | h
    · exact .inl h
    · exact .inr (clm x c h)
  have frees : ∀ x, scope.names.lookup x = some .free → ∃ c, env.cells.lookup x = some c ∧ (compEnv scope (clo env.cells scope.names []) C env).cells.lookup x = some c := fun x hx => by
    have hm := mem_of_lookup hx
    have hout : ∃ c, env.cells.lookup x = some c := by
      rcases (sc.2.2 _ hm).2.2 rfl with q | q
      · obtain ⟨c, h, _⟩ := F.co x q; exact ⟨c, h⟩
      · exact (F.kF x q).2
    obtain ⟨c, hc⟩ := hout
    obtain ⟨c', hc'⟩ := lookup_mem (clo_has scope.names [] x c hm hc)
    have := clm x c' (mem_of_lookup hc')
    rw [hc] at this; cases this
    refine ⟨c, hc, ?_⟩
    rw [cells, lookup_app, nofree x hm, Option.none_or, hc']
  refine ⟨⟨by show (relabel scope env).kind = _; exact sc.1, F.gl, F.bi, fun x k hk hkf => relabel_other hkf hk, ⟨?_, ?_⟩, fun x d hx => ?_, ⟨_, hns⟩, fun x c e => ?_, fun x y c e1 e2 => ?_, ⟨.inl rfl, Rd C hClt, ρd C hClt⟩, fun x hx => ?_, fun x hx => ⟨relabel_free hx, let ⟨c, _, h⟩ := frees x hx; ⟨c, h⟩⟩⟩, hkeep, ?_, ?_, fun x c e => (cases' x c e).imp (fun h => .inr ⟨x, h⟩) id⟩
  · cases q : scope.names.lookup ("__debug__" : Str) with
    | none => exact q
    | some k => exact absurd rfl (sc.2.2 _ (mem_of_lookup q)).1
  · cases q : scope.names.lookup ("__classdict__" : Str) with
    | none => exact q
    | some k => exact absurd rfl (sc.2.2 _ (mem_of_lookup q)).2.1
  · have hx' : (if scope.names.lookup x = some .free then m x else none) = some d := hx
    split at hx'
    · rename_i hf
      obtain ⟨c, hc, hc'⟩ := frees x hf
      obtain ⟨_, v, H', hr⟩ := F.nm x d hx'
      have hne : compK scope x ≠ none := by show scope.names.lookup x ≠ none; rw [hf]; exact fun z => nomatch z
      refine ⟨hne, v, Or.inr ⟨relabel_free hf, c, hc', ?_⟩, hr⟩
      rcases H' with ⟨kl, _⟩ | ⟨_, c2, hc2, hv⟩
      · exfalso
        rcases (sc.2.2 _ (mem_of_lookup hf)).2.2 rfl with q | q
        · rw [F.kE x _ q (by intro z; cases z)] at kl; cases kl
        · rcases (F.kF x q).1 with z | z <;> rw [z] at kl <;> cases kl
      · rw [hc] at hc2; cases hc2
        exact hv.keeps hkeep
    · cases hx'
  · rcases cases' x c e with h | h
    · refine ⟨⟨none, (cfm x c h).1⟩, ?_, ρd c (hcd x c h)⟩
      intro q
      have h2 := (cfm x c h).2
      have q' : c = C := q
      rw [q', hD] at h2
      exact absurd h2 (by omega)
    · obtain ⟨⟨v, hv⟩, _, h3⟩ := F.cl x c h
      refine ⟨⟨v, hv.keeps hkeep⟩, ?_, h3⟩
      intro q
      have q' : c = C := q
      obtain ⟨o, e', _⟩ := hv
      rw [q', hClt] at e'; cases e'
  · rcases cases' x c e1 with h1 | h1 <;> rcases cases' y c e2 with h2 | h2
    · have := ok.apart
      rw [← hC1] at this
      exact name_of_addr this h1 h2
    · obtain ⟨⟨v, o, e', _⟩, _⟩ := F.cl y c h2
      rw [hcd x c h1] at e'; cases e'
    · obtain ⟨⟨v, o, e', _⟩, _⟩ := F.cl x c h1
      rw [hcd y c h2] at e'; cases e'
    · exact F.ci x y c h1 h2
  · have hm := mem_of_lookup hx
    obtain ⟨c, hc⟩ := cf_has scope.names (C + 1) x hm
    obtain ⟨c', hc'⟩ := lookup_mem hc
    refine ⟨c', ?_, .inr ⟨x, mem_of_lookup hc'⟩, Rd c' (hcd x c' (mem_of_lookup hc'))⟩
    rw [cells, lookup_app, hc']; rfl
  · rw [hH, hDD]
    exact pushCells_keeps _ _ _ _ (Heap.get?_push_of_some _ (Heap.get?_push_size _ rfl))
  · rintro b (rfl | ⟨x, hx⟩)
    · exact ⟨hClt, by rw [hD, hDD]; exact PySem.W.neN (by omega)⟩
    · refine ⟨hcd x b hx, fun q => ?_⟩
      have h2 := (cfm x b hx).2
      rw [q, hDD] at h2
      exact absurd h2 (by omega)
end
end Mine
end

section
set_option autoImplicit false
set_option linter.unusedVariables false
namespace Mine
open PySem

theorem wComp_next {step : D → St → (Option D → St → Prop) → Prop} {items acc : List D} {i : Nat} {d : D} {st : St} {Q : List D → St → Prop} (hd : items[i]? = some d) (h : wComp step (items.drop i) acc st Q) :
    step d st fun r st' => match r with
      | some x => wComp step (items.drop (i + 1)) (acc ++ [x]) st' Q
      | none => wComp step (items.drop (i + 1)) acc st' Q := by
  obtain ⟨hi, rfl⟩ := List.getElem?_eq_some_iff.mp hd
  rw [List.drop_eq_getElem_cons hi] at h
  exact h

section
variable {prog : Program} {w : World} {A : Around} {h₀ : Heap} {own : Addr → Prop} {env : Env} {kd : Kd} {m m0 : Loc} {s0 s : Shared} {W0 W : Wd}

structure CInv (h₀ : Heap) (step : D → St → (Option D → St → Prop) → Prop) (Q' : List D → St → Prop) (scope : Scope) (m : Loc) (cenv : Env) (C D' : Addr) (s0 : Shared) (W0 : Wd) (s4 : Shared) (W : Wd) (p : Nat → Bool) (fp wr : List Addr) (St : Nat → Heap → Prop) (items : List D) (i : Nat) (W' : Wd) (acc : List D) (vs : List Value) (k : Nat) (s' : Shared) : Prop where
  le : i ≤ items.length
  len : acc.length ≤ i
  L : LInv h₀ (fun b => compOwn C scope.names b ∨ b = D') s0 W0 s4 W p fp wr St i W' s'
  F : Fram (compOwn C scope.names) cenv (compK scope) (compM scope m) W' s'
  hD : s'.heap.get? D' = some (lstO vs k)
  rep : RepAll W'.R W'.ρ acc vs
  RD : W'.R D' = none
  ρD : ∀ n, W'.ρ n ≠ some D'
  w : wComp step (items.drop i) acc W'.st Q'

theorem comp_core {t elt iter : Expr} {ifs : List Expr} {scope : Scope} {pos : Pos} {it : Value} {items : List D} {p : Nat → Bool} {trk : Bool} {Q : D → St → Prop} {step : D → St → (Option D → St → Prop) → Prop}
    (S0 : Sim h₀ W0 s0) (F0 : Fram own env kd m0 W0 s0) (x : Step noOwn s0 W0 s W) (S : Sim h₀ W s) (F : Fram own env kd m W s) (I : IterOK prog w A t noOwn it items p s0 s W) (hlen : items.length ≤ 2 * lim) (sc : ScopeOk kd scope)
    (hb : CompStep prog w A h₀ scope m t elt ifs step)
    (h : wComp step items [] (W.st.hide p) fun acc st5 => mkList trk acc (st5.back W.st p) Q)
    {RR : Value → Addr → Result → Shared → Prop}
    (hRR : ∀ D' C s' W', Step noOwn s0 W0 s' W' → Sim h₀ W' s' → VP Q (.ref D') W' s' → s0.heap.get? C = none → W'.R C = none → (∀ n, W'.ρ n ≠ some C) → (∃ mv, s'.heap.Ns C mv) → RR (.ref D') C (.ok .next) s') :
    wpAny (model prog w) A (newList []) (fun acc s₃ => wpAny (model prog w) A (newFunctionEnv scope env.globals (clo env.cells scope.names []) [] env.qual none .none (some env)) (fun cenv s₄ =>
      codeAny (model prog w) A (.compStart (.ListComp elt [⟨t, iter, ifs, 0⟩] scope pos) 0 it acc { cenv with scope := relabel scope env }) (RR acc cenv.locals) s₄) E0 s₃) E0 s := by
  refine wpAny_newObj_type (newCompEnv ?_)
  show codeAny (model prog w) A (.compStart (.ListComp elt [⟨t, iter, ifs, 0⟩] scope pos) 0 it (.ref s.heap.objs.size) (compEnv scope (clo env.cells scope.names []) ((s.heap.push (lstO [] 0))).objs.size env)) (RR (.ref s.heap.objs.size) ((s.heap.push (lstO [] 0))).objs.size) { s with heap := pushCells (((s.heap.push (lstO [] 0))).push { cls := .type "dict", data := .dict #[] }) scope.names }
  have sz : ((s.heap.push (lstO [] 0))).objs.size = s.heap.objs.size + 1 := Heap.size_push ..
  generalize hC : s.heap.objs.size + 1 = C at sz
  generalize hD' : s.heap.objs.size = D'
  generalize hH : pushCells (((s.heap.push (lstO [] 0))).push { cls := .type "dict", data := .dict #[] }) scope.names = H
  obtain ⟨Fc, hkeep, hgD, hownd, hcl⟩ := compFram (D := D') (C := C) (H := H) (tk := s.toks) F S sc hC.symm hD'.symm hH.symm
  rw [sz]
  generalize hcenv : compEnv scope (clo env.cells scope.names []) C env = cenv at Fc hcl
  have hloc : cenv.locals = C := by rw [← hcenv]; rfl
  have dD : s.heap.get? D' = none := dead_ge (by rw [hD']; exact Nat.le_refl _)
  obtain ⟨g, Sg⟩ := S.grow (own := noOwn) (tk := s.toks) hkeep
  have dead0 : ∀ b, s.heap.get? b = none → s0.heap.get? b = none := fun b hb => by
    cases q : s0.heap.get? b with
    | none => rfl
    | some o => obtain ⟨o', e⟩ := x.live b o q; rw [hb] at e; cases e
  obtain ⟨⟨Ia, fp, wr, V, St, rfl, T, hst, hV, hwr, hsub, hfp⟩, hpd⟩ := I
  have ownd : ∀ b, (compOwn C scope.names b ∨ b = D') → s.heap.get? b = none := fun b hb => by
    rcases hb with hb | rfl
    · exact (hownd b hb).1
    · exact dD
  have wrs : ∀ b ∈ wr, ∃ o, s.heap.get? b = some o := fun b hb => (hfp b (hsub b hb)).1
  have nwr : ∀ b, s.heap.get? b = none → b ∉ wr := fun b hb q => by obtain ⟨o, e⟩ := wrs b q; rw [hb] at e; cases e
  have hst' : St 0 H := T.frame 0 _ _ hst fun b _ o e => hkeep b o e
  have x4 : Step (fun b => compOwn C scope.names b ∨ b = D') s0 W0 { s with heap := H } W := (x.trans S0 g).wide fun _ _ _ q => q.elim
  have L0 := LInv.start (p := p) (fp := fp) (wr := wr) (St := St) (s := { s with heap := H }) Sg x4 hst' hwr hsub (fun b q => by
      obtain ⟨o, e⟩ := (hfp b q).1
      exact ⟨⟨o, hkeep b o e⟩, (fun z => by rw [ownd b z] at e; cases e), (hfp b q).2.2⟩) hpd
    (fun n a q e z => by obtain ⟨_, o, e'⟩ := S.dis n a e; rw [ownd a z] at e'; cases e')
  have cellwr : ∀ y c, cenv.cells.lookup y = some c → c ∉ wr := fun y c e => by
    rcases hcl y c e with h | h
    · exact nwr c (hownd c h).1
    · intro q
      obtain ⟨⟨v, o, e', _⟩, _⟩ := F0.cl y c h
      rw [(hwr c q).1] at e'; cases e'
  have cellD : ∀ y c, cenv.cells.lookup y = some c → c ≠ D' := fun y c e => by
    rcases hcl y c e with h | h
    · exact (hownd c h).2
    · rintro rfl
      obtain ⟨⟨v, o, e', _⟩, _⟩ := F.cl y c h
      rw [dD] at e'; cases e'
  have hCd : s.heap.get? C = none := (hownd C (.inl rfl)).1
  have hCD : C ≠ D' := (hownd C (.inl rfl)).2
  have loop : codeAny (model prog w) A (.compLoop (.ListComp elt [⟨t, iter, ifs, 0⟩] scope pos) 0 (.ref Ia) (.ref D') cenv) (RR (.ref D') C) { s with heap := H } := by
    refine codeAny_compLoop_gen (fun n s' => ∃ i W' acc vs k, n = items.length - i ∧ CInv h₀ step (fun acc st5 => mkList trk acc (st5.back W.st p) Q) scope m cenv C D' s0 W0 { s with heap := H } W p fp wr St items i W' acc vs k s') ?_ items.length
      ⟨0, _, [], [], 0, rfl, Nat.zero_le _, Nat.zero_le _, L0, Fc.st _, hgD, rfl, ?_, ?_, h⟩
    · rintro n s' ⟨i, W', acc, vs, k, rfl, Z⟩
      rcases Nat.lt_or_ge i items.length with hlt | hge
      · refine wpAny_mono (T.item i s' (fun v s2 => wpAny (model prog w) A (assign t cenv v) (fun _ s₂ =>
          wpAny (model prog w) A (tests ifs cenv) (fun ok s₃ =>
            if ok = true then wpAny (model prog w) A (eval elt cenv) (fun x s₄ =>
              wpAny (model prog w) A (call (.builtin "list.append") [.ref D', x]) (fun _ s₅ => ∃ m_1, m_1 < items.length - i ∧ ∃ i W' acc vs k, m_1 = items.length - i ∧ CInv h₀ step (fun acc st5 => mkList trk acc (st5.back W.st p) Q) scope m cenv C D' s0 W0 { s with heap := H } W p fp wr St items i W' acc vs k s₅) (notedBy (model prog w) A cenv fun e s' => RR (.ref D') C (.error e) s') s₄) (notedBy (model prog w) A cenv fun e s' => RR (.ref D') C (.error e) s') s₃
            else ∃ m_1, m_1 < items.length - i ∧ ∃ i W' acc vs k, m_1 = items.length - i ∧ CInv h₀ step (fun acc st5 => mkList trk acc (st5.back W.st p) Q) scope m cenv C D' s0 W0 { s with heap := H } W p fp wr St items i W' acc vs k s₃) (notedBy (model prog w) A cenv fun e s' => RR (.ref D') C (.error e) s') s₂) (notedBy (model prog w) A cenv fun e s' => RR (.ref D') C (.error e) s') s2) _ hlt Z.L.inv fun v h' tk hv hst' hk => ?_) (fun r s1 hr => ?_) fun _ _ e => e
        · obtain ⟨d, hd, hrep⟩ := hV i v _ _ hv
          obtain ⟨W2, L2, hr2, hs2, xs2⟩ := Z.L.turn T (tk := tk) hst' hk hrep
          have F2 := Z.F.step Z.L.sm xs2 ⟨by rw [hloc]; exact nwr C hCd, cellwr⟩
          have hw2 := wComp_next hd Z.w
          rw [← hs2] at hw2
          have hD2 : h'.get? D' = some (lstO vs k) := hk D' _ (nwr D' dD) Z.hD
          have RD2 : W2.R D' = none := (xs2.extR D' _ Z.hD).trans Z.RD
          have ρD2 : ∀ n, W2.ρ n ≠ some D' := fun n q => by
            rcases xs2.new n D' q with z | z
            · exact Z.ρD n z
            · rw [Z.hD] at z; cases z
          have rep2 := xs2.repAll Z.L.sm Z.rep
          have more : ∀ {s3 : Shared} {W3 : Wd}, Step (compOwn C scope.names) { s' with heap := h', toks := tk } W2 s3 W3 → Sim h₀ W3 s3 →
              LInv h₀ (fun b => compOwn C scope.names b ∨ b = D') s0 W0 { s with heap := H } W p fp wr St (i + 1) W3 s3 ∧ s3.heap.get? D' = some (lstO vs k) ∧ RepAll W3.R W3.ρ acc vs ∧ W3.R D' = none ∧ (∀ n, W3.ρ n ≠ some D') := fun {s3 W3} x3 S3 => by
            refine ⟨L2.go S0 T.frame (x3.wide fun _ _ _ q => .inl q) S3, x3.keep D' _ hD2 (fun n q => absurd q (ρD2 n)) (fun q => (hownd D' q).2 rfl), x3.repAll L2.sm rep2, (x3.extR D' _ hD2).trans RD2, fun n q => ?_⟩
            rcases x3.new n D' q with z | z
            · exact ρD2 n z
            · rw [show h'.get? D' = none from z] at hD2; cases hD2
          refine wpAny_mono (hb _ cenv d W2 _ v _ L2.sm F2 hr2 hw2) (fun _ s3 h3 => wpAny_mono h3 (fun ok s4 h4 => ?_) fun _ _ e => e.elim) fun _ _ e => e.elim
          cases ok with
          | false =>
            simp only [Bool.false_eq_true, if_false] at h4 ⊢
            obtain ⟨W3, x3, S3, F3, K3⟩ := h4
            obtain ⟨L3, hD3, rep3, RD3, ρD3⟩ := more x3 S3
            exact ⟨items.length - (i + 1), by omega, i + 1, W3, acc, vs, k, rfl, hlt, Nat.le_succ_of_le Z.len, L3, F3, hD3, rep3, RD3, ρD3, K3⟩
          | true =>
            simp only [if_true] at h4 ⊢
            refine wpAny_mono h4 (fun y s5 h5 => ?_) fun _ _ e => e.elim
            obtain ⟨W3, x3, S3, F3, dx, rdx, K3⟩ := h5
            obtain ⟨L3, hD3, rep3, RD3, ρD3⟩ := more x3 S3
            have hl : vs.length ≤ sizeLine := by
              have q1 := rep3.length
              have q2 := Z.len
              have q3 : lim = 1000000 := rfl
              have q4 : sizeLine = 16777216 := by decide
              omega
            refine appendD hD3 hl fun h6 k6 hg6 hs6 => ?_
            have ext : ∀ b o, b ≠ D' → s5.heap.get? b = some o → h6.get? b = some o := fun b o q e => (hs6.2 b q).trans e
            obtain ⟨x6, S6⟩ := S3.ownStep (own := fun b => compOwn C scope.names b ∨ b = D') (tk := s5.toks) (.inr rfl) RD3 ρD3 ext ⟨_, hg6⟩
            have L6 := L3.go S0 T.frame x6 S6
            have F6 : Fram (compOwn C scope.names) cenv (compK scope) (compM scope m) W3 { s5 with heap := h6 } := F3.heap (tk := s5.toks) (fun o e => ext _ o (by rw [hloc]; exact hCD) e) (fun y c o q e => ext c o (cellD y c q) e)
            exact ⟨items.length - (i + 1), by omega, i + 1, W3, acc ++ [dx], vs ++ [y], k6, rfl, hlt, by simpa using Z.len, L6, F6, hg6, rep3.append (RepAll.one rdx), RD3, ρD3, K3⟩
        · cases r with
          | none => exact hr.elim
          | some v => exact hr
      · have e : i = items.length := Nat.le_antisymm Z.le hge
        subst e
        have hw := Z.w
        rw [List.drop_length] at hw
        refine wpAny_mono (T.done s' (fun s1 => RR (.ref D') C (.ok .next) s1) _ Z.L.inv fun h' tk hk => ?_) (fun r s1 hr => ?_) fun _ _ e => e
        · have hD2 : h'.get? D' = some (lstO vs k) := hk D' _ (nwr D' dD) Z.hD
          have F2 : Fram (compOwn C scope.names) cenv (compK scope) (compM scope m) W' { s' with heap := h', toks := tk } := Z.F.heap (fun o e => hk _ o (by rw [hloc]; exact nwr C hCd) e) fun y c o q e => hk c o (cellwr y c q) e
          obtain ⟨x5, S5⟩ := (Z.L.last (tk := tk) hk).stop Sg x4
          have x5' : Step noOwn s0 W0 { s' with heap := h', toks := tk } { W' with st := W'.st.back W.st p } := x5.wide fun b o e q => by rw [dead0 b (ownd b q)] at e; cases e
          have hns : ∃ mv, h'.Ns C mv := by have := F2.ns; rw [hloc] at this; exact this
          have RC : W'.R C = none := by have := F2.lo.2.1; rw [hloc] at this; exact this
          have ρC : ∀ n, W'.ρ n ≠ some C := by have := F2.lo.2.2; rw [hloc] at this; exact this
          obtain ⟨hl, hq⟩ := hw
          cases trk with
          | true =>
            obtain ⟨x6, S6, e6⟩ := x5'.track' S5 hD2 (dead0 D' dD) Z.RD Z.ρD Z.rep
            refine hRR D' C _ _ x6 S6 ⟨.loc _, ⟨D', e6, rfl⟩, hq⟩ (dead0 C hCd) RC (fun n q => ?_) hns
            have q' : (if n = (W'.st.back W.st p).hi then some D' else W'.ρ n) = some C := q
            split at q'
            · exact hCD (Option.some.inj q').symm
            · exact ρC n q'
          | false =>
            obtain ⟨x6, S6⟩ := x5'.freeze' S5 hD2 (dead0 D' dD) Z.RD Z.ρD
            refine hRR D' C _ _ x6 S6 ⟨.list acc, ⟨D', vs, k, rfl, by show (if D' = D' then _ else _) = _; rw [if_pos rfl], RepAll.mono (fun a o e => ?_) (fun _ _ e => e) acc vs Z.rep⟩, hq⟩ (dead0 C hCd) ?_ ρC hns
            · show (if a = D' then some (lstO vs k) else W'.R a) = some o
              rw [if_neg (fun q => by subst q; rw [Z.RD] at e; cases e)]; exact e
            · show (if C = D' then some (lstO vs k) else W'.R C) = none
              rw [if_neg hCD]; exact RC
        · cases r with
          | none => exact hr
          | some v => exact hr.elim
    · cases q : W.R D' with
      | none => rfl
      | some o => have := S.frz D' o q; rw [dD] at this; cases this
    · intro n q
      obtain ⟨_, o, e⟩ := S.dis n D' q; rw [dD] at e; cases e
  exact codeAny_compStart_list loop (T.self 0 _ _ _ hst' loop)
end
end Mine
end

section
set_option autoImplicit false
set_option linter.unusedVariables false
namespace Mine
open PySem

noncomputable def CallOK (prog : Program) (w : World) (h₀ : Heap) (k : Nat) (S : FSpec) (v : Value) : Prop :=
  (∃ a o fd, v = .ref a ∧ h₀.get? a = some o ∧ o.data = .func fd) ∧
  ∀ (A : Around) (W : Wd) (s : Shared) (ds : List D) (vs : List Value) (Q : D → St → Prop), AOk k A → Sim h₀ W s → RepAll W.R W.ρ ds vs → S ds W.st Q → OK prog w A h₀ noOwn (call v vs) W s (VP Q)

structure CtxOK (prog : Program) (w : World) (h₀ : Heap) (k : Nat) (Γ : Ctx) : Prop where
  ns : ∃ mg mb, h₀.Ns mainGlobals mg ∧ h₀.Ns builtinsNs mb ∧
    (∀ x d, Γ.gl x = some d → ∃ v, (mg x).or (mb x) = some v ∧ ∀ (R : Addr → Option Obj) (ρ : Nat → Option Addr), (∀ a o, h₀.get? a = some o → R a = some o) → Rep R ρ d v) ∧
    (∀ x S, Γ.fn x = some S → ∃ v, (mg x).or (mb x) = some v ∧ CallOK prog w h₀ k S v) ∧
    (∀ x v, Γ.fn x = none → bltV x = some v → mg x = none ∧ mb x = some v)

structure Snd (prog : Program) (w : World) (A : Around) (h₀ : Heap) (Γ : Ctx) (n : Nat) : Prop where
  e : ∀ trk kd e m Q own env W s, Sim h₀ W s → Fram own env kd m W s → wE Γ n trk kd e m W.st Q → OK prog w A h₀ noOwn (eval e env) W s (VP Q)
  es : ∀ trk kd es m Q own env W s pos, Sim h₀ W s → Fram own env kd m W s → wEs Γ n trk kd es m W.st Q → OK prog w A h₀ noOwn (spliced (backTo pos (starEach es env))) W s (VPs Q)
  opt : ∀ kd e m Q own env W s, Sim h₀ W s → Fram own env kd m W s → wOpt Γ n kd e m W.st Q → OK prog w A h₀ noOwn (valueOrNone (evalOpt e env)) W s (VP Q)
  bool : ∀ op kd es m Q own env W s pos, Sim h₀ W s → Fram own env kd m W s → wBool Γ n op kd es m W.st Q → OK prog w A h₀ noOwn (boolOp pos op (evalEach es env)) W s (VP Q)
  chV : ∀ kd a va ops rs m K own env W s pos, Sim h₀ W s → Fram own env kd m W s → Rep W.R W.ρ a va → wChain Γ n kd a ops rs m W.st K → OK prog w A h₀ noOwn (compareChain pos va ops (markedEach ops rs (evalEach rs env))) W s (fun v W' _ => ∃ b, v = .bool b ∧ K b W'.st)
  chT : ∀ kd a va ops rs m K own env W s pos, Sim h₀ W s → Fram own env kd m W s → Rep W.R W.ρ a va → wChain Γ n kd a ops rs m W.st K → OK prog w A h₀ noOwn (testChain pos va ops (markedEach ops rs (evalEach rs env))) W s (BP K)
  t : ∀ kd e m K own env W s, Sim h₀ W s → Fram own env kd m W s → wT Γ n kd e m W.st K → OK prog w A h₀ noOwn (isTrue e env (eval e env)) W s (BP K)
  all : ∀ op kd es m K own env W s, Sim h₀ W s → Fram own env kd m W s → wAll Γ n op kd es m W.st K → OK prog w A h₀ noOwn (allTrue op es env) W s (BP K)
  it : ∀ kd t it m K own own0 env W s, Sim h₀ W s → Fram own env kd m W s → OwnOK own0 s W → wIter Γ n kd t it m W.st K → (∀ x, foldedSetIterable it env x = pure x) ∧
    wpAny (model prog w) A (eval it env) (fun x s1 => wpAny (model prog w) A (pyIter x) (fun itv s2 => ∃ W2 items p, Step noOwn s W s2 W2 ∧ Sim h₀ W2 s2 ∧ IterOK prog w A t own0 itv items p s s2 W2 ∧ items.length ≤ 2 * lim ∧ K items p W2.st) E0 s1) E0 s

section
variable {prog : Program} {w : World} {A : Around} {h₀ : Heap} {Γ : Ctx} {k n : Nat}

theorem snd_zero : Snd prog w A h₀ Γ 0 where
  e := fun _ _ _ _ _ _ _ _ _ _ _ h => False.elim h
  es := fun _ _ _ _ _ _ _ _ _ _ _ _ h => False.elim h
  opt := fun _ _ _ _ _ _ _ _ _ _ h => False.elim h
  bool := fun _ _ _ _ _ _ _ _ _ _ _ _ h => False.elim h
  chV := fun _ _ _ _ _ _ _ _ _ _ _ _ _ _ _ h => False.elim h
  chT := fun _ _ _ _ _ _ _ _ _ _ _ _ _ _ _ h => False.elim h
  t := fun _ _ _ _ _ _ _ _ _ _ h => False.elim h
  all := fun _ _ _ _ _ _ _ _ _ _ _ h => False.elim h
  it := fun _ _ _ _ _ _ _ _ _ _ _ _ _ h => False.elim h

theorem dbg_ne {kd : Kd} {own : Addr → Prop} {env : Env} {m : Loc} {W : Wd} {s : Shared} (F : Fram own env kd m W s) {x : Str} (h : kd x ≠ none) : (x == ("__debug__" : Str)) = false := by
  cases q : x == ("__debug__" : Str) with
  | false => rfl
  | true => rw [beq_iff_eq.mp q] at h; exact absurd F.dbg.1 h

theorem ok_global {x : Str} {v : Value} {own : Addr → Prop} {env : Env} {kd : Kd} {m : Loc} {W : Wd} {s : Shared} {E : Value → Shared → Prop} {Q : Value → Shared → Prop} {mg mb : Str → Option Value} {p : Pos} (S : Sim h₀ W s) (F : Fram own env kd m W s) (hg : isGl kd x = true)
    (h1 : h₀.Ns mainGlobals mg) (h2 : h₀.Ns builtinsNs mb) (hv : (mg x).or (mb x) = some v) (h : Q v s) : wpAny (model prog w) A (eval (.Name x p) env) Q E s := by
  have hk : kd x = some .globalImplicit := beq_iff_eq.mp hg
  have up : ∀ b o, h₀.get? b = some o → s.heap.get? b = some o := fun b o e => S.frz b o (S.base b o e)
  refine wpAny_Name ?_ (dbg_ne F (by rw [hk]; exact fun z => nomatch z))
  rw [PyProof.Rows.loadName_read F.fn (F.kE x _ hk (by intro z; cases z))]
  unfold loadGlobal
  rw [F.gl, F.bi]
  refine wpAny_bind (wpAny_nsGet (h1.keeps up) ?_)
  cases q : mg x with
  | some u =>
    rw [q] at hv
    have : u = v := Option.some.inj hv
    subst this
    exact wpAny_pure h
  | none =>
    rw [q] at hv
    have hv' : mb x = some v := hv
    refine wpAny_bind (wpAny_nsGet (h2.keeps up) ?_)
    rw [hv']
    exact wpAny_pure h

theorem snd_es (H : Snd prog w A h₀ Γ n) : ∀ trk kd es m Q own env W s pos, Sim h₀ W s → Fram own env kd m W s → wEs Γ (n + 1) trk kd es m W.st Q → OK prog w A h₀ noOwn (spliced (backTo pos (starEach es env))) W s (VPs Q) := by
  intro trk kd es m Q own env W s pos S F h
  cases es with
  | nil => exact wpAny_items_nil ⟨W, Step.refl _ _, S, [], rfl, h⟩
  | cons e r =>
    simp only [wEs] at h
    refine wpAny_items_cons ?_ (star_cons (not_star h))
    refine wpAny_mono (H.e trk kd e m _ own env W s S F h) (fun v s1 ⟨W1, x1, S1, d, rd, h1⟩ => ?_) fun _ _ e => e
    refine wpAny_mono (H.es trk kd r m _ own env W1 s1 pos S1 (F.step0 S x1) h1) (fun vs s2 ⟨W2, x2, S2, ds, rds, h2⟩ => ?_) fun _ _ e => e
    exact ⟨W2, x1.trans S x2, S2, d :: ds, ⟨v, vs, rfl, x2.rep S1 rd, rds⟩, h2⟩

theorem snd_opt (H : Snd prog w A h₀ Γ n) : ∀ kd e m Q own env W s, Sim h₀ W s → Fram own env kd m W s → wOpt Γ (n + 1) kd e m W.st Q → OK prog w A h₀ noOwn (valueOrNone (evalOpt e env)) W s (VP Q) := by
  intro kd e m Q own env W s S F h
  cases e with
  | none => exact OK.pure S ⟨.none, rfl, h⟩
  | some e => exact H.e _ _ _ _ _ _ _ _ _ S F h

theorem snd_bool (H : Snd prog w A h₀ Γ n) : ∀ op kd es m Q own env W s pos, Sim h₀ W s → Fram own env kd m W s → wBool Γ (n + 1) op kd es m W.st Q → OK prog w A h₀ noOwn (boolOp pos op (evalEach es env)) W s (VP Q) := by
  intro op kd es m Q own env W s pos S F h
  cases es with
  | nil => exact False.elim h
  | cons x r =>
    cases r with
    | nil => exact H.e _ _ _ _ _ _ _ _ _ S F h
    | cons y r =>
      simp only [wBool] at h
      show OK prog w A h₀ noOwn (eval x env >>= fun v => standAt pos >>= fun _ => holding [v] (truthy v) >>= fun t => match op, t with
        | .And, false | .Or, true => pure v
        | _, _ => boolOp pos op (evalEach (y :: r) env)) W s (VP Q)
      refine OK.bind S (H.e _ _ _ _ _ _ _ _ _ S F h) fun v W1 s1 x1 S1 ⟨d, rd, b, hb, h1⟩ => OK.stand ?_
      refine OK.bind S1 (OK.holding (ok_truthy (K := fun c st => c = b ∧ (if stopsAnd op b then Q d st else wBool Γ n op kd (y :: r) m st Q)) S1 rd hb ⟨rfl, h1⟩)) fun c W2 s2 x2 S2 h2 => ?_
      obtain ⟨rfl, h2⟩ := h2
      cases op <;> cases c <;> simp only [stopsAnd, if_true, Bool.false_eq_true, if_false] at h2
      · exact OK.pure S2 ⟨d, x2.rep S1 rd, h2⟩
      · exact H.bool _ _ _ _ _ _ _ _ _ _ S2 ((F.step0 S x1).step0 S1 x2) h2
      · exact H.bool _ _ _ _ _ _ _ _ _ _ S2 ((F.step0 S x1).step0 S1 x2) h2
      · exact OK.pure S2 ⟨d, x2.rep S1 rd, h2⟩

theorem marks_no {trk : Bool} {kd : Kd} {e : Expr} {m : Loc} {st : St} {Q : D → St → Prop} (op : CmpOp) (h : wE Γ n trk kd e m st Q) (t : Sem Value) : markedBehindIn op e t = t := by
  have : behindInMarks op e = false := by
    cases e with
    | Set a b c => cases n <;> exact False.elim h
    | _ => rfl
  unfold markedBehindIn
  rw [this]

theorem snd_chT (a1 : AOk k A) (H : Snd prog w A h₀ Γ n) : ∀ kd a va ops rs m K own env W s pos, Sim h₀ W s → Fram own env kd m W s → Rep W.R W.ρ a va → wChain Γ (n + 1) kd a ops rs m W.st K → OK prog w A h₀ noOwn (testChain pos va ops (markedEach ops rs (evalEach rs env))) W s (BP K) := by
  intro kd a va ops rs m K own env W s pos S F ra h
  cases ops with
  | nil => exact False.elim h
  | cons op ops =>
    cases rs with
    | nil => cases ops <;> exact False.elim h
    | cons r rs =>
      cases ops with
      | nil =>
        cases rs with
        | cons _ _ => exact False.elim h
        | nil =>
          simp only [wChain] at h
          show OK prog w A h₀ noOwn (holding [va] (markedBehindIn op r (eval r env)) >>= fun rv => standAt pos >>= fun _ => operate [va, rv] (compareOp op va rv) >>= fun c => holding [c] (truthy c)) W s (BP K)
          rw [marks_no op h]
          refine OK.bind S (OK.holding (H.e _ _ _ _ _ _ _ _ _ S F h)) fun rv W1 s1 x1 S1 ⟨d, rd, h1⟩ => OK.stand ?_
          refine OK.bind S1 (OK.operate (ok_cmp a1 S1 (x1.rep S ra) rd h1)) fun c W2 s2 x2 S2 h2 => ?_
          obtain ⟨rfl, b, rfl, hk⟩ := h2
          exact OK.holding (ok_truthy (d := .bool b) (b := b) S2 rfl rfl hk)
      | cons o2 ops =>
        cases rs with
        | nil => exact False.elim h
        | cons r2 rs =>
          simp only [wChain] at h
          show OK prog w A h₀ noOwn (holding [va] (eval r env) >>= fun rv => standAt pos >>= fun _ => holding [va, rv] (compareOp op va rv) >>= fun c => release [va, rv] [c] >>= fun _ => holding [c, rv] (truthy c) >>= fun b =>
            if b = true then testChain pos rv (o2 :: ops) (markedEach (o2 :: ops) (r2 :: rs) (evalEach (r2 :: rs) env)) else pure false) W s (BP K)
          refine OK.bind S (OK.holding (H.e _ _ _ _ _ _ _ _ _ S F h)) fun rv W1 s1 x1 S1 ⟨d, rd, h1⟩ => OK.stand ?_
          refine OK.bind S1 (OK.holding (ok_cmp a1 S1 (x1.rep S ra) rd h1)) fun c W2 s2 x2 S2 h2 => ?_
          obtain ⟨rfl, b, rfl, hk⟩ := h2
          refine wpAny_bind (wpAny_release ?_)
          refine OK.bind S2 (OK.holding (ok_truthy (K := fun c st => c = b ∧ (if b = true then wChain Γ n kd d (o2 :: ops) (r2 :: rs) m st K else K false st)) (d := .bool b) (b := b) S2 rfl rfl ⟨rfl, hk⟩)) fun c W3 s3 x3 S3 h3 => ?_
          obtain ⟨rfl, h3⟩ := h3
          refine OK.ite (fun q => ?_) fun q => ?_
          · rw [if_pos q] at h3
            exact H.chT _ _ _ _ _ _ _ _ _ _ _ _ S3 (((F.step0 S x1).step0 S1 x2).step0 S2 x3) (x3.rep S2 (x2.rep S1 rd)) h3
          · rw [if_neg q] at h3
            exact OK.pure S3 h3

theorem snd_chV (a1 : AOk k A) (H : Snd prog w A h₀ Γ n) : ∀ kd a va ops rs m K own env W s pos, Sim h₀ W s → Fram own env kd m W s → Rep W.R W.ρ a va → wChain Γ (n + 1) kd a ops rs m W.st K → OK prog w A h₀ noOwn (compareChain pos va ops (markedEach ops rs (evalEach rs env))) W s (fun v W' _ => ∃ b, v = .bool b ∧ K b W'.st) := by
  intro kd a va ops rs m K own env W s pos S F ra h
  cases ops with
  | nil => exact False.elim h
  | cons op ops =>
    cases rs with
    | nil => cases ops <;> exact False.elim h
    | cons r rs =>
      cases ops with
      | nil =>
        cases rs with
        | cons _ _ => exact False.elim h
        | nil =>
          simp only [wChain] at h
          show OK prog w A h₀ noOwn (holding [va] (markedBehindIn op r (eval r env)) >>= fun rv => standAt pos >>= fun _ => operate [va, rv] (compareOp op va rv)) W s _
          rw [marks_no op h]
          refine OK.bind S (OK.holding (H.e _ _ _ _ _ _ _ _ _ S F h)) fun rv W1 s1 x1 S1 ⟨d, rd, h1⟩ => OK.stand ?_
          refine OK.mono (OK.operate (ok_cmp a1 S1 (x1.rep S ra) rd h1)) fun c W2 s2 x2 S2 h2 => ?_
          obtain ⟨rfl, b, rfl, hk⟩ := h2
          exact ⟨b, rfl, hk⟩
      | cons o2 ops =>
        cases rs with
        | nil => exact False.elim h
        | cons r2 rs =>
          simp only [wChain] at h
          show OK prog w A h₀ noOwn (holding [va] (eval r env) >>= fun rv => standAt pos >>= fun _ => holding [va, rv] (compareOp op va rv) >>= fun c => release [va, rv] [c] >>= fun _ => holding [c, rv] (truthy c) >>= fun b =>
            if b = true then compareChain pos rv (o2 :: ops) (markedEach (o2 :: ops) (r2 :: rs) (evalEach (r2 :: rs) env)) else pure c) W s _
          refine OK.bind S (OK.holding (H.e _ _ _ _ _ _ _ _ _ S F h)) fun rv W1 s1 x1 S1 ⟨d, rd, h1⟩ => OK.stand ?_
          refine OK.bind S1 (OK.holding (ok_cmp a1 S1 (x1.rep S ra) rd h1)) fun c W2 s2 x2 S2 h2 => ?_
          obtain ⟨rfl, b, rfl, hk⟩ := h2
          refine wpAny_bind (wpAny_release ?_)
          refine OK.bind S2 (OK.holding (ok_truthy (K := fun c st => c = b ∧ (if b = true then wChain Γ n kd d (o2 :: ops) (r2 :: rs) m st K else K false st)) (d := .bool b) (b := b) S2 rfl rfl ⟨rfl, hk⟩)) fun c W3 s3 x3 S3 h3 => ?_
          obtain ⟨rfl, h3⟩ := h3
          refine OK.ite (fun q => ?_) fun q => ?_
          · rw [if_pos q] at h3
            exact H.chV _ _ _ _ _ _ _ _ _ _ _ _ S3 (((F.step0 S x1).step0 S1 x2).step0 S2 x3) (x3.rep S2 (x2.rep S1 rd)) h3
          · rw [if_neg q] at h3
            refine OK.pure S3 ⟨_, rfl, ?_⟩
            have : c = false := by cases c <;> simp at q ⊢
            rw [this]; exact h3

theorem snd_all (H : Snd prog w A h₀ Γ n) : ∀ op kd es m K own env W s, Sim h₀ W s → Fram own env kd m W s → wAll Γ (n + 1) op kd es m W.st K → OK prog w A h₀ noOwn (allTrue op es env) W s (BP K) := by
  intro op kd es m K own env W s S F h
  cases es with
  | nil => exact OK.pure S h
  | cons x r =>
    simp only [wAll] at h
    rw [arm_allTrue_cons]
    refine OK.bind S (H.t _ _ _ _ _ _ _ _ S F h) fun b W1 s1 x1 S1 h1 => ?_
    have h1' : if stopsAnd op b = true then K b W1.st else wAll Γ n op kd r m W1.st K := h1
    cases op <;> cases b <;> simp only [stopsAnd, if_true, Bool.false_eq_true, if_false] at h1'
    · exact OK.pure S1 h1'
    · exact H.all _ _ _ _ _ _ _ _ _ S1 (F.step0 S x1) h1'
    · exact H.all _ _ _ _ _ _ _ _ _ S1 (F.step0 S x1) h1'
    · exact OK.pure S1 h1'

theorem snd_plain (H : Snd prog w A h₀ Γ n) {kd : Kd} {e : Expr} {m : Loc} {K : Bool → St → Prop} {own : Addr → Prop} {env : Env} {W : Wd} {s : Shared} (S : Sim h₀ W s) (F : Fram own env kd m W s)
    (h : wE Γ n false kd e m W.st fun d st1 => ∃ b, truth d = some b ∧ K b st1) : OK prog w A h₀ noOwn (eval e env >>= fun v => standAt e.pos >>= fun _ => holding [v] (truthy v)) W s (BP K) := by
  refine OK.bind S (H.e _ _ _ _ _ _ _ _ _ S F h) fun v W1 s1 x1 S1 ⟨d, rd, b, hb, h1⟩ => OK.stand (OK.holding (ok_truthy S1 rd hb h1))

theorem snd_t (H : Snd prog w A h₀ Γ n) : ∀ kd e m K own env W s, Sim h₀ W s → Fram own env kd m W s → wT Γ (n + 1) kd e m W.st K → OK prog w A h₀ noOwn (isTrue e env (eval e env)) W s (BP K) := by
  intro kd e m K own env W s S F h
  cases e with
  | UnaryOp op x p =>
    cases op with
    | Not =>
      simp only [wT] at h
      rw [arm_isTrue_UnaryOp]
      exact OK.bind S (H.t _ _ _ _ _ _ _ _ S F h) fun b W1 s1 x1 S1 h1 => OK.pure S1 h1
    | _ => simp only [wT] at h; exact snd_plain H S F h
  | BoolOp op es p => simp only [wT] at h; rw [arm_isTrue_BoolOp]; exact H.all _ _ _ _ _ _ _ _ _ S F h
  | IfExp => exact False.elim h
  | Compare l ops rs p =>
    simp only [wT] at h
    rw [arm_isTrue_Compare]
    exact OK.bind S (H.e _ _ _ _ _ _ _ _ _ S F h) fun va W1 s1 x1 S1 ⟨d, rd, h1⟩ => H.chT _ _ _ _ _ _ _ _ _ _ _ _ S1 (F.step0 S x1) rd h1
  | _ => simp only [wT] at h; exact snd_plain H S F h
end
end Mine
end

section
set_option autoImplicit false
set_option linter.unusedVariables false
namespace Mine
open PySem

section
variable {prog : Program} {w : World} {A : Around} {h₀ : Heap} {Γ : Ctx} {k n : Nat}

theorem star_of {e : Expr} (h : (!isStarE e) = true) : ∀ x p, e ≠ .Starred x p := by rintro x p rfl; cases h

theorem plain_args {env : Env} {pos : Pos} : ∀ {es : List Expr}, noStars es = true → (backTo pos (starEach es env)).any (·.1) = false
  | [], _ => rfl
  | e :: r, h => by
    unfold noStars at h
    rw [List.all_cons, Bool.and_eq_true] at h
    rw [back_cons (star_of h.1), List.any_cons, plain_args (es := r) h.2]; rfl

theorem ok_args (H : Snd prog w A h₀ Γ n) {kd : Kd} {es : List Expr} {m : Loc} {Q' : List D → St → Prop} {own : Addr → Prop} {env : Env} {W : Wd} {s : Shared} {f : Value} {pos : Pos} {Q : Args → Shared → Prop}
    (hs : noStars es = true) (S : Sim h₀ W s) (F : Fram own env kd m W s) (h : wEs Γ n false kd es m W.st Q')
    (hQ : ∀ vs s1, Fin' h₀ noOwn s W (VPs Q') vs s1 → Q ⟨vs, []⟩ s1) : wpAny (model prog w) A (evalArgs f true (backTo pos (starEach es env)) []) Q E0 s := by
  cases es with
  | nil =>
    cases n with
    | zero => exact False.elim h
    | succ n => exact PySem.evalArgs_none (hQ [] s ⟨W, Step.refl _ _, S, [], rfl, h⟩)
  | cons e r =>
    have hs' := hs
    unfold noStars at hs'
    rw [List.all_cons, Bool.and_eq_true] at hs'
    have hh := H.es _ _ _ _ _ _ _ _ _ pos S F h
    unfold OK at hh
    rw [back_cons (star_of hs'.1)] at hh ⊢
    exact Calls.evalArgs_plain (wpAny_mono hh (fun vs s1 h1 => hQ vs s1 h1) fun _ _ e => e)

noncomputable def FvOK (h₀ : Heap) (v : Value) : Prop := (∃ a o fd, v = .ref a ∧ h₀.get? a = some o ∧ o.data = .func fd) ∨ (∃ T, v = .type T) ∨ ∃ id, v = .builtin id

theorem ok_call (H : Snd prog w A h₀ Γ n) {kd : Kd} {es : List Expr} {x : Str} {m : Loc} {Q' : List D → St → Prop} {own : Addr → Prop} {env : Env} {W : Wd} {s : Shared} {fv : Value} {p pos : Pos} {Q : Value → Shared → Prop} {mg mb : Str → Option Value}
    (hs : noStars es = true) (S : Sim h₀ W s) (F : Fram own env kd m W s) (hg : isGl kd x = true) (h1 : h₀.Ns mainGlobals mg) (h2 : h₀.Ns builtinsNs mb) (hv : (mg x).or (mb x) = some fv) (hfv : FvOK h₀ fv)
    (h : wEs Γ n false kd es m W.st Q')
    (hk : ∀ vs ds W1 s1, Step noOwn s W s1 W1 → Sim h₀ W1 s1 → RepAll W1.R W1.ρ ds vs → Q' ds W1.st → wpAny (model prog w) A (call fv vs) Q E0 s1) :
    wpAny (model prog w) A (eval (.Call (.Name x p) es [] pos) env) Q E0 s := by
  rw [arm_eval_Call_Name']
  refine wpAny_bind (ok_global S F hg h1 h2 hv ?_)
  show wpAny _ _ (callWith pos fv [] (backTo pos (starEach es env)) []) _ _ _
  have fin : ∀ vs s1, Fin' h₀ noOwn s W (VPs Q') vs s1 → wpAny (model prog w) A (call fv vs) Q E0 s1 := fun vs s1 ⟨W1, x1, S1, ds, rds, q⟩ => hk vs ds W1 s1 x1 S1 rds q
  rcases hfv with ⟨a, o, fd, rfl, ho, hd⟩ | ⟨T, rfl⟩ | ⟨id, rfl⟩
  · refine Calls.callWith_function (o := o) (fd := fd) (ok_args H hs S F h fun vs s1 q => ⟨⟨?_, hd⟩, fin vs s1 q⟩)
    obtain ⟨W1, _, S1, _⟩ := q
    exact S1.frz _ _ (S1.base _ _ ho)
  · exact PySem.callWith_type (plain_args hs) (ok_args H hs S F h fun vs s1 q => fin vs s1 q)
  · exact Calls.callWith_builtin (plain_args hs) (ok_args H hs S F h fun vs s1 q => fin vs s1 q)

theorem blt_of {trk : Bool} {f : Str} {ds : List D} {st : St} {Q : D → St → Prop} (h : wBuiltin trk f ds st Q) : ∃ fv, bltV f = some fv ∧ FvOK h₀ fv := by
  unfold wBuiltin at h
  unfold bltV
  by_cases e : f = "len"
  · rw [if_pos e]; exact ⟨_, rfl, .inr (.inr ⟨_, rfl⟩)⟩
  rw [if_neg e] at h ⊢
  by_cases e : f = "isinstance"
  · rw [if_pos e]; exact ⟨_, rfl, .inr (.inr ⟨_, rfl⟩)⟩
  rw [if_neg e] at h ⊢
  by_cases e : f = "list"
  · rw [if_pos e]; exact ⟨_, rfl, .inr (.inl ⟨_, rfl⟩)⟩
  rw [if_neg e] at h ⊢
  by_cases e : f = "tuple"
  · rw [if_pos e]; exact ⟨_, rfl, .inr (.inl ⟨_, rfl⟩)⟩
  rw [if_neg e] at h ⊢
  by_cases e : f = "min"
  · rw [if_pos e]; exact ⟨_, rfl, .inr (.inr ⟨_, rfl⟩)⟩
  rw [if_neg e] at h ⊢
  by_cases e : f = "max"
  · rw [if_pos e]; exact ⟨_, rfl, .inr (.inr ⟨_, rfl⟩)⟩
  rw [if_neg e] at h ⊢
  by_cases e : f = "sum"
  · rw [if_pos e]; exact ⟨_, rfl, .inr (.inr ⟨_, rfl⟩)⟩
  rw [if_neg e] at h
  exact h.elim

theorem iterD_inv {d : D} {st : St} {K : List D → (Nat → Bool) → Prop} (h : wIterD d st K) : ∃ xs, seqD st d = some xs ∧ K xs (pinOf d) := by
  cases d with
  | loc n => obtain ⟨xs, hc, hk⟩ := h; exact ⟨xs, by simp only [seqD, hc], hk⟩
  | _ => exact h

theorem it_val {kd : Kd} {t : Expr} {K : List D → (Nat → Bool) → St → Prop} {own0 : Addr → Prop} {W W1 : Wd} {s s1 : Shared} {d : D} {v : Value} (a1 : AOk k A) (S : Sim h₀ W s) (O : OwnOK own0 s W) (x1 : Step noOwn s W s1 W1) (S1 : Sim h₀ W1 s1)
    (rd : Rep W1.R W1.ρ d v) (h : wIterD d W1.st fun xs p => xs.length ≤ lim ∧ K xs p W1.st) :
    wpAny (model prog w) A (pyIter v) (fun itv s2 => ∃ W2 items p, Step noOwn s W s2 W2 ∧ Sim h₀ W2 s2 ∧ IterOK prog w A t own0 itv items p s s2 W2 ∧ items.length ≤ 2 * lim ∧ K items p W2.st) E0 s1 := by
  obtain ⟨xs, hx, hl, hk⟩ := iterD_inv h
  refine wpAny_mono (iter_seq (target := t) (own := own0) a1 S1 x1 (O.at x1) rd hx) (fun itv s2 h2 => ?_) fun _ _ e => e
  obtain ⟨W2, x2, S2, rfl, I⟩ := h2
  exact ⟨_, xs, _, x1.trans S x2, S2, I, by omega, hk⟩

theorem len_range {i j : Int} (h1 : i ≤ lim) (h2 : -lim ≤ i) (h3 : j ≤ lim) (h4 : -lim ≤ j) : (rangeL i j).length ≤ 2 * lim := by
  rw [range_len]; omega

theorem snd_it (a1 : AOk k A) (C : CtxOK prog w h₀ k Γ) (H : Snd prog w A h₀ Γ n) : ∀ kd t it m K own own0 env W s, Sim h₀ W s → Fram own env kd m W s → OwnOK own0 s W → wIter Γ (n + 1) kd t it m W.st K → (∀ x, foldedSetIterable it env x = pure x) ∧
    wpAny (model prog w) A (eval it env) (fun x s1 => wpAny (model prog w) A (pyIter x) (fun itv s2 => ∃ W2 items p, Step noOwn s W s2 W2 ∧ Sim h₀ W2 s2 ∧ IterOK prog w A t own0 itv items p s s2 W2 ∧ items.length ≤ 2 * lim ∧ K items p W2.st) E0 s1) E0 s := by
  intro kd t it m K own own0 env W s S F O h
  have gen : wE Γ n false kd it m W.st (fun d st1 => wIterD d st1 fun xs p => xs.length ≤ lim ∧ K xs p st1) → wpAny (model prog w) A (eval it env) (fun x s1 => wpAny (model prog w) A (pyIter x) (fun itv s2 => ∃ W2 items p, Step noOwn s W s2 W2 ∧ Sim h₀ W2 s2 ∧ IterOK prog w A t own0 itv items p s s2 W2 ∧ items.length ≤ 2 * lim ∧ K items p W2.st) E0 s1) E0 s := fun h => by
    refine wpAny_mono (H.e _ _ _ _ _ _ _ _ _ S F h) (fun v s1 ⟨W1, x1, S1, d, rd, h1⟩ => ?_) fun _ _ e => e
    exact it_val (kd := kd) a1 S O x1 S1 rd h1
  obtain ⟨mg, mb, hmg, hmb, hgl, hfn, hbl⟩ := C.ns
  have main : ∀ f p args pos, it = .Call (.Name f p) args [] pos → (if f = "zip" ∨ f = "range" ∨ f = "enumerate" then isGl kd f = true ∧ noStars args = true ∧ Γ.fn f = none ∧ wEs Γ n false kd args m W.st (fun ds st1 => iterCall t f ds st1 fun xs p => K xs p st1)
        else wE Γ n false kd it m W.st fun d st1 => wIterD d st1 fun xs p => xs.length ≤ lim ∧ K xs p st1) → wpAny (model prog w) A (eval it env) (fun x s1 => wpAny (model prog w) A (pyIter x) (fun itv s2 => ∃ W2 items p, Step noOwn s W s2 W2 ∧ Sim h₀ W2 s2 ∧ IterOK prog w A t own0 itv items p s s2 W2 ∧ items.length ≤ 2 * lim ∧ K items p W2.st) E0 s1) E0 s := by
    clear h
    intro f p args pos hit h
    by_cases hfn : (f = "zip" ∨ f = "range" ∨ f = "enumerate")
    · rw [if_pos hfn] at h
      subst hit
      obtain ⟨hg, hns, hf, h⟩ := h
      by_cases e : f = "zip"
      · subst e
        obtain ⟨g1, g2⟩ := hbl _ (.type "zip") hf (by decide +kernel)
        refine ok_call (fv := .type "zip") H hns S F hg hmg hmb (by rw [g1, g2]; rfl) (.inr (.inl ⟨_, rfl⟩)) h fun vs ds W1 s1 x1 S1 rds q => ?_
        have q' : iterCall t "zip" ds W1.st fun xs p => K xs p W1.st := q
        unfold iterCall at q'
        rw [if_pos rfl] at q'
        obtain ⟨ht, a, b, xs, ys, rfl, hx, hy, hlx, hly, hk⟩ := q'
        obtain ⟨va, vb, rfl, ra, rb⟩ := reps2 rds
        refine wpAny_mono (iter_zip (target := t) (own := own0) a1 S1 x1 (O.at x1) ht ra hx rb hy) (fun z s2 ⟨W2, x2, S2, e2, h2⟩ => ?_) fun _ _ e => e
        subst e2
        refine wpAny_mono h2 (fun itv s3 ⟨W3, x3, S3, e3, I⟩ => ?_) fun _ _ e => e
        subst e3
        refine ⟨_, _, _, (x1.trans S x2).trans S x3, S3, I, ?_, hk⟩
        simp only [zipL, List.length_map, List.length_zip]
        omega
      by_cases e' : f = "range"
      · subst e'
        obtain ⟨g1, g2⟩ := hbl _ (.type "range") hf (by decide +kernel)
        refine ok_call (fv := .type "range") H hns S F hg hmg hmb (by rw [g1, g2]; rfl) (.inr (.inl ⟨_, rfl⟩)) h fun vs ds W1 s1 x1 S1 rds q => ?_
        have q' : iterCall t "range" ds W1.st fun xs p => K xs p W1.st := q
        unfold iterCall at q'
        rw [if_neg (by decide +kernel), if_neg (by decide +kernel), if_pos rfl] at q'
        have l0 : (0 : Int) ≤ lim := by decide
        have l1 : -(lim : Int) ≤ 0 := by decide
        rcases q' with ⟨i, rfl, h1, h2, hk⟩ | ⟨i, j, rfl, h1, h2, h3, h4, hk⟩
        · obtain ⟨va, rfl, ⟨t', rfl⟩⟩ := reps1 rds
          refine call_range_1 ?_
          obtain ⟨st, sm⟩ := S1.grow (own := noOwn) (tk := s1.toks + 1 + 1) (h' := s1.heap.push { cls := .type "range", data := .fields #[.int 0 s1.toks, .int i t', .int 1 (s1.toks + 1)] }) (fun b o e => Heap.get?_push_of_some _ e)
          have x2 := x1.trans S st
          refine wpAny_mono (iter_range (target := t) (own := own0) (a := 0) (b := i) a1 sm x2 (O.at x2) l0 l1 h1 h2 (Heap.get?_push_size _ rfl)) (fun itv s3 ⟨W3, x3, S3, e3, I⟩ => ?_) fun _ _ e => e
          subst e3
          exact ⟨_, _, _, x2.trans S x3, S3, I, len_range l0 l1 h1 h2, hk⟩
        · obtain ⟨va, vb, rfl, ⟨t', rfl⟩, ⟨u', rfl⟩⟩ := reps2 rds
          refine call_range_2 ?_
          obtain ⟨st, sm⟩ := S1.grow (own := noOwn) (tk := s1.toks + 1) (h' := s1.heap.push { cls := .type "range", data := .fields #[.int i t', .int j u', .int 1 s1.toks] }) (fun b o e => Heap.get?_push_of_some _ e)
          have x2 := x1.trans S st
          refine wpAny_mono (iter_range (target := t) (own := own0) (a := i) (b := j) a1 sm x2 (O.at x2) h1 h2 h3 h4 (Heap.get?_push_size _ rfl)) (fun itv s3 ⟨W3, x3, S3, e3, I⟩ => ?_) fun _ _ e => e
          subst e3
          exact ⟨_, _, _, x2.trans S x3, S3, I, len_range h1 h2 h3 h4, hk⟩
      · have e3 : f = "enumerate" := by
          rcases hfn with q | q | q
          · exact absurd q e
          · exact absurd q e'
          · exact q
        subst e3
        obtain ⟨g1, g2⟩ := hbl _ (.type "enumerate") hf (by decide +kernel)
        refine ok_call (fv := .type "enumerate") H hns S F hg hmg hmb (by rw [g1, g2]; rfl) (.inr (.inl ⟨_, rfl⟩)) h fun vs ds W1 s1 x1 S1 rds q => ?_
        have q' : iterCall t "enumerate" ds W1.st fun xs p => K xs p W1.st := q
        unfold iterCall at q'
        rw [if_neg (by decide +kernel), if_pos rfl] at q'
        obtain ⟨ht, a, xs, rfl, hx, hlx, hk⟩ := q'
        obtain ⟨va, rfl, ra⟩ := reps1 rds
        refine wpAny_mono (iter_enum (target := t) (own := own0) a1 S1 x1 (O.at x1) ht ra hx) (fun z s2 ⟨W2, x2, S2, e2, h2⟩ => ?_) fun _ _ e => e
        subst e2
        refine wpAny_mono h2 (fun itv s3 ⟨W3, x3, S3, e3, I⟩ => ?_) fun _ _ e => e
        subst e3
        refine ⟨_, _, _, (x1.trans S x2).trans S x3, S3, I, ?_, hk⟩
        simp only [enumL, List.length_map, List.length_zipIdx]
        omega
    · rw [if_neg hfn] at h; exact gen h
  cases it with
  | Set => exact False.elim h
  | Call f args kws pos =>
    refine ⟨fun _ => rfl, ?_⟩
    cases f with
    | Name x p =>
      cases kws with
      | nil => simp only [wIter] at h; exact main x p args pos rfl h
      | cons _ _ => simp only [wIter] at h; exact gen h
    | _ => simp only [wIter] at h; exact gen h
  | _ => exact ⟨fun _ => rfl, by simp only [wIter] at h; exact gen h⟩
end
end Mine
end

section
set_option autoImplicit false
set_option linter.unusedVariables false
namespace Mine
open PySem

section
variable {prog : Program} {w : World} {A : Around} {h₀ : Heap} {Γ : Ctx} {k n : Nat}

theorem part_is {R : Addr → Option Obj} {ρ : Nat → Option Addr} {d : D} {v : Value} {o : Option Int} (h : part d = some o) (r : Rep R ρ d v) : IsPart v o := by
  cases d with
  | none => have e : v = .none := r; subst e; cases h; exact .none
  | int i => obtain ⟨t, rfl⟩ := r; cases h; exact .int i t
  | _ => simp [part] at h

theorem pick_arr (vs : List Value) (lo hi sp : Option Int) : slicePick vs.toArray lo hi sp = (pickL vs lo hi sp).toArray := by
  unfold slicePick pickL
  simp

theorem adjust_upto (b n : Nat) (hb : b ≤ n) : Builtin.Slice.sliceAdjust none (some (b : Int)) 1 (n : Int) = ((0 : Int), (b : Int)) := by
  unfold Builtin.Slice.sliceAdjust
  have h1 : ¬ ((1 : Int) < 0) := by omega
  have h2 : ¬ ((b : Int) < 0) := by omega
  simp only [h1, h2, if_false]
  congr 1
  omega
theorem places_upto (b : Nat) : Builtin.Slice.slicePlaces (0 : Int) (b : Int) 1 = b := by
  unfold Builtin.Slice.slicePlaces
  have h1 : (1 : Int) > 0 := by omega
  simp only [h1, if_true, Int.ediv_one]
  split <;> omega
theorem sliceApplied_upto {E : Value → Shared → Prop} {s : Shared} {sl : Addr} {b n : Nat} {u : Tok} {Q : Int × Int × Nat → Shared → Prop} (hs : s.heap.IsSliceOf sl .none (.int b u) .none) (hb : b ≤ n) (h : Q ((0 : Int), 1, b) s) :
    wpAny (model prog w) A (Builtin.Slice.sliceApplied (.ref sl) (pure (n : Int))) Q E s := by
  obtain ⟨os, hos, hcs, hds⟩ := id hs
  unfold Builtin.Slice.sliceApplied Builtin.Slice.sliceFields
  refine wpAny_bind (wpAny_bind (wpAny_field hos hds (x := .none) rfl (wpAny_bind (wpAny_field hos hds (x := .int b u) rfl (wpAny_bind (wpAny_field hos hds (x := .none) rfl (wpAny_pure ?_)))))))
  refine wpAny_bind (PyProof.Rows.slicePart_none ?_)
  show wpAny _ _ (if ((1 : Int) == 0) = true then _ else _) _ _ s
  rw [if_neg (by decide)]
  refine wpAny_bind (PyProof.Rows.slicePart_none (wpAny_bind (PyProof.Rows.slicePart_int (wpAny_bind (wpAny_pure ?_)))))
  show wpAny _ _ (match Builtin.Slice.sliceAdjust none (some (b : Int)) 1 (n : Int) with | (lo, hi) => pure (lo, (1 : Int), Builtin.Slice.slicePlaces lo hi 1)) _ _ s
  rw [adjust_upto b n hb]
  show wpAny _ _ (pure ((0 : Int), (1 : Int), Builtin.Slice.slicePlaces (0 : Int) (b : Int) 1)) _ _ s
  rw [places_upto b]
  exact wpAny_pure h
theorem pick_upto (vs : List Value) (b : Nat) (hb : b ≤ vs.length) : ((List.range b).filterMap fun (k : Nat) => vs.toArray[((0 : Int) + (k : Int) * 1).toNat]?).toArray = (vs.take b).toArray := by
  congr 1
  have e : (fun (k : Nat) => vs.toArray[((0 : Int) + (k : Int) * 1).toNat]?) = fun k : Nat => vs[k]? := by
    funext k
    have : ((0 : Int) + (k : Int) * 1).toNat = k := by omega
    rw [this]; simp
  rw [e]
  induction b with
  | zero => simp
  | succ b ih =>
    rw [List.range_succ, List.filterMap_append, ih (by omega), List.take_add_one]
    have : b < vs.length := by omega
    simp [this]
theorem getItem_tuple_upto {E : Value → Shared → Prop} {s : Shared} {t sl : Addr} {vs : List Value} {nn : Nat} {b : Nat} {u : Tok} {Q : Value → Shared → Prop} (ht : s.heap.get? t = some (tupO vs nn)) (hs : s.heap.IsSliceOf sl .none (.int b u) .none) (hb : b < vs.length)
    (h : Q (.ref s.heap.objs.size) { s with heap := s.heap.push (tupO (vs.take b) 0) })
    (hsz : vs.length ≤ lim) : wpAny (model prog w) A (getItem (.ref t) (.ref sl)) Q E s := by
  have htu : PyProof.Rows.IsTup s.heap t vs.toArray := ⟨_, ht, rfl, nn, rfl⟩
  have hdrop : sizeOk (.seq (vs.take b).toArray) := by
    show (vs.take b).toArray.size ≤ sizeLine
    rw [List.size_toArray, List.length_take]
    have : lim ≤ sizeLine := le_line (Nat.le_refl _)
    omega
  obtain ⟨os, hos, hcs, hds⟩ := id hs
  have hTs : s.TypeIs (.ref sl) "slice" := ⟨os, hos, hcs⟩
  unfold getItem
  try with_reducible refine wpAny_holding ?_
  first | refine wpAny_bind (wpAny_pure ?_) | skip
  refine wpAny_bind (wpAny_sequenceKey htu.typeIs (by decide) ?_)
  refine wpAny_bind (wpAny_callSpecial?_slot (name := Str.ofString "__getitem__") htu.typeIs PyProof.Rows.slot_tuple_getitem
    (wpAny_call_entry PyProof.Rows.slot_tuple_getitem htu.typeIs PyProof.Rows.entry_tuple_getitem ?_ (PyProof.Rows.args_tuple_getitem _ _)))
  show wpAny _ _ (Builtin.Tuple.tupleItemsOf (.ref t) >>= _) _ _ s
  refine wpAny_bind (PyProof.Rows.tupleItemsOf_ htu ?_)
  refine wpAny_bind (wpAny_typeOf hTs ?_)
  rw [if_pos (by decide)]
  refine wpAny_bind (sliceApplied_upto hs (by rw [List.size_toArray]; omega) ?_)
  have hno : ¬ (((0 : Int) == 0 && (1 : Int) == 1 && b == vs.toArray.size) = true) := by
    have : (b == vs.toArray.size) = false := by rw [beq_eq_false_iff_ne, List.size_toArray]; omega
    rw [this]; simp
  show wpAny _ _ (if ((0 : Int) == 0 && (1 : Int) == 1 && b == vs.toArray.size) = true then _ else _) _ _ s
  rw [if_neg hno, pick_upto vs b (by omega)]
  first
    | exact wpAny_bind (m := Builtin.Tuple.tupleExact _) (wpAny_newObj_type (wpAny_pure ⟨_, rfl, wpAny_pure h⟩) hdrop)
    | exact wpAny_bind (m := Builtin.Tuple.tupleExact _) (wpAny_newObj_type (wpAny_bind (wpAny_pure (wpAny_pure ⟨_, rfl, wpAny_pure h⟩))) hdrop)
    | exact wpAny_bind (wpAny_bind (m := Builtin.Tuple.tupleExact _) (wpAny_newObj_type (wpAny_pure (wpAny_pure ⟨_, rfl, wpAny_pure h⟩)) hdrop))
    | exact wpAny_bind (wpAny_bind (m := Builtin.Tuple.tupleExact _) (wpAny_newObj_type (wpAny_pure ⟨_, rfl, wpAny_pure h⟩) hdrop))

theorem RepAll.drop {R : Addr → Option Obj} {ρ : Nat → Option Addr} : ∀ (a : Nat) {ds : List D} {vs : List Value}, RepAll R ρ ds vs → RepAll R ρ (ds.drop a) (vs.drop a)
  | 0, _, _, h => h
  | a + 1, [], vs, h => by have e : vs = [] := h; subst e; exact h
  | a + 1, d :: ds, vs, h => by
    obtain ⟨v, r, rfl, _, h2⟩ := h
    exact RepAll.drop a h2
theorem RepAll.take {R : Addr → Option Obj} {ρ : Nat → Option Addr} : ∀ (a : Nat) {ds : List D} {vs : List Value}, RepAll R ρ ds vs → RepAll R ρ (ds.take a) (vs.take a)
  | 0, _, _, _ => rfl
  | a + 1, [], vs, h => by have e : vs = [] := h; subst e; exact h
  | a + 1, d :: ds, vs, h => by
    obtain ⟨v, r, rfl, h1, h2⟩ := h
    exact ⟨v, r.take a, rfl, h1, RepAll.take a h2⟩

theorem sub_ops (l u sp : Option Expr) (p : Pos) (a b : Addr) : ∃ ops, subscripted (.Slice l u sp p) false (.ref a) (.ref b) = operate ops (getItem (.ref a) (.ref b)) := by
  cases sp with
  | none => exact ⟨_, rfl⟩
  | some _ => exact ⟨_, rfl⟩
theorem ok_slice {trk : Bool} {value : Expr} {l u sp : Option Expr} {p : Pos} {d a b c : D} {vd va vb vc : Value} {W : Wd} {s : Shared} {Q : D → St → Prop} (S : Sim h₀ W s) (rd : Rep W.R W.ρ d vd) (ra : Rep W.R W.ρ a va) (rb : Rep W.R W.ρ b vb) (rc : Rep W.R W.ρ c vc)
    (h : wSlice trk d a b c W.st Q) {s' : Shared} (hs' : s' = { s with heap := s.heap.push { cls := .type "slice", data := .fields #[va, vb, vc] } }) :
    wpAny (model prog w) A (PyProof.Rows.subscriptTail value (.Slice l u sp p) vd (.ref s.heap.objs.size)) (Fin' h₀ noOwn s W (VP Q)) E0 s' := by
  subst hs'
  obtain ⟨lo, hi, st, hl, hu, hs, h0, h⟩ := h
  have pl := part_is hl ra
  have pu := part_is hu rb
  have ps := part_is hs rc
  by_cases hT : ∃ ys, d = .tup ys
  · obtain ⟨ys, rfl⟩ := hT
    obtain ⟨rfl, hlen, h⟩ := h
    cases ps
    obtain ⟨a', vs, n', rfl, hg, hr⟩ := S.tup rd
    have hg' : (s.heap.push { cls := .type "slice", data := .fields #[va, vb, .none] }).get? a' = some (tupO vs n') := Heap.get?_push_of_some _ hg
    have hT : PyProof.Rows.IsTup (s.heap.push { cls := .type "slice", data := .fields #[va, vb, .none] }) a' vs.toArray := ⟨_, hg', rfl, n', rfl⟩
    obtain ⟨ops, e1⟩ := sub_ops l u sp p a' s.heap.objs.size
    rcases h with ⟨i, rfl, rfl, h1, h2, hq⟩ | ⟨i, rfl, rfl, h2, hq⟩
    · cases pl; cases pu
      refine PyProof.Rows.tail_any (T := "tuple") hT.typeIs PyProof.Rows.slot_tuple_getitem.lookup (PyProof.Rows.getItem_tuple_from hT (Heap.IsSliceOf.new ..) h1 (by rw [List.size_toArray, hr.length]; exact h2) ?_ (by rw [List.size_toArray, hr.length]; exact le_line hlen)) e1
      refine done_tup (n := 0) (tk := s.toks) (vs := vs.drop i) S (fun b o e => Heap.get?_push_of_some _ (Heap.get?_push_of_some _ e)) (dead_ge ?_) (Heap.get?_push_size _ rfl) (RepAll.drop i hr) hq
      rw [Heap.size_push]; exact Nat.le_succ _
    · cases pl; cases pu
      refine PyProof.Rows.tail_any (T := "tuple") hT.typeIs PyProof.Rows.slot_tuple_getitem.lookup (getItem_tuple_upto hg' (Heap.IsSliceOf.new ..) (by rw [hr.length]; exact h2) ?_ (by rw [hr.length]; exact hlen)) e1
      refine done_tup (n := 0) (tk := s.toks) (vs := vs.take i) S (fun b o e => Heap.get?_push_of_some _ (Heap.get?_push_of_some _ e)) (dead_ge ?_) (Heap.get?_push_size _ rfl) (RepAll.take i hr) hq
      rw [Heap.size_push]; exact Nat.le_succ _
  have hd : ∃ xs, lstD W.st d = some xs ∧ xs.length ≤ lim ∧ mkList trk (pickL xs lo hi st) W.st Q := by
    cases d <;> first | exact h | exact absurd ⟨_, rfl⟩ hT
  obtain ⟨xs, hx, hlen, hm⟩ := hd
  obtain ⟨a', vs, n', rfl, hg, hr⟩ := S.lst rd hx
  have hg' : (s.heap.push { cls := .type "slice", data := .fields #[va, vb, vc] }).get? a' = some (lstO vs n') := Heap.get?_push_of_some _ hg
  have hL : (s.heap.push { cls := .type "slice", data := .fields #[va, vb, vc] }).IsList a' vs.toArray := ⟨_, hg', rfl, n', rfl⟩
  obtain ⟨ops, e1⟩ := sub_ops l u sp p a' s.heap.objs.size
  refine PyProof.Rows.tail_any (T := "list") hL.typeIs slot_list_getitem.lookup (wpAny_getItem_list_slice hL (Heap.IsSliceOf.new ..) pl pu ps h0 ?_ (by rw [List.size_toArray, hr.length]; exact le_line hlen)) e1
  rw [pick_arr]
  refine done_list (n := 0) (tk := s.toks) (vs := pickL vs lo hi st) S (fun b o e => Heap.get?_push_of_some _ (Heap.get?_push_of_some _ e)) (dead_ge ?_) (Heap.get?_push_size _ rfl) ?_ hm
  · rw [Heap.size_push]; exact Nat.le_succ _
  · have := hr.nth (sliceRange (sliceBounds lo hi st xs.length).1 (sliceBounds lo hi st xs.length).2.1 (sliceBounds lo hi st xs.length).2.2) id
    unfold pickL
    rw [hr.length]
    exact this

theorem snd_comp (a1 : AOk k A) (H : Snd prog w A h₀ Γ n) {trk : Bool} {t elt : Expr} {ifs : List Expr} {scope : Scope} {m : Loc} :
    CompStep prog w A h₀ scope m t elt ifs (fun d st2 k => wTarget (fun x => scope.names.lookup x) t d (fun x => if scope.names.lookup x = some .free then m x else none) fun m1 =>
          match ifs with
          | [] => wE Γ n trk (fun x => scope.names.lookup x) elt m1 st2 fun x st4 => k (some x) st4
          | [c] => wT Γ n (fun x => scope.names.lookup x) c m1 st2 fun b st3 => if b then wE Γ n trk (fun x => scope.names.lookup x) elt m1 st3 fun x st4 => k (some x) st4 else k none st3
          | _ => False) := by
  intro own' cenv d W s v K S F rd h
  refine wpAny_mono (ok_target a1 S F rd h) (fun _ s1 ⟨W1, x1, S1, e1, m', h1, F1, hm'⟩ => ?_) fun _ _ e => e
  subst e1
  have back : ∀ {W2 s2}, Fram own' cenv (compK scope) m' W2 s2 → Fram own' cenv (compK scope) (compM scope m) W2 s2 := fun F2 => F2.forget fun x d hx => by
    have hx' : (if scope.names.lookup x = some .free then m x else none) = some d := hx
    by_cases q : scope.names.lookup x = some .free
    · have : isOwn (fun x => scope.names.lookup x) x = false := by simp only [isOwn, q]; rfl
      rw [hm' x this]; exact hx
    · rw [if_neg q] at hx'; cases hx'
  have elts : ∀ {W2 s2}, Step noOwn s1 W1 s2 W2 → Sim h₀ W2 s2 → wE Γ n trk (fun x => scope.names.lookup x) elt m' W2.st (fun x st4 => K (some x) st4) →
      wpAny (model prog w) A (eval elt cenv) (fun x s3 => Fin' h₀ own' s W1 (fun x W' s' => Fram own' cenv (compK scope) (compM scope m) W' s' ∧ ∃ dx, Rep W'.R W'.ρ dx x ∧ K (some dx) W'.st) x s3) E0 s2 := fun {W2 s2} x2 S2 h2 => by
    have F2 := F1.step0 S1 x2
    refine wpAny_mono (H.e _ _ _ _ _ _ _ _ _ S2 F2 h2) (fun y s3 ⟨W3, x3, S3, dx, rx, h3⟩ => ?_) fun _ _ e => e
    exact ⟨W3, x1.trans S ((x2.trans S1 x3).wide fun _ _ _ q => q.elim), S3, back (F2.step0 S2 x3), dx, rx, h3⟩
  cases ifs with
  | nil =>
    refine wpAny_tests_nil ?_
    simp only [if_true]
    exact elts (Step.refl _ _) S1 h1
  | cons c r =>
    cases r with
    | cons _ _ => exact False.elim h1
    | nil =>
      refine wpAny_tests_one (wpAny_mono (H.t _ _ _ _ _ _ _ _ S1 F1 h1) (fun b s2 ⟨W2, x2, S2, h2⟩ => ?_) fun _ _ e => e)
      have h2' : if b = true then wE Γ n trk (fun x => scope.names.lookup x) elt m' W2.st (fun x st4 => K (some x) st4) else K none W2.st := h2
      cases b with
      | true => simp only [if_true] at h2' ⊢; exact elts x2 S2 h2'
      | false =>
        simp only [Bool.false_eq_true, if_false] at h2' ⊢
        exact ⟨W2, x1.trans S (x2.wide fun _ _ _ q => q.elim), S2, back (F1.step0 S1 x2), h2'⟩

theorem noOwnOK (s : Shared) (W : Wd) : OwnOK noOwn s W := fun _ h => h.elim

theorem hnames_of {kd : Kd} {scope : Scope} (sc : ScopeOk kd scope) : ∀ x ∈ scope.names, x.2 = .local → scope.names.lookup x.1 = some .local := fun x hx hl => by
  obtain ⟨n, k⟩ := x
  have e : k = .local := hl
  subst e
  exact lookup_nodup sc.2.1 hx

theorem hclos_of {kd : Kd} {scope : Scope} {own : Addr → Prop} {env : Env} {m : Loc} {W : Wd} {s : Shared} (F : Fram own env kd m W s) (sc : ScopeOk kd scope) : closureFor scope env = pure (clo env.cells scope.names []) :=
  clo_eq fun p hp hf => by
    rcases (sc.2.2 p hp).2.2 hf with q | q
    · obtain ⟨c, h, _⟩ := F.co p.1 q; exact ⟨c, h⟩
    · exact (F.kF p.1 q).2

theorem snd_e (a1 : AOk k A) (C : CtxOK prog w h₀ k Γ) (H : Snd prog w A h₀ Γ n) : ∀ trk kd e m Q own env W s, Sim h₀ W s → Fram own env kd m W s → wE Γ (n + 1) trk kd e m W.st Q → OK prog w A h₀ noOwn (eval e env) W s (VP Q) := by
  intro trk kd e m Q own env W s S F h
  obtain ⟨mg, mb, hmg, hmb, hgl, hfn, hbl⟩ := C.ns
  cases e with
  | Constant c x1 x2 =>
    simp only [wE] at h
    rw [arm_eval_Constant]
    exact ok_const S h
  | Name x p =>
    simp only [wE, wName] at h
    split at h
    · rename_i hg
      obtain ⟨d, hd, hq⟩ := h
      obtain ⟨v, hv, hr⟩ := hgl x d hd
      exact ok_global S F hg hmg hmb hv ⟨W, Step.refl _ _, S, d, hr _ _ S.base, hq⟩
    · obtain ⟨d, hd, hq⟩ := h
      exact wpAny_Name (ok_load S F hd hq) (dbg_ne F (F.nm x d hd).1)
  | BoolOp op es p => simp only [wE] at h; rw [arm_eval_BoolOp]; exact H.bool _ _ _ _ _ _ _ _ _ _ S F h
  | BinOp l op r p =>
    simp only [wE] at h
    rw [arm_eval_BinOp]
    refine OK.bind S (H.e _ _ _ _ _ _ _ _ _ S F h) fun a W1 s1 x1 S1 ⟨da, ra, h1⟩ => ?_
    refine OK.bind S1 (OK.holding (H.e _ _ _ _ _ _ _ _ _ S1 (F.step0 S x1) h1)) fun b W2 s2 x2 S2 ⟨db, rb, h2⟩ => ?_
    exact OK.stand (OK.operate (ok_bin S2 (x2.rep S1 ra) rb h2))
  | UnaryOp op x p =>
    simp only [wE] at h
    rw [arm_eval_UnaryOp]
    exact OK.bind S (H.e _ _ _ _ _ _ _ _ _ S F h) fun a W1 s1 x1 S1 ⟨da, ra, h1⟩ => OK.stand (OK.holding (ok_un S1 ra h1))
  | Compare l ops rs p =>
    simp only [wE] at h
    rw [arm_eval_Compare]
    refine OK.bind S (H.e _ _ _ _ _ _ _ _ _ S F h) fun va W1 s1 x1 S1 ⟨d, rd, h1⟩ => ?_
    exact OK.mono (H.chV _ _ _ _ _ _ _ _ _ _ _ _ S1 (F.step0 S x1) rd h1) fun v W2 s2 _ _ ⟨b, e, hk⟩ => ⟨.bool b, e, hk⟩
  | Call f args kws pos =>
    cases kws with
    | cons _ _ => cases f <;> exact False.elim h
    | nil =>
      cases f with
      | Name x p =>
        simp only [wE] at h
        obtain ⟨hg, hns, hblt, h⟩ := h
        unfold wCallN at h
        cases hf : Γ.fn x with
        | some Sf =>
          rw [hf] at h
          obtain ⟨fv, hv, hco, hcall⟩ := hfn x Sf hf
          refine ok_call H hns S F hg hmg hmb hv (.inl hco) h fun vs ds W1 s1 x1 S1 rds q => ?_
          exact OK.after S x1 (hcall A W1 s1 ds vs _ a1 S1 rds q)
        | none =>
          rw [hf] at h
          have hb : ∃ fv, bltV x = some fv := by
            rcases hblt hf with e | e | e | e | e | e | e <;> subst e <;> exact ⟨_, rfl⟩
          obtain ⟨fv, hb⟩ := hb
          obtain ⟨g1, g2⟩ := hbl _ fv hf hb
          have hfv : FvOK h₀ fv := by
            unfold bltV at hb
            repeat' split at hb
            all_goals first
              | (cases hb; exact .inr (.inr ⟨_, rfl⟩))
              | (cases hb; exact .inr (.inl ⟨_, rfl⟩))
              | cases hb
          refine ok_call (fv := fv) H hns S F hg hmg hmb (by rw [g1, g2]; rfl) hfv h fun vs ds W1 s1 x1 S1 rds q => ?_
          exact OK.after S x1 (ok_builtin a1 S1 hb rds q)
      | Attribute o nm apos =>
        simp only [wE] at h
        obtain ⟨hc, hln, h⟩ := h
        cases args with
        | nil => exact ok_meth0 S hc hln (H.e _ _ _ _ _ _ _ _ _ S F h) fun d st p => p
        | cons e r =>
          cases r with
          | cons _ _ => exact False.elim h
          | nil =>
            obtain ⟨hm1, hns, h⟩ := h
            have hse : ∀ x p, e ≠ .Starred x p := by
              unfold noStars at hns
              rw [List.all_cons, Bool.and_eq_true] at hns
              exact star_of hns.1
            refine ok_meth1 S hc hln hm1 hse (H.e _ _ _ _ _ _ _ _ _ S F h) (fun d v W1 s1 x1 S1 rd q => ?_) fun d v W1 s1 x1 S1 rd q => ?_
            · exact H.e _ _ _ _ _ _ _ _ _ S1 (F.step0 S x1) q.2
            · exact Option.isSome_iff_exists.mp q.1
      | _ => exact False.elim h
  | Subscript v sl p =>
    refine PyProof.Rows.Subscript_ ?_
    have plain : isSliceE sl = false → wE Γ n false kd v m W.st (fun d st1 => wE Γ n false kd sl m st1 fun i st2 => wItem d i st2 Q) → wpAny (model prog w) A (eval v env) (fun o s₁ => wpAny (model prog w) A (eval sl env) (fun i s₂ => wpAny (model prog w) A (PyProof.Rows.subscriptTail v sl o i) (Fin' h₀ noOwn s W (VP Q)) E0 s₂) E0 s₁) E0 s := fun hs h => by
      refine wpAny_mono (H.e _ _ _ _ _ _ _ _ _ S F h) (fun o s1 ⟨W1, x1, S1, d, rd, h1⟩ => ?_) fun _ _ e => e
      refine wpAny_mono (H.e _ _ _ _ _ _ _ _ _ S1 (F.step0 S x1) h1) (fun i s2 ⟨W2, x2, S2, di, ri, h2⟩ => ?_) fun _ _ e => e
      exact OK.after S (x1.trans S x2) (ok_item hs S2 (x2.rep S1 rd) ri h2)
    cases sl with
    | Slice l u sp p' =>
      simp only [wE] at h
      refine wpAny_mono (H.e _ _ _ _ _ _ _ _ _ S F h) (fun o s1 ⟨W1, x1, S1, d, rd, h1⟩ => ?_) fun _ _ e => e
      have F1 := F.step0 S x1
      rw [arm_eval_Slice]
      refine wpAny_bind (wpAny_mono (H.opt _ _ _ _ _ _ _ _ S1 F1 h1) (fun vl s2 ⟨W2, x2, S2, dl, rl, h2⟩ => ?_) fun _ _ e => e)
      have F2 := F1.step0 S1 x2
      refine wpAny_bind (wpAny_holding (wpAny_mono (H.opt _ _ _ _ _ _ _ _ S2 F2 h2) (fun vu s3 ⟨W3, x3, S3, du, ru, h3⟩ => ?_) fun _ _ e => e))
      have F3 := F2.step0 S2 x3
      refine wpAny_bind (wpAny_holding (wpAny_mono (H.opt _ _ _ _ _ _ _ _ S3 F3 h3) (fun vs s4 ⟨W4, x4, S4, dp, rp, h4⟩ => ?_) fun _ _ e => e))
      refine wpAny_newObj_type ?_
      refine wpAny_mono (ok_slice (trk := trk) S4 (x4.rep S3 (x3.rep S2 (x2.rep S1 rd))) (x4.rep S3 (x3.rep S2 rl)) (x4.rep S3 ru) rp h4 rfl) (fun r s5 ⟨W5, x5, S5, q⟩ => ?_) fun _ _ e => e
      exact ⟨W5, (((x1.trans S x2).trans S x3).trans S x4).trans S x5, S5, q⟩
    | _ => simp only [wE] at h; exact plain rfl h
  | Tuple es x1 p =>
    simp only [wE] at h
    rw [arm_eval_Tuple]
    refine OK.stand (OK.bind S (H.es _ _ _ _ _ _ _ _ _ p S F h) fun vs W1 s1 x1 S1 ⟨ds, rds, hl, hq⟩ => ok_newTuple S1 rds hl hq)
  | List es p =>
    simp only [wE] at h
    rw [arm_eval_List]
    exact OK.stand (OK.bind S (H.es _ _ _ _ _ _ _ _ _ p S F h) fun vs W1 s1 x1 S1 ⟨ds, rds, hq⟩ => ok_newList S1 rds hq)
  | ListComp elt gens scope pos =>
    have hgens : ∃ t it ifs, gens = [⟨t, it, ifs, 0⟩] := by
      cases gens with
      | nil => exact False.elim h
      | cons g gs =>
        obtain ⟨t, it, ifs, asy⟩ := g
        cases asy with
        | ofNat a =>
          cases a with
          | zero =>
            cases gs with
            | nil => exact ⟨t, it, ifs, rfl⟩
            | cons _ _ => exact False.elim h
          | succ a => cases gs <;> exact False.elim h
        | negSucc a => cases gs <;> exact False.elim h
    obtain ⟨t, it, ifs, rfl⟩ := hgens
    simp only [wE] at h
    obtain ⟨sc, h⟩ := h
    obtain ⟨hfold, hit⟩ := H.it _ _ _ _ _ _ noOwn _ _ _ S F (noOwnOK s W) h
    rw [eval_ListComp]
    refine wpAny_comprehension_free (use := none) rfl hfold (hclos_of F sc) sc.1 (hnames_of sc) ?_
    show wpAny (model prog w) A (eval it env) _ E0 s
    refine wpAny_mono hit (fun x s1 h1 => wpAny_mono h1 (fun itv s2 ⟨W2, items, p, x2, S2, I, hlen, hk⟩ => ?_) fun _ _ e => e) fun _ _ e => e
    refine comp_core S F x2 S2 (F.step0 S x2) I hlen sc (snd_comp a1 H) hk fun D' C s' W' x' S' hv h0 hR hρ ⟨mv, hns⟩ => ?_
    refine ⟨mv, hns, fun h' hs' => ?_⟩
    obtain ⟨x6, S6⟩ := x'.dead' S' h0 hR hρ (fun b o q e => (hs'.2 b q).trans e)
    exact ⟨W', x6, S6, hv⟩
  | _ => exact False.elim h
end
end Mine
end

section
set_option autoImplicit false
set_option linter.unusedVariables false
namespace Mine
open PySem

section
variable {prog : Program} {w : World} {A : Around} {h₀ : Heap} {Γ : Ctx} {mt : Str → Bool} {k n : Nat}

theorem snd_all_n (a1 : AOk k A) (C : CtxOK prog w h₀ k Γ) : ∀ n, Snd prog w A h₀ Γ n
  | 0 => snd_zero
  | n + 1 =>
    have H := snd_all_n a1 C n
    { e := snd_e a1 C H, es := snd_es H, opt := snd_opt H, bool := snd_bool H, chV := snd_chV a1 H, chT := snd_chT a1 H, t := snd_t H, all := snd_all H, it := snd_it a1 C H }

structure SndS (prog : Program) (w : World) (A : Around) (h₀ : Heap) (Γ : Ctx) (mt : Str → Bool) (n : Nat) : Prop where
  s : ∀ kd st m K own env W s, Sim h₀ W s → Fram own env kd m W s → OwnOK own s W → wS Γ mt n kd st m W.st K → OK prog w A h₀ own (exec st env) W s (FP own env kd K)
  ss : ∀ kd ss m K own env W s, Sim h₀ W s → Fram own env kd m W s → OwnOK own s W → wSs Γ mt n kd ss m W.st K → OK prog w A h₀ own (execs ss env) W s (FP own env kd K)

theorem sndS_zero : SndS prog w A h₀ Γ mt 0 where
  s := fun _ _ _ _ _ _ _ _ _ _ _ h => False.elim h
  ss := fun _ _ _ _ _ _ _ _ _ _ _ h => False.elim h

theorem not_inter {kd : Kd} {own : Addr → Prop} {env : Env} {m : Loc} {W : Wd} {s : Shared} (F : Fram own env kd m W s) : interactive env = false := by
  unfold interactive; rw [F.fn]; rfl

theorem flNext {own : Addr → Prop} {env : Env} {kd : Kd} {K : Fl → Loc → St → Prop} {m : Loc} {W : Wd} {s : Shared} (F : Fram own env kd m W s) (h : K .next m W.st) : FP own env kd K .next W s := ⟨.next, m, rfl, F, h⟩

theorem snd_assign (a1 : AOk k A) (HH : ∀ n, Snd prog w A h₀ Γ n) {trk : Bool} {kd : Kd} {x : Str} {p' p : Pos} {v : Expr} {m : Loc} {K : Fl → Loc → St → Prop} {own : Addr → Prop} {env : Env} {W : Wd} {s : Shared}
    (S : Sim h₀ W s) (F : Fram own env kd m W s) (O : OwnOK own s W) (hx : isOwn kd x = true) (h : wE Γ n trk kd v m W.st fun d st1 => K .next (upd m x d) st1) :
    OK prog w A h₀ own (exec (.Assign [.Name x p'] v p) env) W s (FP own env kd K) := by
  have hsw : ∃ b, swapsWith v (some (.Name x p')) p.line env = pure b ∧ (b = true → ∃ elt gens scope pos, v = .ListComp elt gens scope pos) := by
    cases v with
    | ListComp a b c d => exact ⟨_, rfl, fun _ => ⟨a, b, c, d, rfl⟩⟩
    | SetComp => cases n <;> exact False.elim h
    | DictComp => cases n <;> exact False.elim h
    | _ => exact ⟨false, rfl, fun q => nomatch q⟩
  obtain ⟨b, hb, hl⟩ := hsw
  cases b with
  | false =>
    unfold OK
    rw [exec_Assign_Name _ _ _ _ _ hb]
    refine wpAny_bind (wpAny_standAt (wpAny_bind (wpAny_mono ((HH n).e _ _ _ _ _ _ _ _ _ S F h) (fun u s1 ⟨W1, x1, S1, d, rd, h1⟩ => ?_) fun _ _ e => e)))
    have F1 := F.step0 S x1
    have x1' : Step own s W s1 W1 := x1.wide fun _ _ _ q => q.elim
    refine wpAny_bind (wpAny_standAt (wpAny_bind (wpAny_mono (ok_bind_name S1 F1 hx rd) (fun _ s2 ⟨W2, x2, S2, e2, F2⟩ => ?_) fun _ _ e => e)))
    subst e2
    exact wpAny_pure ⟨_, x1'.trans S x2, S2, flNext F2 h1⟩
  | true =>
    obtain ⟨elt, gens, scope, pos, rfl⟩ := hl rfl
    cases n with
    | zero => exact False.elim h
    | succ n =>
    have hgens : ∃ t it ifs, gens = [⟨t, it, ifs, 0⟩] := by
      cases gens with
      | nil => exact False.elim h
      | cons g gs =>
        obtain ⟨t, it, ifs, asy⟩ := g
        cases asy with
        | ofNat a =>
          cases a with
          | zero =>
            cases gs with
            | nil => exact ⟨t, it, ifs, rfl⟩
            | cons _ _ => exact False.elim h
          | succ a => cases gs <;> exact False.elim h
        | negSucc a => cases gs <;> exact False.elim h
    obtain ⟨t, it, ifs, rfl⟩ := hgens
    simp only [wE] at h
    obtain ⟨sc, h⟩ := h
    obtain ⟨hfold, hit⟩ := (HH n).it _ _ _ _ _ _ noOwn _ _ _ S F (noOwnOK s W) h
    unfold OK
    rw [exec_Assign_Name_used _ _ _ _ hb]
    refine wpAny_bind (wpAny_standAt (wpAny_bind ?_))
    show wpAny _ A (do let _ ← comprehension (.ListComp elt [⟨t, it, ifs, 0⟩] scope pos) scope env _ (newList []) false (eval it env) (some (assign (.Name x p') env))) _ _ s
    refine wpAny_bind (wpAny_mono (wpAny_comprehension_free (use := some (assign (.Name x p') env)) (Q := fun _ s' => Fin' h₀ own s W (FP own env kd K) .next s') rfl hfold (hclos_of F sc) sc.1 (hnames_of sc) ?_) (fun _ s' hq => wpAny_pure (wpAny_pure hq)) fun _ _ e => e)
    refine wpAny_mono hit (fun x s1 h1 => wpAny_mono h1 (fun itv s2 ⟨W2, items, p, x2, S2, I, hlen, hk⟩ => ?_) fun _ _ e => e) fun _ _ e => e
    refine comp_core S F x2 S2 (F.step0 S x2) I hlen sc (snd_comp a1 (HH n)) hk fun D' C s' W' x' S' ⟨d, rd, h1⟩ h0 hR hρ ⟨mv, hns⟩ => ?_
    show wpAny _ A (standAt p' >>= fun _ => bindName env _ (.ref D')) _ _ _
    have F' := F.step0 S x'
    have neL : env.locals ≠ C := fun q => by obtain ⟨_, o, _, _, e, _⟩ := F.ns; rw [q, h0] at e; cases e
    have neC : ∀ y c, env.cells.lookup y = some c → c ≠ C := fun y c e q => by obtain ⟨⟨_, o, e', _⟩, _⟩ := F.cl y c e; rw [q, h0] at e'; cases e'
    refine wpAny_bind (wpAny_standAt (wpAny_mono (ok_bind_name S' F' hx rd) (fun _ s3 ⟨W3, x3, S3, e3, F3⟩ => ?_) fun _ _ e => e))
    subst e3
    obtain ⟨o, es, ep, ho, r⟩ := hns
    refine ⟨mv, ⟨o, es, ep, x3.keep C o ho (fun n q => absurd q (hρ n)) (fun q => ?_), r⟩, fun h' hs' => ?_⟩
    · obtain ⟨⟨o', e'⟩, _⟩ := O C q
      rw [h0] at e'; cases e'
    · have ext : ∀ b o, b ≠ C → s3.heap.get? b = some o → h'.get? b = some o := fun b o q e => (hs'.2 b q).trans e
      have x4 : Step own s W s3 W3 := (x'.wide fun _ _ _ q => q.elim).trans S x3
      obtain ⟨x6, S6⟩ := x4.dead' S3 h0 hR hρ ext
      exact ⟨W3, x6, S6, flNext (F3.heap (tk := s3.toks) (fun o e => ext _ o neL e) fun y c o q e => ext c o (neC y c q) e) h1⟩

theorem sndS_s (a1 : AOk k A) (HH : ∀ n, Snd prog w A h₀ Γ n) (HS : SndS prog w A h₀ Γ mt n) : ∀ kd st m K own env W s, Sim h₀ W s → Fram own env kd m W s → OwnOK own s W → wS Γ mt (n + 1) kd st m W.st K → OK prog w A h₀ own (exec st env) W s (FP own env kd K) := by
  intro kd st m K own env W s S F O h
  have H := HH n
  have up : ∀ {s1 : Shared} {W1 : Wd}, Step noOwn s W s1 W1 → Step own s W s1 W1 := fun x => x.wide fun _ _ _ q => q.elim
  cases st with
  | Expr v p =>
    simp only [wS] at h
    obtain ⟨hc, h⟩ := h
    have hsw : swapsWith v none p.line env = pure false := by cases v <;> first | rfl | cases hc
    refine wpAny_Expr_any (wpAny_mono (H.e _ _ _ _ _ _ _ _ _ S F h) (fun u s1 ⟨W1, x1, S1, d, rd, h1⟩ => ?_) fun _ _ e => e) (not_inter F) hsw
    refine ⟨W1, up x1, S1, flNext (F.step0 S x1) ?_⟩
    cases d <;> first | exact h1 | exact False.elim h1
  | Assign ts v p =>
    cases ts with
    | nil => exact False.elim h
    | cons t r =>
      cases r with
      | cons _ _ => exact False.elim h
      | nil =>
        cases t with
        | Name x p' =>
          simp only [wS] at h
          exact snd_assign a1 HH S F O h.1 h.2
        | Tuple es kk p' =>
          simp only [wS] at h
          obtain ⟨ht, h⟩ := h
          have hs : swapsWithSole [.Tuple es kk p'] v p.line env = pure false := by cases v <;> rfl
          have hw : swappedStores [.Tuple es kk p'] v env = pure none := by cases v <;> first | rfl | cases ht
          refine PyProof.Rows.Assign_Tuple (wpAny_mono (H.e _ _ _ _ _ _ _ _ _ S F h) (fun u s1 ⟨W1, x1, S1, d, rd, h1⟩ => ?_) fun _ _ e => e) hs hw
          refine wpAny_mono (ok_target a1 S1 (F.step0 S x1) rd h1) (fun _ s2 ⟨W2, x2, S2, e2, m', hk, F2, _⟩ => ?_) fun _ _ e => e
          subst e2
          exact ⟨_, (up x1).trans S x2, S2, flNext F2 hk⟩
        | Subscript o i p' =>
          simp only [wS] at h
          obtain ⟨hi, h⟩ := h
          have hs : swapsWith v (some (.Subscript o i p')) p.line env = pure false := by cases v <;> rfl
          refine wpAny_Assign_Subscript (wpAny_mono (H.e _ _ _ _ _ _ _ _ _ S F h) (fun u s1 ⟨W1, x1, S1, d, rd, h1⟩ => ?_) fun _ _ e => e) hs
          have F1 := F.step0 S x1
          refine wpAny_mono (H.e _ _ _ _ _ _ _ _ _ S1 F1 h1) (fun ov s2 ⟨W2, x2, S2, d2, rd2, h2⟩ => ?_) fun _ _ e => e
          have F2 := F1.step0 S1 x2
          refine wpAny_mono (H.e _ _ _ _ _ _ _ _ _ S2 F2 h2) (fun iv s3 ⟨W3, x3, S3, d3, rd3, h3⟩ => ?_) fun _ _ e => e
          have F3 := F2.step0 S2 x3
          refine wpAny_mono (ok_setItem S3 (x3.rep S2 rd2) rd3 (x3.rep S2 (x2.rep S1 rd)) h3) (fun _ s4 ⟨W4, x4, S4, hk⟩ => ?_) fun _ _ e => e
          exact ⟨W4, up (((x1.trans S x2).trans S x3).trans S x4), S4, flNext (F3.step0 S3 x4) hk⟩
        | _ => exact False.elim h
  | If c a b p =>
    simp only [wS] at h
    refine wpAny_If (wpAny_mono (H.t _ _ _ _ _ _ _ _ S F h) (fun r s1 ⟨W1, x1, S1, h1⟩ => ?_) fun _ _ e => e)
    have h1' : if r = true then wSs Γ mt n kd a m W1.st K else wSs Γ mt n kd b m W1.st K := h1
    cases r with
    | true => exact OK.after S (up x1) (HS.ss _ _ _ _ _ _ _ _ S1 (F.step0 S x1) (O.step x1) h1')
    | false => exact OK.after S (up x1) (HS.ss _ _ _ _ _ _ _ _ S1 (F.step0 S x1) (O.step x1) h1')
  | For t it body els p =>
    cases els with
    | cons _ _ => exact False.elim h
    | nil =>
      simp only [wS] at h
      obtain ⟨hfold, hit⟩ := H.it _ _ _ _ _ _ own _ _ _ S F O h
      refine wpAny_For (wpAny_mono hit (fun x s1 h1 => wpAny_mono h1 (fun itv s2 ⟨W2, items, p, x2, S2, I, hlen, hk⟩ => ?_) fun _ _ e => e) fun _ _ e => e) hfold
      refine ok_forLoop S F (up x2) S2 (F.step0 S x2) I O ?_ hk fun f s' q => q
      intro d m' W3 s3 v K' S3 F3 O3 rd hst
      refine wpAny_mono (ok_target a1 S3 F3 rd hst) (fun _ s4 ⟨W4, x4, S4, e4, m4, hk4, F4, _⟩ => ?_) fun _ _ e => e
      subst e4
      exact OK.after S3 x4 (HS.ss _ _ _ _ _ _ _ _ S4 F4 (O3.step x4) hk4)
  | Return e p =>
    cases e with
    | none => simp only [wS] at h; exact wpAny_Return_none ⟨W, Step.refl _ _, S, .ret .none, m, ⟨.none, rfl, rfl⟩, F, h⟩
    | some e =>
      simp only [wS] at h
      refine wpAny_Return_some (wpAny_mono (H.e _ _ _ _ _ _ _ _ _ S F h) (fun u s1 ⟨W1, x1, S1, d, rd, h1⟩ => ?_) fun _ _ e => e)
      exact ⟨W1, up x1, S1, .ret d, m, ⟨u, rfl, rd⟩, F.step0 S x1, h1⟩
  | Pass p =>
    simp only [wS] at h
    unfold OK
    rw [exec_Pass]
    exact wpAny_bind (wpAny_standAt (wpAny_pure ⟨W, Step.refl _ _, S, flNext F h⟩))
  | _ => exact False.elim h

theorem sndS_ss (HS : SndS prog w A h₀ Γ mt n) : ∀ kd ss m K own env W s, Sim h₀ W s → Fram own env kd m W s → OwnOK own s W → wSs Γ mt (n + 1) kd ss m W.st K → OK prog w A h₀ own (execs ss env) W s (FP own env kd K) := by
  intro kd ss m K own env W s S F O h
  cases ss with
  | nil => exact wpAny_execs_nil ⟨W, Step.refl _ _, S, flNext F h⟩
  | cons st r =>
    simp only [wSs] at h
    refine wpAny_execs_cons (wpAny_mono (HS.s _ _ _ _ _ _ _ _ S F O h) (fun f s1 ⟨W1, x1, S1, fl, m1, hf, F1, h1⟩ => ?_) fun _ _ e => e)
    cases fl with
    | next => have e : f = .next := hf; subst e; exact OK.after S x1 (HS.ss _ _ _ _ _ _ _ _ S1 F1 (O.step x1) h1)
    | brk => have e : f = .brk := hf; subst e; exact ⟨W1, x1, S1, .brk, m1, rfl, F1, h1⟩
    | cont => have e : f = .cont := hf; subst e; exact ⟨W1, x1, S1, .cont, m1, rfl, F1, h1⟩
    | ret d => obtain ⟨u, e, hu⟩ := hf; subst e; exact ⟨W1, x1, S1, .ret d, m1, ⟨u, rfl, hu⟩, F1, h1⟩

theorem sndS_all (a1 : AOk k A) (C : CtxOK prog w h₀ k Γ) : ∀ n, SndS prog w A h₀ Γ mt n
  | 0 => sndS_zero
  | n + 1 => ⟨sndS_s a1 (snd_all_n a1 C) (sndS_all a1 C n), sndS_ss (sndS_all a1 C n)⟩
end
end Mine
end

section
set_option autoImplicit false
set_option linter.unusedVariables false
namespace Mine
open PySem

section
variable {R : Addr → Option Obj} {ρ : Nat → Option Addr} {kindOf : Str → Option NameKind}
theorem bindL_else : ∀ (ps : List Str) (vs : List Value) (m : Str → Option Value) (x : Str), x ∉ ps → bindL kindOf (ps.zip vs) m x = m x
  | [], _, _, _, _ => by simp [bindL]
  | _ :: _, [], _, _, _ => by simp [bindL]
  | p :: ps, v :: vs, m, x, h => by
    simp only [List.mem_cons, not_or] at h
    rw [List.zip_cons_cons, bindL, bindL_else ps vs _ x h.2]
    split
    · exact if_neg h.1
    · rfl
theorem bindC_else : ∀ (ps : List Str) (vs : List Value) (m : Str → Option Value) (x : Str), x ∉ ps → bindC kindOf (ps.zip vs) m x = m x
  | [], _, _, _, _ => by simp [bindC]
  | _ :: _, [], _, _, _ => by simp [bindC]
  | p :: ps, v :: vs, m, x, h => by
    simp only [List.mem_cons, not_or] at h
    rw [List.zip_cons_cons, bindC, bindC_else ps vs _ x h.2]
    split
    · rfl
    · exact if_neg h.1

theorem bind_has : ∀ (ps : List Str) (ds : List D) (vs : List Value) (m m' : Str → Option Value), ps.Nodup → RepAll R ρ ds vs → ∀ x d, bindM ps ds x = some d → x ∈ ps ∧ ∃ v, Rep R ρ d v ∧
    (kindOf x = some .local → bindL kindOf (ps.zip vs) m x = some v) ∧ (kindOf x ≠ some .local → bindC kindOf (ps.zip vs) m' x = some v)
  | [], _, _, _, _, _, _, _, _, h => by simp [bindM] at h
  | _ :: _, [], _, _, _, _, _, _, _, h => by simp [bindM] at h
  | p :: ps, d' :: ds, vs, m, m', hn, hr, x, d, h => by
    obtain ⟨v, ws, rfl, rd, rs⟩ := hr
    rw [List.nodup_cons] at hn
    have h' : (if x = p then some d' else bindM ps ds x) = some d := h
    by_cases q : x = p
    · rw [if_pos q] at h'; cases h'
      subst q
      refine ⟨.head _, v, rd, fun hk => ?_, fun hk => ?_⟩
      · rw [List.zip_cons_cons, bindL, bindL_else _ _ _ _ hn.1, if_pos hk]; simp
      · rw [List.zip_cons_cons, bindC, bindC_else _ _ _ _ hn.1, if_neg hk]; simp
    · rw [if_neg q] at h'
      obtain ⟨hm, u, ru, h1, h2⟩ := bind_has ps ds ws (if kindOf p = some .local then fun y => if y = p then some v else m y else m) (if kindOf p = some .local then m' else fun y => if y = p then some v else m' y) hn.2 rs x d h'
      exact ⟨.tail _ hm, u, ru, h1, h2⟩
end

section
variable {h₀ : Heap}
mutual
theorem Rep.low {R R' : Addr → Option Obj} {ρ ρ' : Nat → Option Addr} {hi : Nat} (hR : ∀ a o, R a = some o → R' a = some o) (hρ : ∀ n a, n < hi → ρ n = some a → ρ' n = some a) : ∀ (d : D) (v : Value), d.undr hi = true → Rep R ρ d v → Rep R' ρ' d v
  | .none, _, _, h => h
  | .bool _, _, _, h => h
  | .int _, _, _, h => h
  | .str _, _, _, h => h
  | .val _, _, _, h => h
  | .loc _, _, u, ⟨a, h, e⟩ => ⟨a, hρ _ _ (of_decide_eq_true u) h, e⟩
  | .tup ds, _, u, ⟨a, vs, n, e, h, r⟩ => ⟨a, vs, n, e, hR _ _ h, RepAll.low hR hρ ds vs u r⟩
  | .list ds, _, u, ⟨a, vs, n, e, h, r⟩ => ⟨a, vs, n, e, hR _ _ h, RepAll.low hR hρ ds vs u r⟩
theorem RepAll.low {R R' : Addr → Option Obj} {ρ ρ' : Nat → Option Addr} {hi : Nat} (hR : ∀ a o, R a = some o → R' a = some o) (hρ : ∀ n a, n < hi → ρ n = some a → ρ' n = some a) : ∀ (ds : List D) (vs : List Value), undrAll hi ds = true → RepAll R ρ ds vs → RepAll R' ρ' ds vs
  | [], _, _, h => h
  | d :: ds, _, u, ⟨v, ws, e, h, r⟩ => by
    have u' := Bool.and_eq_true_iff.mp u
    exact ⟨v, ws, e, Rep.low hR hρ d v u'.1 h, RepAll.low hR hρ ds ws u'.2 r⟩
end

theorem reps_mapM {R R' : Addr → Option Obj} {ρ ρ' : Nat → Option Addr} {f : D → Option D} (hf : ∀ d v d', f d = some d' → Rep R ρ d v → Rep R' ρ' d' v) :
    ∀ (ds ds' : List D) (vs : List Value), ds.mapM f = some ds' → RepAll R ρ ds vs → RepAll R' ρ' ds' vs
  | [], ds', vs, h, r => by simp at h; subst h; exact r
  | d :: ds, ds', vs, h, r => by
    obtain ⟨y, zs, h1, h2, rfl⟩ := mapM_some_cons h
    obtain ⟨v, ws, rfl, rd, rs⟩ := r
    exact ⟨v, ws, rfl, hf d v y h1 rd, reps_mapM hf ds zs ws h2 rs⟩

/-- the world a call leaves behind: the call's own cells are frozen -/
noncomputable def leave (W : Wd) (s : Shared) (hi : Nat) : Wd :=
  { R := fun b => (W.R b).or (open Classical in if ∃ n, hi ≤ n ∧ W.ρ n = some b then s.heap.get? b else none)
    ρ := fun n => if n < hi then W.ρ n else none
    st := W.st.cut hi }

theorem leave_R {W : Wd} {s : Shared} {hi : Nat} (a : Addr) (o : Obj) (h : W.R a = some o) : (leave W s hi).R a = some o := by
  show (W.R a).or _ = some o
  rw [h]; rfl
theorem leave_ρ {W : Wd} {s : Shared} {hi : Nat} (n : Nat) (a : Addr) (q : n < hi) (h : W.ρ n = some a) : (leave W s hi).ρ n = some a := by
  show (if n < hi then W.ρ n else none) = some a
  rw [if_pos q]; exact h

theorem frz_rep {W : Wd} {s : Shared} (S : Sim h₀ W s) (hi : Nat) : ∀ (k : Nat) (d d' : D) (v : Value), frz hi W.st k d = some d' → Rep W.R W.ρ d v → Rep (leave W s hi).R (leave W s hi).ρ d' v := by
  intro k
  induction k with
  | zero =>
    intro d d' v h r
    unfold frz at h
    split at h
    · cases h; rename_i u; exact Rep.low leave_R leave_ρ _ _ u r
    · cases h
  | succ k ih =>
    intro d d' v h r
    cases d with
    | loc n =>
      simp only [frz] at h
      split at h
      · cases h; rename_i q
        obtain ⟨a, ha, e⟩ := r
        exact ⟨a, leave_ρ n a q ha, e⟩
      · rename_i q
        cases hc : W.st.cs n with
        | none => rw [hc] at h; cases h
        | some c =>
          rw [hc] at h
          cases c with
          | dict es => cases h
          | list ds =>
            simp only [Option.map_eq_some_iff] at h
            obtain ⟨ds', hm, rfl⟩ := h
            obtain ⟨a, ha, rfl⟩ := r
            obtain ⟨b, hb, vs, k', hg, hr⟩ := S.cel n _ hc
            rw [ha] at hb; cases hb
            refine ⟨a, vs, k', rfl, ?_, reps_mapM (fun d v d' h1 h2 => ih d d' v h1 h2) ds ds' vs hm hr⟩
            show (W.R a).or _ = _
            rw [(S.dis n a ha).1, Option.none_or, if_pos ⟨n, Nat.le_of_not_lt q, ha⟩]
            exact hg
    | tup ds =>
      simp only [frz] at h
      split at h
      · cases h; rename_i u; exact Rep.low leave_R leave_ρ (.tup ds) v u r
      · simp only [Option.map_eq_some_iff] at h
        obtain ⟨ds', hm, rfl⟩ := h
        obtain ⟨a, vs, n, rfl, hR, hr⟩ := r
        exact ⟨a, vs, n, rfl, leave_R _ _ hR, reps_mapM (fun d v d' h1 h2 => ih d d' v h1 h2) ds ds' vs hm hr⟩
    | list ds =>
      simp only [frz] at h
      split at h
      · cases h; rename_i u; exact Rep.low leave_R leave_ρ (.list ds) v u r
      · simp only [Option.map_eq_some_iff] at h
        obtain ⟨ds', hm, rfl⟩ := h
        obtain ⟨a, vs, n, rfl, hR, hr⟩ := r
        exact ⟨a, vs, n, rfl, leave_R _ _ hR, reps_mapM (fun d v d' h1 h2 => ih d d' v h1 h2) ds ds' vs hm hr⟩
    | _ => simp only [frz, Option.some.injEq] at h; subst h; exact r

theorem leave_step {own : Addr → Prop} {W0 W : Wd} {s0 s : Shared} (S0 : Sim h₀ W0 s0) (x : Step own s0 W0 s W) (S : Sim h₀ W s) : Step own s0 W0 s (leave W s W0.st.hi) ∧ Sim h₀ (leave W s W0.st.hi) s := by
  have ρc : ∀ n a, (leave W s W0.st.hi).ρ n = some a → n < W0.st.hi ∧ W.ρ n = some a := fun n a e => by
    have e' : (if n < W0.st.hi then W.ρ n else none) = some a := e
    split at e'
    · rename_i q; exact ⟨q, e'⟩
    · cases e'
  refine ⟨⟨x.rest, x.keep, x.live, fun b o e => ?_, fun n a e => leave_ρ n a (S0.dom n a e) (x.rho n a e), fun n a e => x.new n a (ρc n a e).2, Nat.le_refl _, fun n hn e => ?_⟩, ⟨fun b o e => leave_R b o (S.base b o e), fun b o e => ?_, fun n c e => ?_, fun n a e => ?_, fun n k a e1 e2 => S.inj n k a (ρc n a e1).2 (ρc k a e2).2, fun n a e => (ρc n a e).1⟩⟩
  · show (W.R b).or _ = W0.R b
    rw [← x.extR b o e]
    cases q : W.R b with
    | some o' => rfl
    | none =>
      rw [Option.none_or, if_neg]
      rintro ⟨n, hn, hb⟩
      rcases x.new n b hb with z | z
      · exact Nat.lt_irrefl _ (Nat.lt_of_lt_of_le (S0.dom n b z) hn)
      · rw [z] at e; cases e
  · show (if n < W0.st.hi then (match W.st.cs n with
      | some c => if c.undr W0.st.hi = true then some c else none
      | none => none) else none) = none
    rw [if_pos hn, x.hid n hn e]
  · have e' : (W.R b).or (open Classical in if ∃ n, W0.st.hi ≤ n ∧ W.ρ n = some b then s.heap.get? b else none) = some o := e
    cases q : W.R b with
    | some o' => rw [q] at e'; have : some o' = some o := e'; cases this; exact S.frz b _ q
    | none =>
      rw [q, Option.none_or] at e'
      split at e'
      · exact e'
      · cases e'
  · have e' : (if n < W0.st.hi then (match W.st.cs n with
      | some c => if c.undr W0.st.hi = true then some c else none
      | none => none) else none) = some c := e
    split at e'
    · rename_i hn
      cases hc : W.st.cs n with
      | none => rw [hc] at e'; cases e'
      | some c' =>
        rw [hc] at e'
        have e2 : (if c'.undr W0.st.hi = true then some c' else none) = some c := e'
        split at e2
        · cases e2
          rename_i u
          obtain ⟨a, ha, hcell⟩ := S.cel n _ hc
          refine ⟨a, leave_ρ n a hn ha, ?_⟩
          cases c with
          | list ds => obtain ⟨vs, k, hg, hr⟩ := hcell; exact ⟨vs, k, hg, RepAll.low leave_R leave_ρ ds vs u hr⟩
          | dict es => exact hcell
        · cases e2
    · cases e'
  · obtain ⟨hn, ha⟩ := ρc n a e
    obtain ⟨h1, h2⟩ := S.dis n a ha
    refine ⟨?_, h2⟩
    show (W.R a).or _ = none
    rw [h1, Option.none_or, if_neg]
    rintro ⟨j, hj, hb⟩
    exact Nat.lt_irrefl _ (Nat.lt_of_lt_of_le hn ((S.inj n j a ha hb) ▸ hj))
end

theorem cf_nodup : ∀ (l : List (Str × NameKind)) (n : Nat), (l.map (·.1)).Nodup → ((cellsFrom n l []).map (·.1)).Nodup
  | [], _, _ => by simp [cellsFrom]
  | (x, k) :: r, n, h => by
    rw [List.map_cons, List.nodup_cons] at h
    unfold cellsFrom
    split
    · rw [cf_app, List.map_append, List.nodup_append]
      refine ⟨cf_nodup r _ h.2, by simp, ?_⟩
      intro a ha b hb q
      simp at hb
      subst hb
      subst q
      obtain ⟨⟨y, c⟩, hm, e⟩ := List.mem_map.mp ha
      have e' : y = a := e
      subst e'
      exact h.1 (List.mem_map.mpr ⟨_, cf_from r _ y c hm, rfl⟩)
    · exact cf_nodup r n h.2
theorem lookup_nodupC {l : List (Str × NameKind)} {n : Nat} (h : (l.map (·.1)).Nodup) {x : Str} {c : Addr} (hm : (x, c) ∈ cellsFrom n l []) : (cellsFrom n l []).lookup x = some c := lookup_nodup (cf_nodup l n h) hm

/-- a plain def of the module -/
structure FnAt (h₀ : Heap) (v : Value) (params : List Str) (body : List Stmt) (scope : Scope) : Prop where
  ex : ∃ a o fd, v = .ref a ∧ h₀.get? a = some o ∧ o.data = .func fd ∧ h₀.CodeRec fd.code fd.qualname ∧ fd.body = .stmts body ∧ fd.scope = scope ∧ fd.closure = [] ∧ fd.globals = mainGlobals ∧ fd.builtins = builtinsNs ∧
    (∀ vs : List Value, vs.length = params.length → bindArgs fd ⟨vs, []⟩ = pure (params.zip vs))

noncomputable def ScopeFn (scope : Scope) (params : List Str) : Prop := scope.kind = .function ∧ scope.isCoroutine = false ∧ scope.isGenerator = false ∧ (scope.names.map (·.1)).Nodup ∧ params.Nodup ∧
  (∀ x ∈ params, scope.names.lookup x = some .local ∨ scope.names.lookup x = some .cell) ∧ ∀ p ∈ scope.names, p.1 ≠ "__debug__" ∧ p.1 ≠ "__classdict__" ∧ p.2 ≠ .free

noncomputable def fnOwn (L : Addr) (names : List (Str × NameKind)) : Addr → Prop := fun b => b = L ∨ ∃ x, (x, b) ∈ cellsFrom (L + 1) names []

section
variable {prog : Program} {w : World} {h₀ : Heap} {Γ : Ctx} {mt : Str → Bool} {k : Nat}

theorem fn_code {v : Value} {params : List Str} {body : List Stmt} {scope : Scope} (n : Nat) (C : CtxOK prog w h₀ k Γ) (hlim : h₀.NoLimit) (f : FnAt h₀ v params body scope) (sc : ScopeFn scope params)
    (A : Around) (W : Wd) (s : Shared) (ds : List D) (vs : List Value) (Q : D → St → Prop) (a1 : AOk (k + 1) A) (S : Sim h₀ W s) (hr : RepAll W.R W.ρ ds vs) (h : wFn Γ mt n (fun x => scope.names.lookup x) params body ds W.st Q) :
    codeAny (model prog w) A (.call v ⟨vs, []⟩) (fun r s' => match r with | .ok (.ret u) => Fin' h₀ noOwn s W (VP Q) u s' | .ok _ => False | .error e => E0 e s') s := by
  obtain ⟨a, o, fd, rfl, ho, hd, hcd, hbody, rfl, hclo, hgl, hbi, hbind⟩ := f.ex
  obtain ⟨hlen, h⟩ := h
  have up : ∀ b o, h₀.get? b = some o → s.heap.get? b = some o := fun b o e => S.frz b o (S.base b o e)
  have hvl : vs.length = params.length := by rw [hr.length]; exact hlen
  refine (codeAny_call_cells (by have := a1.dp; show A.depth < 1000; omega) (up _ _ ho) hd (hlim.keeps up) (hcd.keeps up) hbody (hbind vs hvl) hclo ?_ ?_ sc.2.1 sc.2.2.1 sc.1)
  · intro x hx
    have hm : x.1 ∈ params := (List.of_mem_zip hx).1
    rcases sc.2.2.2.2.2.1 x.1 hm with q | q
    · exact .inl q
    · refine .inr ⟨q, ?_⟩
      obtain ⟨c, hc⟩ := cf_has fd.scope.names (s.heap.objs.size + 1) x.1 (mem_of_lookup q)
      obtain ⟨c', hc'⟩ := lookup_mem hc
      rw [hc']; rfl
  · intro s1 X
    generalize henv : callEnvC fd s.heap.objs.size a = env at X ⊢
    have hL : env.locals = s.heap.objs.size := by rw [← henv]; rfl
    have hcells : env.cells = cellsFrom (s.heap.objs.size + 1) fd.scope.names [] := by rw [← henv]; rfl
    have hko : env.kindOf = fun x => fd.scope.names.lookup x := by rw [← henv]; rfl
    obtain ⟨h1, tk1, hs1⟩ := X.toInCall.same
    have dead : ∀ b, s.heap.objs.size ≤ b → s.heap.get? b = none := fun b hb => dead_ge hb
    have ρd : ∀ b, s.heap.get? b = none → ∀ n, W.ρ n ≠ some b := fun b hb n q => by obtain ⟨_, o, e⟩ := S.dis n b q; rw [hb] at e; cases e
    have Rd : ∀ b, s.heap.get? b = none → W.R b = none := fun b hb => by
      cases q : W.R b with
      | none => rfl
      | some o => have := S.frz b o q; rw [hb] at this; cases this
    have gst : Step noOwn s W s1 W ∧ Sim h₀ W s1 := by
      subst hs1
      exact S.grow (tk := tk1) X.toInCall.keep
    have above : ∀ x c, (x, c) ∈ cellsFrom (s.heap.objs.size + 1) fd.scope.names [] → s.heap.objs.size < c := fun x c hm => by have := X.above x c (by rw [hcells]; exact hm); rwa [hL] at this
    have hcd' : ∀ x c, (x, c) ∈ cellsFrom (s.heap.objs.size + 1) fd.scope.names [] → s.heap.get? c = none := fun x c hm => dead c (Nat.le_of_lt (above x c hm))
    have ownd : ∀ b, fnOwn s.heap.objs.size fd.scope.names b → s.heap.get? b = none := by
      rintro b (rfl | ⟨x, hx⟩)
      · exact dead _ (Nat.le_refl _)
      · exact hcd' x b hx
    have F : Fram (fnOwn s.heap.objs.size fd.scope.names) env (fun x => fd.scope.names.lookup x) (bindM params ds) W s1 := by
      refine ⟨by rw [← henv]; exact sc.1, by rw [← henv]; exact hgl, by rw [← henv]; exact hbi, fun x k hk _ => by rw [hko]; exact hk, ⟨?_, ?_⟩, fun x d hx => ?_, ⟨_, X.toInCall.ns⟩, fun x c e => ?_, fun x y c e1 e2 => ?_, ⟨by rw [hL]; exact .inl rfl, by rw [hL]; exact Rd _ (dead _ (Nat.le_refl _)), by rw [hL]; exact ρd _ (dead _ (Nat.le_refl _))⟩, fun x hx => ?_, fun x hx => ?_⟩
      · cases q : fd.scope.names.lookup ("__debug__" : Str) with
        | none => rfl
        | some k => exact absurd rfl (sc.2.2.2.2.2.2 _ (mem_of_lookup q)).1
      · cases q : fd.scope.names.lookup ("__classdict__" : Str) with
        | none => rfl
        | some k => exact absurd rfl (sc.2.2.2.2.2.2 _ (mem_of_lookup q)).2.1
      · obtain ⟨hm, v, rv, b1, b2⟩ := bind_has (kindOf := env.kindOf) params ds vs (fun _ => none) (fun _ => none) sc.2.2.2.2.1 hr x d hx
        rcases sc.2.2.2.2.2.1 x hm with q | q
        · have hne : fd.scope.names.lookup x ≠ none := by rw [q]; exact fun z => nomatch z
          refine ⟨hne, v, Or.inl ⟨by rw [hko]; exact q, _, X.toInCall.ns, b1 (by rw [hko]; exact q)⟩, rv⟩
        · have hk : env.kindOf x = some .cell := by rw [hko]; exact q
          obtain ⟨c, hc⟩ := cf_has fd.scope.names (s.heap.objs.size + 1) x (mem_of_lookup q)
          obtain ⟨c', hc'⟩ := lookup_mem hc
          have hne : fd.scope.names.lookup x ≠ none := by rw [q]; exact fun z => nomatch z
          refine ⟨hne, v, Or.inr ⟨.inl hk, c', by rw [hcells]; exact hc', ?_⟩, rv⟩
          have := X.cell x c' (by rw [hcells]; exact hc')
          rw [b2 (by rw [hk]; exact fun z => nomatch z)] at this
          exact this
      · have e' := mem_of_lookup e
        rw [hcells] at e'
        refine ⟨⟨_, X.cell x c e⟩, fun q => ?_, ρd c (hcd' x c e')⟩
        have := above x c e'
        rw [q, hL] at this
        exact Nat.lt_irrefl _ this
      · exact name_of_addr X.apart (mem_of_lookup e1) (mem_of_lookup e2)
      · obtain ⟨c, hc⟩ := cf_has fd.scope.names (s.heap.objs.size + 1) x (mem_of_lookup hx)
        obtain ⟨c', hc'⟩ := lookup_mem hc
        exact ⟨c', by rw [hcells]; exact hc', .inr ⟨x, mem_of_lookup hc'⟩, Rd c' (hcd' x c' (mem_of_lookup hc'))⟩
      · exact absurd rfl (sc.2.2.2.2.2.2 _ (mem_of_lookup hx)).2.2
    have O : OwnOK (fnOwn s.heap.objs.size fd.scope.names) s1 W := by
      rintro b hb
      refine ⟨?_, Rd b (ownd b hb), ρd b (ownd b hb)⟩
      rcases hb with rfl | ⟨x, hx⟩
      · obtain ⟨o, _, _, e, _⟩ := X.toInCall.ns; rw [hL] at e; exact ⟨o, e⟩
      · have hc := mem_of_lookup (lookup_nodupC sc.2.2.2.1 hx)
        obtain ⟨o, e, _⟩ := X.cell x b (by rw [hcells]; exact lookup_nodupC sc.2.2.2.1 hx)
        exact ⟨o, e⟩
    have a2 : AOk k (A.deeper env) := ⟨a1.hn, by have := a1.dp; show A.depth + 1 + k < 990; omega, by have := a1.un; show A.units + 3 + 8 * k < 8000; omega⟩
    refine wpAny_mono ((sndS_all (mt := mt) a2 C n).ss _ _ _ _ _ _ _ _ gst.2 F O h) (fun fl s2 ⟨W2, x2, S2, q, m2, hf, _, hq⟩ => ?_) fun _ _ e => e.elim
    have x3 : Step noOwn s W s2 W2 := ((gst.1.wide fun _ _ _ q => q.elim).trans S x2).wide fun b o e q => by rw [ownd b q] at e; cases e
    have fin : ∀ (u : Value) (d : D), Rep W2.R W2.ρ d u → (if W2.st.hi = W.st.hi then Q d W2.st else ∃ d', frz W.st.hi W2.st 3 d = some d' ∧ Q d' (W2.st.cut W.st.hi)) → Fin' h₀ noOwn s W (VP Q) u s2 := fun u d ru hq => by
      split at hq
      · exact ⟨W2, x3, S2, d, ru, hq⟩
      · obtain ⟨d', hz, hq⟩ := hq
        obtain ⟨x4, S4⟩ := leave_step S x3 S2
        exact ⟨_, x4, S4, d', frz_rep S2 _ 3 d d' u hz ru, hq⟩
    cases q with
    | next =>
      have e : fl = .next := hf
      subst e
      refine fin .none .none rfl ?_
      have hq' : if W2.st.hi = W.st.hi then Q .none W2.st else Q .none (W2.st.cut W.st.hi) := hq
      split at hq'
      · rename_i z; rw [if_pos z]; exact hq'
      · rename_i z; rw [if_neg z]; exact ⟨.none, rfl, hq'⟩
    | ret d => obtain ⟨u, e, ru⟩ := hf; subst e; exact fin u d ru hq
    | brk => exact False.elim hq
    | cont => exact False.elim hq

theorem fn_sound {v : Value} {params : List Str} {body : List Stmt} {scope : Scope} (n : Nat) (C : CtxOK prog w h₀ k Γ) (hlim : h₀.NoLimit) (f : FnAt h₀ v params body scope) (sc : ScopeFn scope params) :
    CallOK prog w h₀ (k + 1) (wFn Γ mt n (fun x => scope.names.lookup x) params body) v := by
  refine ⟨?_, fun A W s ds vs Q a1 S hr h => wpAny_call (fn_code n C hlim f sc A W s ds vs Q a1 S hr h)⟩
  obtain ⟨a, o, fd, rfl, ho, hd, _⟩ := f.ex
  exact ⟨a, o, fd, rfl, ho, hd⟩
theorem CallOK.up {S : FSpec} {v : Value} {j : Nat} (h : CallOK prog w h₀ k S v) (hk : k ≤ j) : CallOK prog w h₀ j S v :=
  ⟨h.1, fun A W s ds vs Q a1 => h.2 A W s ds vs Q ⟨a1.hn, by have := a1.dp; omega, by have := a1.un; omega⟩⟩
end
end Mine
end

section
set_option autoImplicit false
set_option linter.unusedSimpArgs false
set_option linter.unusedVariables false
namespace Mine
open PySem

theorem ofString_beq (a b : String) : (Str.ofString a == Str.ofString b) = (a == b) := by
  by_cases h : a = b
  · subst h; rw [beq_self_eq_true, beq_self_eq_true]
  · have : Str.ofString a ≠ Str.ofString b := fun e => h (ofString_inj.mp e)
    rw [beq_eq_false_iff_ne.mpr this, beq_eq_false_iff_ne.mpr h]

noncomputable def thenK (Γ : Ctx) (mt : Str → Bool) (n : Nat) (kd : Kd) (r : List Stmt) (K : Fl → Loc → St → Prop) : Fl → Loc → St → Prop := fun fl m1 st1 => (match fl with
      | .next => wSs Γ mt n kd r m1 st1 K
      | fl => K fl m1 st1)
noncomputable def finK (Q : D → St → Prop) (st : St) : Fl → Loc → St → Prop := fun fl _ st' => (match fl with
    | .ret d => if st'.hi = st.hi then Q d st' else ∃ d', frz st.hi st' 3 d = some d' ∧ Q d' (st'.cut st.hi)
    | .next => if st'.hi = st.hi then Q .none st' else Q .none (st'.cut st.hi)
    | _ => False)
theorem fin_ret {Q : D → St → Prop} {st : St} {d : D} {m : Loc} : finK Q st (.ret d) m st = Q d st := by
  show (if st.hi = st.hi then _ else _) = _
  rw [if_pos rfl]
theorem fin_cut {Q : D → St → Prop} {st st' : St} {d d' : D} {m : Loc} (h : st'.hi ≠ st.hi) (h1 : frz st.hi st' 3 d = some d') (h2 : Q d' (st'.cut st.hi)) : finK Q st (.ret d) m st' := by
  show (if st'.hi = st.hi then _ else _)
  rw [if_neg h]; exact ⟨d', h1, h2⟩
section
variable {Γ : Ctx} {mt : Str → Bool} {n : Nat} {trk : Bool} {kd : Kd} {m : Loc} {st : St} {Q : D → St → Prop} {K : Bool → St → Prop} {KI : List D → (Nat → Bool) → St → Prop} {KS : Fl → Loc → St → Prop} {KL : List D → St → Prop}

-- names
theorem gl_l {x : Str} (h : kd x = some .local) : isGl kd x = false := by simp only [isGl, h]; rfl
theorem gl_c {x : Str} (h : kd x = some .cell) : isGl kd x = false := by simp only [isGl, h]; rfl
theorem gl_f {x : Str} (h : kd x = some .free) : isGl kd x = false := by simp only [isGl, h]; rfl
theorem gl_g {x : Str} (h : kd x = some .globalImplicit) : isGl kd x = true := by simp only [isGl, h]; rfl
theorem own_l {x : Str} (h : kd x = some .local) : isOwn kd x = true := by simp only [isOwn, h]; rfl
theorem own_c {x : Str} (h : kd x = some .cell) : isOwn kd x = true := by simp only [isOwn, h]; rfl
theorem nm_l {x : Str} (h : kd x = some .local) : wName Γ kd x m st Q = ∃ d, m x = some d ∧ Q d st := by unfold wName; rw [gl_l h]; rfl
theorem nm_c {x : Str} (h : kd x = some .cell) : wName Γ kd x m st Q = ∃ d, m x = some d ∧ Q d st := by unfold wName; rw [gl_c h]; rfl
theorem nm_f {x : Str} (h : kd x = some .free) : wName Γ kd x m st Q = ∃ d, m x = some d ∧ Q d st := by unfold wName; rw [gl_f h]; rfl
theorem nm_g {x : Str} (h : kd x = some .globalImplicit) : wName Γ kd x m st Q = ∃ d, Γ.gl x = some d ∧ Q d st := by unfold wName; rw [gl_g h]; rfl
theorem upd_str {a b : String} {d : D} : upd m (Str.ofString a) d (Str.ofString b) = if b = a then some d else m (Str.ofString b) := by
  unfold upd
  by_cases h : b = a
  · subst h; rw [if_pos rfl, if_pos rfl]
  · rw [if_neg h, if_neg fun e => h (ofString_inj.mp e)]
theorem lk_str {a b : String} {k : NameKind} {l : List (Str × NameKind)} : List.lookup (Str.ofString b) ((Str.ofString a, k) :: l) = if b = a then some k else List.lookup (Str.ofString b) l := by
  rw [List.lookup_cons, ofString_beq]
  by_cases h : b = a
  · subst h; rw [if_pos rfl, beq_self_eq_true]
  · rw [if_neg h, beq_eq_false_iff_ne.mpr h]
theorem call_n {x : Str} {ds : List D} (h : Γ.fn x = none) : wCallN Γ trk x ds st Q = wBuiltin trk x ds st Q := by unfold wCallN; rw [h]
theorem call_s {x : Str} {ds : List D} {S : FSpec} (h : Γ.fn x = some S) : wCallN Γ trk x ds st Q = S ds st Q := by unfold wCallN; rw [h]

-- expressions
theorem e_none {a} {p} : wE Γ (n + 1) trk kd (.Constant .none a p) m st Q = Q .none st := rfl
theorem e_bool {b a} {p} : wE Γ (n + 1) trk kd (.Constant (.bool b) a p) m st Q = Q (.bool b) st := rfl
theorem e_int {b a} {p} : wE Γ (n + 1) trk kd (.Constant (.int b) a p) m st Q = Q (.int b) st := rfl
theorem e_str {b a} {p} : wE Γ (n + 1) trk kd (.Constant (.str b) a p) m st Q = Q (.str b) st := rfl
theorem e_name {x p} : wE Γ (n + 1) trk kd (.Name x p) m st Q = wName Γ kd x m st Q := rfl
theorem e_boolop {op es p} : wE Γ (n + 1) trk kd (.BoolOp op es p) m st Q = wBool Γ n op kd es m st Q := rfl
theorem e_bin {l op r p} : wE Γ (n + 1) trk kd (.BinOp l op r p) m st Q = wE Γ n false kd l m st (fun a st1 => wE Γ n false kd r m st1 fun b st2 => wBin trk op a b st2 Q) := rfl
theorem e_un {op x p} : wE Γ (n + 1) trk kd (.UnaryOp op x p) m st Q = wE Γ n false kd x m st (fun a st1 => wUn op a st1 Q) := rfl
theorem e_cmp {l ops rs p} : wE Γ (n + 1) trk kd (.Compare l ops rs p) m st Q = wE Γ n false kd l m st (fun a st1 => wChain Γ n kd a ops rs m st1 fun b st2 => Q (.bool b) st2) := rfl
theorem e_call {x c args p} : wE Γ (n + 1) trk kd (.Call (.Name x c) args [] p) m st Q = (isGl kd x = true ∧ noStars args = true ∧ (Γ.fn x = none → isBltP x) ∧ wEs Γ n false kd args m st fun ds st1 => wCallN Γ trk x ds st1 Q) := rfl
theorem e_meth0 {o nm ap p} : wE Γ (n + 1) trk kd (.Call (.Attribute o nm ap) [] [] p) m st Q = (isCallE o = false ∧ (ap.endLine == p.line) = true ∧ wE Γ n false kd o m st fun d st1 => wMeth nm d [] st1 Q) := rfl
theorem e_meth1 {o nm ap e p} : wE Γ (n + 1) trk kd (.Call (.Attribute o nm ap) [e] [] p) m st Q = (isCallE o = false ∧ (ap.endLine == p.line) = true ∧ isMeth1 nm ∧ noStars [e] = true ∧ wE Γ n false kd o m st fun d st1 => (lstD st1 d).isSome = true ∧ wE Γ n false kd e m st1 fun x st2 => wMeth nm d [x] st2 Q) := rfl
theorem e_slice {v l u sp q p} : wE Γ (n + 1) trk kd (.Subscript v (.Slice l u sp q) p) m st Q = wE Γ n false kd v m st (fun d st1 => wOpt Γ n kd l m st1 fun a st2 => wOpt Γ n kd u m st2 fun b st3 => wOpt Γ n kd sp m st3 fun c st4 => wSlice trk d a b c st4 Q) := rfl
theorem e_itemC {v a b c p} : wE Γ (n + 1) trk kd (.Subscript v (.Constant a b c) p) m st Q = wE Γ n false kd v m st (fun d st1 => wE Γ n false kd (.Constant a b c) m st1 fun i st2 => wItem d i st2 Q) := rfl
theorem e_itemN {v a b p} : wE Γ (n + 1) trk kd (.Subscript v (.Name a b) p) m st Q = wE Γ n false kd v m st (fun d st1 => wE Γ n false kd (.Name a b) m st1 fun i st2 => wItem d i st2 Q) := rfl
theorem e_itemB {v a b c q p} : wE Γ (n + 1) trk kd (.Subscript v (.BinOp a b c q) p) m st Q = wE Γ n false kd v m st (fun d st1 => wE Γ n false kd (.BinOp a b c q) m st1 fun i st2 => wItem d i st2 Q) := rfl
theorem e_itemS {v a b q p} : wE Γ (n + 1) trk kd (.Subscript v (.Subscript a b q) p) m st Q = wE Γ n false kd v m st (fun d st1 => wE Γ n false kd (.Subscript a b q) m st1 fun i st2 => wItem d i st2 Q) := rfl
theorem e_tup {es a p} : wE Γ (n + 1) trk kd (.Tuple es a p) m st Q = wEs Γ n trk kd es m st (fun ds st1 => ds.length ≤ lim ∧ Q (.tup ds) st1) := rfl
theorem e_list {es p} : wE Γ (n + 1) trk kd (.List es p) m st Q = wEs Γ n trk kd es m st (fun ds st1 => mkList trk ds st1 Q) := rfl
theorem e_comp0 {elt t it sc p} : wE Γ (n + 1) trk kd (.ListComp elt [⟨t, it, [], 0⟩] sc p) m st Q = (ScopeOk kd sc ∧ wIter Γ n kd t it m st fun items p st1 =>
        wComp (fun d st2 k => wTarget (fun x => sc.names.lookup x) t d (fun x => if sc.names.lookup x = some .free then m x else none) fun m1 =>
          wE Γ n trk (fun x => sc.names.lookup x) elt m1 st2 fun x st4 => k (some x) st4)
          items [] (st1.hide p) fun acc st5 => mkList trk acc (st5.back st1 p) Q) := rfl
theorem e_comp1 {elt t it c sc p} : wE Γ (n + 1) trk kd (.ListComp elt [⟨t, it, [c], 0⟩] sc p) m st Q = (ScopeOk kd sc ∧ wIter Γ n kd t it m st fun items p st1 =>
        wComp (fun d st2 k => wTarget (fun x => sc.names.lookup x) t d (fun x => if sc.names.lookup x = some .free then m x else none) fun m1 =>
          wT Γ n (fun x => sc.names.lookup x) c m1 st2 fun b st3 => if b then wE Γ n trk (fun x => sc.names.lookup x) elt m1 st3 fun x st4 => k (some x) st4 else k none st3)
          items [] (st1.hide p) fun acc st5 => mkList trk acc (st5.back st1 p) Q) := rfl
theorem es_nil : wEs Γ (n + 1) trk kd [] m st KL = KL [] st := rfl
theorem es_cons {e r} : wEs Γ (n + 1) trk kd (e :: r) m st KL = wE Γ n trk kd e m st (fun d st1 => wEs Γ n trk kd r m st1 fun ds st2 => KL (d :: ds) st2) := rfl
theorem o_none : wOpt Γ (n + 1) kd none m st Q = Q .none st := rfl
theorem o_some {e} : wOpt Γ (n + 1) kd (some e) m st Q = wE Γ n false kd e m st Q := rfl
theorem b_one {op x} : wBool Γ (n + 1) op kd [x] m st Q = wE Γ n false kd x m st Q := rfl
theorem b_two {op x y r} : wBool Γ (n + 1) op kd (x :: y :: r) m st Q = wE Γ n false kd x m st (fun d st1 => ∃ b, truth d = some b ∧ (if stopsAnd op b then Q d st1 else wBool Γ n op kd (y :: r) m st1 Q)) := rfl
theorem c_one {a op r} : wChain Γ (n + 1) kd a [op] [r] m st K = wE Γ n false kd r m st (fun b st1 => wCmp1 op a b st1 fun v => K v st1) := rfl
theorem c_two {a op o2 ops r r2 rs} : wChain Γ (n + 1) kd a (op :: o2 :: ops) (r :: r2 :: rs) m st K = wE Γ n false kd r m st (fun b st1 => wCmp1 op a b st1 fun v => if v then wChain Γ n kd b (o2 :: ops) (r2 :: rs) m st1 K else K false st1) := rfl
theorem t_not {x p} : wT Γ (n + 1) kd (.UnaryOp .Not x p) m st K = wT Γ n kd x m st (fun b st1 => K (!b) st1) := rfl
theorem t_bool {op es p} : wT Γ (n + 1) kd (.BoolOp op es p) m st K = wAll Γ n op kd es m st K := rfl
theorem t_cmp {l ops rs p} : wT Γ (n + 1) kd (.Compare l ops rs p) m st K = wE Γ n false kd l m st (fun a st1 => wChain Γ n kd a ops rs m st1 K) := rfl
theorem t_call {f a k p} : wT Γ (n + 1) kd (.Call f a k p) m st K = wE Γ n false kd (.Call f a k p) m st (fun d st1 => ∃ b, truth d = some b ∧ K b st1) := rfl
theorem a_nil {op} : wAll Γ (n + 1) op kd [] m st K = K (op == .And) st := rfl
theorem a_cons {op x r} : wAll Γ (n + 1) op kd (x :: r) m st K = wT Γ n kd x m st (fun b st1 => if stopsAnd op b then K b st1 else wAll Γ n op kd r m st1 K) := rfl
theorem i_zip {t fp args p} : wIter Γ (n + 1) kd t (.Call (.Name (Str.ofString "zip") fp) args [] p) m st KI = (isGl kd "zip" = true ∧ noStars args = true ∧ Γ.fn "zip" = none ∧ wEs Γ n false kd args m st fun ds st1 => iterCall t "zip" ds st1 fun xs p => KI xs p st1) := by
  unfold wIter; dsimp only; rw [if_pos (.inl rfl)]
theorem i_range {t fp args p} : wIter Γ (n + 1) kd t (.Call (.Name (Str.ofString "range") fp) args [] p) m st KI = (isGl kd "range" = true ∧ noStars args = true ∧ Γ.fn "range" = none ∧ wEs Γ n false kd args m st fun ds st1 => iterCall t "range" ds st1 fun xs p => KI xs p st1) := by
  unfold wIter; dsimp only; rw [if_pos (.inr (.inl rfl))]
theorem i_enum {t fp args p} : wIter Γ (n + 1) kd t (.Call (.Name (Str.ofString "enumerate") fp) args [] p) m st KI = (isGl kd "enumerate" = true ∧ noStars args = true ∧ Γ.fn "enumerate" = none ∧ wEs Γ n false kd args m st fun ds st1 => iterCall t "enumerate" ds st1 fun xs p => KI xs p st1) := by
  unfold wIter; dsimp only; rw [if_pos (.inr (.inr rfl))]
theorem i_call {t f fp args p} (h : (f = "zip" ∨ f = "range" ∨ f = "enumerate") = False) : wIter Γ (n + 1) kd t (.Call (.Name (Str.ofString f) fp) args [] p) m st KI = wE Γ n false kd (.Call (.Name (Str.ofString f) fp) args [] p) m st (fun d st1 => wIterD d st1 fun xs p => xs.length ≤ lim ∧ KI xs p st1) := by
  unfold wIter; dsimp only; rw [if_neg ?_]
  intro q
  rw [← h]
  rcases q with e | e | e
  · exact .inl (ofString_inj.mp e)
  · exact .inr (.inl (ofString_inj.mp e))
  · exact .inr (.inr (ofString_inj.mp e))
theorem i_name {t x q} : wIter Γ (n + 1) kd t (.Name x q) m st KI = wE Γ n false kd (.Name x q) m st (fun d st1 => wIterD d st1 fun xs p => xs.length ≤ lim ∧ KI xs p st1) := rfl
theorem i_sub {t x y q} : wIter Γ (n + 1) kd t (.Subscript x y q) m st KI = wE Γ n false kd (.Subscript x y q) m st (fun d st1 => wIterD d st1 fun xs p => xs.length ≤ lim ∧ KI xs p st1) := rfl
theorem i_list {t x q} : wIter Γ (n + 1) kd t (.List x q) m st KI = wE Γ n false kd (.List x q) m st (fun d st1 => wIterD d st1 fun xs p => xs.length ≤ lim ∧ KI xs p st1) := rfl

-- statements
theorem s_expr {v p} : wS Γ mt (n + 1) kd (.Expr v p) m st KS = (isCallE v = true ∧ wE Γ n false kd v m st fun d st1 => (match d with
      | .none => KS .next m st1
      | _ => False)) := rfl
theorem s_asgN {x c v p} : wS Γ mt (n + 1) kd (.Assign [.Name x c] v p) m st KS = (isOwn kd x = true ∧ wE Γ n (mt x) kd v m st fun d st1 => KS .next (upd m x d) st1) := rfl
theorem s_asgT {es k q v p} : wS Γ mt (n + 1) kd (.Assign [.Tuple es k q] v p) m st KS = (isTupE v = false ∧ wE Γ n false kd v m st fun d st1 => wTarget kd (.Tuple es k q) d m fun m1 => KS .next m1 st1) := rfl
theorem s_asgS {o i q v p} : wS Γ mt (n + 1) kd (.Assign [.Subscript o i q] v p) m st KS = (isSliceE i = false ∧ wE Γ n false kd v m st fun d st1 => wE Γ n false kd o m st1 fun od st2 => wE Γ n false kd i m st2 fun id st3 => wSetItem od id d st3 fun st4 => KS .next m st4) := rfl
theorem s_if {c a b p} : wS Γ mt (n + 1) kd (.If c a b p) m st KS = wT Γ n kd c m st (fun r st1 => if r then wSs Γ mt n kd a m st1 KS else wSs Γ mt n kd b m st1 KS) := rfl
theorem s_for {t it body p} : wS Γ mt (n + 1) kd (.For t it body [] p) m st KS = wIter Γ n kd t it m st (fun items p st1 =>
        wFor (fun d m st k => wTarget kd t d m fun m1 => wSs Γ mt n kd body m1 st k) items m (st1.hide p) fun fl m2 st2 => KS fl m2 (st2.back st1 p)) := rfl
theorem s_ret {e p} : wS Γ mt (n + 1) kd (.Return (some e) p) m st KS = wE Γ n false kd e m st (fun d st1 => KS (.ret d) m st1) := rfl
theorem ss_nil : wSs Γ mt (n + 1) kd [] m st KS = KS .next m st := rfl
theorem wSs_cons {s : Stmt} {r : List Stmt} : wSs Γ mt (n + 1) kd (s :: r) m st KS = wS Γ mt n kd s m st (thenK Γ mt n kd r KS) := rfl
theorem th_next {r : List Stmt} : thenK Γ mt n kd r KS .next m st = wSs Γ mt n kd r m st KS := rfl
theorem th_ret {r : List Stmt} {d : D} : thenK Γ mt n kd r KS (.ret d) m st = KS (.ret d) m st := rfl
theorem tg_name {x p} {d : D} {KK : Loc → Prop} : wTarget kd (.Name x p) d m KK = (isOwn kd x = true ∧ KK (upd m x d)) := rfl
end

-- operations on intsD and bools
section
variable {trk : Bool} {i j : Int} {st : St} {Q : D → St → Prop} {K : Bool → Prop}
theorem x_add : wBin trk .Add (.int i) (.int j) st Q = Q (.int (i + j)) st := rfl
theorem x_sub : wBin trk .Sub (.int i) (.int j) st Q = Q (.int (i - j)) st := rfl
theorem x_mul : wBin trk .Mult (.int i) (.int j) st Q = (IntMulOk i j ∧ Q (.int (i * j)) st) := rfl
theorem x_div : wBin trk .FloorDiv (.int i) (.int j) st Q = (0 < j ∧ j < 2 ^ 30 ∧ Q (.int (i / j)) st) := rfl
theorem x_mod : wBin trk .Mod (.int i) (.int j) st Q = (0 < j ∧ Q (.int (i % j)) st) := rfl
theorem x_pow : wBin trk .Pow (.int i) (.int j) st Q = (i = 10 ∧ j = 20 ∧ Q (.int (10 ^ 20)) st) := rfl
theorem x_addT {xs ys : List D} : wBin trk .Add (.tup xs) (.tup ys) st Q = (xs.length + ys.length ≤ lim ∧ Q (.tup (xs ++ ys)) st) := rfl
theorem x_addL {xs ys : List D} : wBin trk .Add (.list xs) (.list ys) st Q = mkList trk (xs ++ ys) st Q := by
  show (∃ a b, some xs = some a ∧ some ys = some b ∧ mkList trk (a ++ b) st Q) = _
  exact propext ⟨fun ⟨a, b, h1, h2, h⟩ => by cases h1; cases h2; exact h, fun h => ⟨xs, ys, rfl, rfl, h⟩⟩
theorem x_mulL {xs : List D} : wBin trk .Mult (.list xs) (.int j) st Q = (-lim ≤ j ∧ j < lim ∧ xs.length ≤ 1 ∧ mkList trk (List.replicate j.toNat xs).flatten st Q) := by
  show (∃ a, some xs = some a ∧ -(lim : Int) ≤ j ∧ j < lim ∧ a.length ≤ 1 ∧ mkList trk (List.replicate j.toNat a).flatten st Q) = _
  simp only [Option.some.injEq, exists_eq_left']
theorem x_neg : wUn .USub (.int i) st Q = Q (.int (-i)) st := rfl
theorem x_not {b : Bool} : wUn .Not (.bool b) st Q = Q (.bool (!b)) st := by
  show (∃ c, some b = some c ∧ Q (.bool (!c)) st) = _
  simp only [Option.some.injEq, exists_eq_left']
theorem x_lt : wCmp1 .Lt (.int i) (.int j) st K = K (decide (i < j)) := rfl
theorem x_le : wCmp1 .LtE (.int i) (.int j) st K = K (decide (i ≤ j)) := rfl
theorem x_gt : wCmp1 .Gt (.int i) (.int j) st K = K (decide (i > j)) := rfl
theorem x_ge : wCmp1 .GtE (.int i) (.int j) st K = K (decide (i ≥ j)) := rfl
theorem x_eq : wCmp1 .Eq (.int i) (.int j) st K = K (i == j) := rfl
theorem x_ne : wCmp1 .NotEq (.int i) (.int j) st K = K (!(i == j)) := rfl
theorem x_eqS {a b : Str} : wCmp1 .Eq (.str a) (.str b) st K = K (a == b) := rfl
theorem x_neS {a b : Str} : wCmp1 .NotEq (.str a) (.str b) st K = K (!(a == b)) := rfl
theorem tr_bool {b : Bool} : truth (.bool b) = some b := rfl
theorem mk_f {ds : List D} : mkList false ds st Q = (ds.length ≤ lim ∧ Q (.list ds) st) := rfl
theorem mk_t {ds : List D} : mkList true ds st Q = (ds.length ≤ lim ∧ Q (.loc st.hi) (st.alloc (.list ds))) := rfl
theorem sa_af : stopsAnd .And false = true := rfl
theorem sa_at : stopsAnd .And true = false := rfl
theorem sa_of : stopsAnd .Or false = false := rfl
theorem sa_ot : stopsAnd .Or true = true := rfl
theorem it_list {ds : List D} {KI : List D → (Nat → Bool) → Prop} : wIterD (.list ds) st KI = KI ds (fun _ => false) := by
  show (∃ xs, some ds = some xs ∧ KI xs fun _ => false) = _
  simp only [Option.some.injEq, exists_eq_left']
theorem it_tup {ds : List D} {KI : List D → (Nat → Bool) → Prop} : wIterD (.tup ds) st KI = KI ds (fun _ => false) := by
  show (∃ xs, some ds = some xs ∧ KI xs fun _ => false) = _
  simp only [Option.some.injEq, exists_eq_left']
theorem it_loc {k : Nat} {ds : List D} (h : st.cs k = some (.list ds)) {KI : List D → (Nat → Bool) → Prop} : wIterD (.loc k) st KI = KI ds (fun q => q == k) := by
  show (∃ xs, st.cs k = some (.list xs) ∧ KI xs fun q => q == k) = _
  rw [h]; simp only [Option.some.injEq, Cell.list.injEq, exists_eq_left']
theorem ic_zip {t : Expr} {a b : D} {xs ys : List D} (ha : seqD st a = some xs) (hb : seqD st b = some ys) {KI : List D → (Nat → Bool) → Prop} : iterCall t "zip" [a, b] st KI = (isTupE t = true ∧ xs.length ≤ lim ∧ ys.length ≤ lim ∧ KI (zipL xs ys) (fun k => pinOf a k || pinOf b k)) := by
  unfold iterCall; rw [if_pos rfl]
  refine propext ⟨fun ⟨h, a', b', xs', ys', e, h1, h2, h3⟩ => ?_, fun ⟨h, h3⟩ => ⟨h, a, b, xs, ys, rfl, ha, hb, h3⟩⟩
  cases e; rw [ha] at h1; rw [hb] at h2; cases h1; cases h2; exact ⟨h, h3⟩
theorem ic_zip_tl {t : Expr} {xs ys : List D} {KI : List D → (Nat → Bool) → Prop} : iterCall t "zip" [.tup xs, .list ys] st KI = (isTupE t = true ∧ xs.length ≤ lim ∧ ys.length ≤ lim ∧ KI (zipL xs ys) (fun _ => false)) := ic_zip rfl rfl
theorem ic_enum {t : Expr} {a : D} {xs : List D} (ha : lstD st a = some xs) {KI : List D → (Nat → Bool) → Prop} : iterCall t "enumerate" [a] st KI = (isTupE t = true ∧ xs.length ≤ lim ∧ KI (enumL xs) (pinOf a)) := by
  unfold iterCall; rw [if_neg (by decide +kernel), if_pos rfl]
  refine propext ⟨fun ⟨h, a', xs', e, h1, h3⟩ => ?_, fun ⟨h, h3⟩ => ⟨h, a, xs, rfl, ha, h3⟩⟩
  cases e; rw [ha] at h1; cases h1; exact ⟨h, h3⟩
theorem ic_range1 {t : Expr} {KI : List D → (Nat → Bool) → Prop} : iterCall t "range" [.int i] st KI = (i ≤ lim ∧ -lim ≤ i ∧ KI (rangeL 0 i) fun _ => false) := by
  unfold iterCall; rw [if_neg (by decide +kernel), if_neg (by decide +kernel), if_pos rfl]
  refine propext ⟨fun h => ?_, fun h => .inl ⟨i, rfl, h⟩⟩
  rcases h with ⟨i', e, h⟩ | ⟨i', j', e, h⟩ <;> cases e; exact h
theorem ic_range2 {t : Expr} {KI : List D → (Nat → Bool) → Prop} : iterCall t "range" [.int i, .int j] st KI = (i ≤ lim ∧ -lim ≤ i ∧ j ≤ lim ∧ -lim ≤ j ∧ KI (rangeL i j) fun _ => false) := by
  unfold iterCall; rw [if_neg (by decide +kernel), if_neg (by decide +kernel), if_pos rfl]
  refine propext ⟨fun h => ?_, fun h => .inr ⟨i, j, rfl, h⟩⟩
  rcases h with ⟨i', e, h⟩ | ⟨i', j', e, h⟩ <;> cases e; exact h
end
theorem bo_oa : (BoolOp.Or == BoolOp.And) = false := rfl
theorem bo_aa : (BoolOp.And == BoolOp.And) = true := rfl
theorem p_int {k : Int} : pinOf (.int k) = fun _ => false := rfl
theorem p_tup {k : List D} : pinOf (.tup k) = fun _ => false := rfl
theorem p_list {k : List D} : pinOf (.list k) = fun _ => false := rfl
theorem blt1 : isBltP "len" = True := eq_true (.inl rfl)
theorem blt2 : isBltP "isinstance" = True := eq_true (.inr (.inl rfl))
theorem blt3 : isBltP "list" = True := eq_true (.inr (.inr (.inl rfl)))
theorem blt4 : isBltP "tuple" = True := eq_true (.inr (.inr (.inr (.inl rfl))))
theorem blt5 : isBltP "min" = True := eq_true (.inr (.inr (.inr (.inr (.inl rfl)))))
theorem blt6 : isBltP "max" = True := eq_true (.inr (.inr (.inr (.inr (.inr (.inl rfl))))))
theorem blt7 : isBltP "sum" = True := eq_true (.inr (.inr (.inr (.inr (.inr (.inr rfl))))))
theorem me_append : isMeth1 "append" = True := eq_true (.inl rfl)
theorem me_extend : isMeth1 "extend" = True := eq_true (.inr (.inl rfl))
theorem me_index : isMeth1 "index" = True := eq_true (.inr (.inr rfl))
theorem ns_nil : noStars [] = true := rfl
theorem fn_intro {Γ : Ctx} {mt : Str → Bool} {n : Nat} {kd : Kd} {params : List Str} {body : List Stmt} {ds : List D} {st : St} {Q : D → St → Prop} (h : ds.length = params.length)
    (h1 : wSs Γ mt n kd body (bindM params ds) st (finK Q st)) : wFn Γ mt n kd params body ds st Q := ⟨h, h1⟩
noncomputable def bodyOf (p : Program) (i : Nat) : List Stmt := match p.main.body[i]? with
  | some (.FunctionDef _ _ b _ _ _ _ _ _ _) => b
  | _ => []
noncomputable def kdOf (p : Program) (i : Nat) : Kd := match p.main.body[i]? with
  | some (.FunctionDef _ _ _ _ _ _ s _ _ _) => fun x => s.names.lookup x
  | _ => fun _ => none
theorem bind_nil : bindM [] [] = fun _ => none := rfl
theorem bind_cons {x : Str} {xs : List Str} {d : D} {ds : List D} : bindM (x :: xs) (d :: ds) = upd (bindM xs ds) x d := rfl

section
variable {kd : Kd} {m : Loc} {KK : Loc → Prop}
theorem tg_two {x y : Str} {p q r : Pos} {c : Nat} {a b : D} : wTarget kd (.Tuple [.Name x p, .Name y q] c r) (.tup [a, b]) m KK = (isOwn kd x = true ∧ isOwn kd y = true ∧ KK (upd (upd m x a) y b)) := by
  refine propext ⟨fun ⟨xs, ds, h1, h2, h3, h4, h5⟩ => ?_, fun ⟨h1, h2, h3⟩ => ⟨[x, y], [a, b], rfl, by simp only [List.all, h1, h2, Bool.and_self], rfl, rfl, h3⟩⟩
  cases h1; cases h3
  simp only [List.all, Bool.and_true, Bool.and_eq_true] at h2
  exact ⟨h2.1, h2.2, h5⟩
end
theorem wFor_inv {step : D → Loc → St → (Fl → Loc → St → Prop) → Prop} {Q : Fl → Loc → St → Prop} (I : Nat → Loc → St → Prop) : ∀ (items pre : List D) {m : Loc} {st : St}, I pre.length m st →
    (∀ i d m st K, (pre ++ items)[i]? = some d → I i m st → (∀ m' st', I (i + 1) m' st' → K .next m' st') → step d m st K) → (∀ m st, I (pre ++ items).length m st → Q .next m st) → wFor step items m st Q
  | [], pre, m, st, h0, _, hQ => hQ m st (by simpa using h0)
  | d :: ds, pre, m, st, h0, hs, hQ => by
    refine hs pre.length d m st _ (by simp) h0 fun m' st' h1 => ?_
    refine wFor_inv I ds (pre ++ [d]) (by simpa using h1) (fun i d m st K hi => hs i d m st K (by simpa using hi)) fun m st h => hQ m st (by simpa using h)

theorem wItem_lit {d : D} {k : Int} {st : St} {Q : D → St → Prop} (h0 : 0 ≤ k) (h1 : k < 1000000) : wItem d (.int k) st Q = ∃ xs, seqD st d = some xs ∧ ∃ x, xs[k.toNat]? = some x ∧ Q x st := by
  have q : ¬ k < 0 := by omega
  refine propext ⟨fun h => ?_, fun h => ?_⟩
  · obtain ⟨_, _, xs, j, x, hx, _, hj, hg, hq⟩ := h
    refine ⟨xs, hx, x, ?_, hq⟩
    unfold seqIndex? at hj
    simp only [if_neg q] at hj
    split at hj
    · cases hj; exact hg
    · cases hj
  · obtain ⟨xs, hx, x, hg, hq⟩ := h
    have hl : k.toNat < xs.length := (List.getElem?_eq_some_iff.mp hg).1
    refine ⟨by omega, by omega, xs, k.toNat, x, hx, .inl h0, ?_, hg, hq⟩
    unfold seqIndex?
    simp only [if_neg q]
    rw [if_pos (by rw [Bool.and_eq_true]; exact ⟨decide_eq_true h0, decide_eq_true (by omega)⟩)]

theorem hide_back (st : St) (p : Nat → Bool) : (st.hide p).back st p = st := by
  obtain ⟨hi, cs⟩ := st
  simp only [St.hide, St.back, St.mk.injEq, true_and]
  funext k
  cases p k <;> rfl

noncomputable def dI (ns : List Int) : List D := ns.map .int
theorem dI_len (ns : List Int) : (dI ns).length = ns.length := by simp [dI]
theorem zip_get {ns hs : List Int} {i : Nat} {d : D} (h : (zipL (dI ns) (dI hs))[i]? = some d) : ∃ a b, ns[i]? = some a ∧ hs[i]? = some b ∧ d = .tup [.int a, .int b] := by
  simp only [zipL, dI, List.getElem?_map, Option.map_eq_some_iff] at h
  obtain ⟨⟨x, y⟩, h1, rfl⟩ := h
  rw [List.getElem?_zip_eq_some] at h1
  simp only [List.getElem?_map, Option.map_eq_some_iff] at h1
  obtain ⟨⟨a, ha, rfl⟩, b, hb, rfl⟩ := h1
  exact ⟨a, b, ha, hb, rfl⟩

noncomputable def Big (i : Int) : Prop := i.natAbs < 2 ^ 1000
theorem mulOk {i j : Int} (hi : Big i) (hj : Big j) : IntMulOk i j := IntMulOk.of_bits (Nat.le_trans (PyProof.Rows.intBits_le hi) (by decide)) (Nat.le_trans (PyProof.Rows.intBits_le hj) (by decide))
noncomputable def dot : List Int → List Int → Int
  | a :: as, b :: bs => a * b + dot as bs
  | _, _ => 0
theorem dot_take : ∀ (ns hs : List Int) (i : Nat) (a b : Int), ns[i]? = some a → hs[i]? = some b → dot (ns.take (i + 1)) (hs.take (i + 1)) = dot (ns.take i) (hs.take i) + a * b
  | n :: ns, h :: hs, 0, a, b, h1, h2 => by simp at h1 h2; subst h1; subst h2; simp [dot]
  | n :: ns, h :: hs, i + 1, a, b, h1, h2 => by
    have := dot_take ns hs i a b (by simpa using h1) (by simpa using h2)
    simp only [List.take_succ_cons, dot, this]; omega
  | [], _, _, _, _, h1, _ => by simp at h1
  | _ :: _, [], _, _, _, _, h2 => by simp at h2
theorem dot_min (ns hs : List Int) : dot (ns.take (min ns.length hs.length)) (hs.take (min ns.length hs.length)) = dot ns hs := by
  induction ns generalizing hs with
  | nil => simp [dot]
  | cons n ns ih =>
    cases hs with
    | nil => simp [dot]
    | cons h hs => simp only [List.length_cons, Nat.succ_min_succ, List.take_succ_cons, dot, ih]

theorem seqD_tup {st : St} {ds : List D} : seqD st (.tup ds) = some ds := rfl
theorem seqD_list {st : St} {ds : List D} : seqD st (.list ds) = some ds := rfl

theorem b_len {trk : Bool} {d : D} {st : St} {Q : D → St → Prop} : wBuiltin trk "len" [d] st Q = ∃ xs, seqD st d = some xs ∧ xs.length ≤ lim ∧ Q (.int xs.length) st := by
  unfold wBuiltin
  rw [if_pos rfl]
  refine propext ⟨fun ⟨d', xs, e, h⟩ => ?_, fun ⟨xs, h⟩ => ⟨d, xs, rfl, h⟩⟩
  cases e; exact ⟨xs, h⟩
theorem b_isinstance {trk : Bool} {d : D} {T : String} {st : St} {Q : D → St → Prop} : wBuiltin trk "isinstance" [d, .val (.type T)] st Q = ∃ b, typeIs d T = some b ∧ Q (.bool b) st := by
  unfold wBuiltin
  rw [if_neg (by decide +kernel), if_pos rfl]
  refine propext ⟨fun ⟨d', T', b, e, h⟩ => ?_, fun ⟨b, h⟩ => ⟨d, T, b, rfl, h⟩⟩
  cases e; exact ⟨b, h⟩
theorem b_list {trk : Bool} {d : D} {st : St} {Q : D → St → Prop} : wBuiltin trk "list" [d] st Q = ∃ xs, seqD st d = some xs ∧ mkList trk xs st Q := by
  unfold wBuiltin
  rw [if_neg (by decide +kernel), if_neg (by decide +kernel), if_pos rfl]
  refine propext ⟨fun ⟨d', xs, e, h⟩ => ?_, fun ⟨xs, h⟩ => ⟨d, xs, rfl, h⟩⟩
  cases e; exact ⟨xs, h⟩
theorem b_tuple {trk : Bool} {d : D} {st : St} {Q : D → St → Prop} : wBuiltin trk "tuple" [d] st Q = ∃ xs, lstD st d = some xs ∧ xs.length ≤ lim ∧ Q (.tup xs) st := by
  unfold wBuiltin
  rw [if_neg (by decide +kernel), if_neg (by decide +kernel), if_neg (by decide +kernel), if_pos rfl]
  refine propext ⟨fun ⟨d', xs, e, h⟩ => ?_, fun ⟨xs, h⟩ => ⟨d, xs, rfl, h⟩⟩
  cases e; exact ⟨xs, h⟩
theorem b_sum {trk : Bool} {d : D} {st : St} {Q : D → St → Prop} : wBuiltin trk "sum" [d] st Q = ∃ xs, lstD st d = some xs ∧ ∃ is, intsD xs = some is ∧ Q (.int is.sum) st := by
  unfold wBuiltin
  rw [if_neg (by decide +kernel), if_neg (by decide +kernel), if_neg (by decide +kernel), if_neg (by decide +kernel), if_neg (by decide +kernel), if_neg (by decide +kernel), if_pos rfl]
  refine propext ⟨fun ⟨d', xs, is, e, h1, h⟩ => ?_, fun ⟨xs, h1, is, h⟩ => ⟨d, xs, is, rfl, h1, h⟩⟩
  cases e; exact ⟨xs, h1, is, h⟩
theorem hide_false (st : St) : st.hide (fun _ => false) = st := rfl
theorem back_false (st st' : St) : st.back st' (fun _ => false) = st := rfl
theorem rangeN_get {n i : Nat} {d : D} (h : (rangeL 0 (n : Int))[i]? = some d) : i < n ∧ d = .int (i : Int) := by
  simp only [rangeL, Int.sub_zero, Int.toNat_natCast, List.getElem?_map, Option.map_eq_some_iff] at h
  obtain ⟨a, h1, rfl⟩ := h
  obtain ⟨h2, h3⟩ := List.getElem?_eq_some_iff.mp h1
  simp at h2 h3
  subst h3
  exact ⟨h2, by simp⟩
theorem rangeN_len (n : Nat) : (rangeL 0 (n : Int)).length = n := by simp [rangeL]
theorem wItem_nat {d : D} {i : Nat} {st : St} {Q : D → St → Prop} (h : i < 1000000) : wItem d (.int (i : Int)) st Q = ∃ xs, seqD st d = some xs ∧ ∃ x, xs[i]? = some x ∧ Q x st := by
  rw [wItem_lit (by omega) (by omega)]; simp
theorem dI_get {ns : List Int} {i : Nat} {a : Int} (h : ns[i]? = some a) : (dI ns)[i]? = some (.int a) := by simp [dI, h]
theorem getI {ns : List Int} {i : Nat} (h : i < ns.length) : ∃ a, ns[i]? = some a ∧ a ∈ ns := ⟨ns[i], by simp [h], by simp⟩

theorem two_lim : (2 ≤ lim) = True := eq_true (by decide)
theorem ti_ii {k : Int} : typeIs (.int k) "int" = some true := rfl
theorem ti_ib {k : Int} : typeIs (.int k) "bool" = some false := by simp [typeIs]
theorem ti_tt {ds : List D} : typeIs (.tup ds) "tuple" = some true := by simp [typeIs]
theorem lstD_list {st : St} {ds : List D} : lstD st (.list ds) = some ds := rfl

theorem wComp_list {α : Type} {step : D → St → (Option D → St → Prop) → Prop} {Q : List D → St → Prop} (emb g : α → D) {st : St} : ∀ (l : List α) (acc : List D), (∀ a ∈ l, ∀ k, k (some (g a)) st → step (emb a) st k) → Q (acc ++ l.map g) st → wComp step (l.map emb) acc st Q
  | [], acc, _, hQ => by simpa [wComp] using hQ
  | a :: l, acc, hs, hQ => by
    refine hs a (.head _) _ ?_
    exact wComp_list emb g l (acc ++ [g a]) (fun b hb => hs b (.tail _ hb)) (by simpa using hQ)
theorem wComp_none {step : D → St → (Option D → St → Prop) → Prop} {Q : List D → St → Prop} {st : St} : ∀ (l : List D) (acc : List D), (∀ a ∈ l, ∀ k, k none st → step a st k) → Q acc st → wComp step l acc st Q
  | [], acc, _, hQ => hQ
  | a :: l, acc, hs, hQ => by
    refine hs a (.head _) _ ?_
    exact wComp_none l acc (fun b hb => hs b (.tail _ hb)) hQ


end Mine
end

section
set_option autoImplicit false
set_option linter.unusedSimpArgs false
set_option linter.unusedVariables false
set_option maxRecDepth 100000
namespace Mine
open PySem
theorem value_ok {Γ : Ctx} (hz : Γ.fn "zip" = none) (ns hs : List Int) (c : Int) (fill : D) (st : St) (Q : D → St → Prop) (hf : seqD st fill = some (dI hs)) (hl1 : ns.length ≤ 1000) (hl2 : hs.length ≤ 1000)
    (hb1 : ∀ a ∈ ns, Big a) (hb2 : ∀ a ∈ hs, Big a) (hQ : Q (.int (c + dot ns hs)) st) :
    wFn Γ (fun _ => false) 40 (kdOf PySem.Challenge.pw_uf010033_01 1) ["one", "filling"] (bodyOf PySem.Challenge.pw_uf010033_01 1) [.tup [.tup (dI ns), .int c], fill] st Q := by
  refine fn_intro rfl ?_
  generalize hkd : kdOf PySem.Challenge.pw_uf010033_01 1 = kd
  obtain ⟨kd0, kd1, kd2, kd3, kd4, kd5⟩ : kd "one" = some .local ∧ kd "filling" = some .local ∧ kd "found" = some .local ∧ kd "number" = some .local ∧ kd "held" = some .local ∧ kd "zip" = some .globalImplicit := by
    subst hkd; exact ⟨rfl, rfl, rfl, rfl, rfl, rfl⟩
  clear hkd
  dsimp only [bodyOf, PySem.Challenge.pw_uf010033_01, List.getElem?_cons_succ, List.getElem?_cons_zero]
  rw [wSs_cons]
  simp only [gl_l, gl_c, gl_f, gl_g, own_l, own_c, nm_l, nm_c, nm_f, nm_g, upd_str, lk_str, call_n, call_s, e_none, e_bool, e_int, e_str, e_name, e_boolop, e_bin, e_un, e_cmp, e_call, e_meth0, e_meth1, e_slice, e_itemC, e_itemN, e_itemB, e_itemS, e_tup, e_list, e_comp0, e_comp1, es_nil, es_cons, o_none, o_some, b_one, b_two, c_one, c_two, t_not, t_bool, t_cmp, t_call, a_nil, a_cons, i_zip, i_range, i_enum, i_call, i_name, i_sub, i_list, s_expr, s_asgN, s_asgT, s_asgS, s_if, s_for, s_ret, ss_nil, th_next, th_ret, fin_ret, tg_name, tg_two, x_add, x_sub, x_mul, x_div, x_mod, x_pow, x_addT, x_addL, x_mulL, x_neg, x_not, x_lt, x_le, x_gt, x_ge, x_eq, x_ne, x_eqS, x_neS, tr_bool, mk_f, mk_t, sa_af, sa_at, sa_of, sa_ot, it_list, it_tup, ic_zip_tl, ic_range1, ic_range2, p_int, p_tup, p_list, blt1, blt2, blt3, blt4, blt5, blt6, blt7, me_append, me_extend, me_index, ns_nil, bind_nil, bind_cons, b_len, b_isinstance, b_list, b_tuple, b_sum, ti_ii, ti_ib, ti_tt, hide_false, back_false, wItem_lit, seqD_tup, seqD_list, lstD_list, String.reduceEq, ↓reduceIte, or_self, Option.some.injEq, reduceCtorEq, if_true, if_false, true_and, and_true, exists_eq_left', exists_eq_left, Int.reduceLE, Int.reduceLT, Int.reduceToNat, List.getElem?_cons_succ, List.getElem?_cons_zero, Bool.false_eq_true, noStars, isStarE, List.all, Bool.not_false, Bool.not_true, Bool.and_self, isCallE, isTupE, isSliceE, forall_const, implies_true, Bool.or_self, ite_true, ite_false, List.length_cons, List.length_nil, Nat.reduceLeDiff, Int.reducePow, Nat.zero_add, Nat.reduceAdd, Nat.reduceBEq, decide_true, decide_false, kd0, kd1, kd2, kd3, kd4, kd5]
  rw [wSs_cons]
  simp only [gl_l, gl_c, gl_f, gl_g, own_l, own_c, nm_l, nm_c, nm_f, nm_g, upd_str, lk_str, call_n, call_s, e_none, e_bool, e_int, e_str, e_name, e_boolop, e_bin, e_un, e_cmp, e_call, e_meth0, e_meth1, e_slice, e_itemC, e_itemN, e_itemB, e_itemS, e_tup, e_list, e_comp0, e_comp1, es_nil, es_cons, o_none, o_some, b_one, b_two, c_one, c_two, t_not, t_bool, t_cmp, t_call, a_nil, a_cons, i_zip, i_range, i_enum, i_call, i_name, i_sub, i_list, s_expr, s_asgN, s_asgT, s_asgS, s_if, s_for, s_ret, ss_nil, th_next, th_ret, fin_ret, tg_name, tg_two, x_add, x_sub, x_mul, x_div, x_mod, x_pow, x_addT, x_addL, x_mulL, x_neg, x_not, x_lt, x_le, x_gt, x_ge, x_eq, x_ne, x_eqS, x_neS, tr_bool, mk_f, mk_t, sa_af, sa_at, sa_of, sa_ot, it_list, it_tup, ic_zip_tl, ic_range1, ic_range2, p_int, p_tup, p_list, blt1, blt2, blt3, blt4, blt5, blt6, blt7, me_append, me_extend, me_index, ns_nil, bind_nil, bind_cons, b_len, b_isinstance, b_list, b_tuple, b_sum, ti_ii, ti_ib, ti_tt, hide_false, back_false, wItem_lit, seqD_tup, seqD_list, lstD_list, String.reduceEq, ↓reduceIte, or_self, Option.some.injEq, reduceCtorEq, if_true, if_false, true_and, and_true, exists_eq_left', exists_eq_left, Int.reduceLE, Int.reduceLT, Int.reduceToNat, List.getElem?_cons_succ, List.getElem?_cons_zero, Bool.false_eq_true, noStars, isStarE, List.all, Bool.not_false, Bool.not_true, Bool.and_self, isCallE, isTupE, isSliceE, forall_const, implies_true, Bool.or_self, ite_true, ite_false, List.length_cons, List.length_nil, Nat.reduceLeDiff, Int.reducePow, Nat.zero_add, Nat.reduceAdd, Nat.reduceBEq, decide_true, decide_false, kd0, kd1, kd2, kd3, kd4, kd5, hz, ic_zip seqD_tup hf, dI_len]
  refine ⟨Nat.le_trans hl1 (by decide), Nat.le_trans hl2 (by decide), ?_⟩
  refine wFor_inv (fun i m' st' => st' = st.hide (fun k => false || pinOf fill k) ∧ m' "found" = some (.int (c + dot (ns.take i) (hs.take i)))) _ [] ⟨rfl, by simp [upd, dot]⟩ ?_ ?_
  · rintro i d m' st' K hd ⟨rfl, hm⟩ hK
    obtain ⟨a, b, ha, hb, rfl⟩ := zip_get hd
    try simp only [gl_l, gl_c, gl_f, gl_g, own_l, own_c, nm_l, nm_c, nm_f, nm_g, upd_str, lk_str, call_n, call_s, e_none, e_bool, e_int, e_str, e_name, e_boolop, e_bin, e_un, e_cmp, e_call, e_meth0, e_meth1, e_slice, e_itemC, e_itemN, e_itemB, e_itemS, e_tup, e_list, e_comp0, e_comp1, es_nil, es_cons, o_none, o_some, b_one, b_two, c_one, c_two, t_not, t_bool, t_cmp, t_call, a_nil, a_cons, i_zip, i_range, i_enum, i_call, i_name, i_sub, i_list, s_expr, s_asgN, s_asgT, s_asgS, s_if, s_for, s_ret, ss_nil, th_next, th_ret, fin_ret, tg_name, tg_two, x_add, x_sub, x_mul, x_div, x_mod, x_pow, x_addT, x_addL, x_mulL, x_neg, x_not, x_lt, x_le, x_gt, x_ge, x_eq, x_ne, x_eqS, x_neS, tr_bool, mk_f, mk_t, sa_af, sa_at, sa_of, sa_ot, it_list, it_tup, ic_zip_tl, ic_range1, ic_range2, p_int, p_tup, p_list, blt1, blt2, blt3, blt4, blt5, blt6, blt7, me_append, me_extend, me_index, ns_nil, bind_nil, bind_cons, b_len, b_isinstance, b_list, b_tuple, b_sum, ti_ii, ti_ib, ti_tt, hide_false, back_false, wItem_lit, seqD_tup, seqD_list, lstD_list, String.reduceEq, ↓reduceIte, or_self, Option.some.injEq, reduceCtorEq, if_true, if_false, true_and, and_true, exists_eq_left', exists_eq_left, Int.reduceLE, Int.reduceLT, Int.reduceToNat, List.getElem?_cons_succ, List.getElem?_cons_zero, Bool.false_eq_true, noStars, isStarE, List.all, Bool.not_false, Bool.not_true, Bool.and_self, isCallE, isTupE, isSliceE, forall_const, implies_true, Bool.or_self, ite_true, ite_false, List.length_cons, List.length_nil, Nat.reduceLeDiff, Int.reducePow, Nat.zero_add, Nat.reduceAdd, Nat.reduceBEq, decide_true, decide_false, kd0, kd1, kd2, kd3, kd4, kd5]
    rw [wSs_cons]
    simp only [gl_l, gl_c, gl_f, gl_g, own_l, own_c, nm_l, nm_c, nm_f, nm_g, upd_str, lk_str, call_n, call_s, e_none, e_bool, e_int, e_str, e_name, e_boolop, e_bin, e_un, e_cmp, e_call, e_meth0, e_meth1, e_slice, e_itemC, e_itemN, e_itemB, e_itemS, e_tup, e_list, e_comp0, e_comp1, es_nil, es_cons, o_none, o_some, b_one, b_two, c_one, c_two, t_not, t_bool, t_cmp, t_call, a_nil, a_cons, i_zip, i_range, i_enum, i_call, i_name, i_sub, i_list, s_expr, s_asgN, s_asgT, s_asgS, s_if, s_for, s_ret, ss_nil, th_next, th_ret, fin_ret, tg_name, tg_two, x_add, x_sub, x_mul, x_div, x_mod, x_pow, x_addT, x_addL, x_mulL, x_neg, x_not, x_lt, x_le, x_gt, x_ge, x_eq, x_ne, x_eqS, x_neS, tr_bool, mk_f, mk_t, sa_af, sa_at, sa_of, sa_ot, it_list, it_tup, ic_zip_tl, ic_range1, ic_range2, p_int, p_tup, p_list, blt1, blt2, blt3, blt4, blt5, blt6, blt7, me_append, me_extend, me_index, ns_nil, bind_nil, bind_cons, b_len, b_isinstance, b_list, b_tuple, b_sum, ti_ii, ti_ib, ti_tt, hide_false, back_false, wItem_lit, seqD_tup, seqD_list, lstD_list, String.reduceEq, ↓reduceIte, or_self, Option.some.injEq, reduceCtorEq, if_true, if_false, true_and, and_true, exists_eq_left', exists_eq_left, Int.reduceLE, Int.reduceLT, Int.reduceToNat, List.getElem?_cons_succ, List.getElem?_cons_zero, Bool.false_eq_true, noStars, isStarE, List.all, Bool.not_false, Bool.not_true, Bool.and_self, isCallE, isTupE, isSliceE, forall_const, implies_true, Bool.or_self, ite_true, ite_false, List.length_cons, List.length_nil, Nat.reduceLeDiff, Int.reducePow, Nat.zero_add, Nat.reduceAdd, Nat.reduceBEq, decide_true, decide_false, kd0, kd1, kd2, kd3, kd4, kd5, hm]
    refine ⟨mulOk (hb1 a (List.mem_of_getElem? ha)) (hb2 b (List.mem_of_getElem? hb)), hK _ _ ⟨rfl, ?_⟩⟩
    simp only [gl_l, gl_c, gl_f, gl_g, own_l, own_c, nm_l, nm_c, nm_f, nm_g, upd_str, lk_str, call_n, call_s, e_none, e_bool, e_int, e_str, e_name, e_boolop, e_bin, e_un, e_cmp, e_call, e_meth0, e_meth1, e_slice, e_itemC, e_itemN, e_itemB, e_itemS, e_tup, e_list, e_comp0, e_comp1, es_nil, es_cons, o_none, o_some, b_one, b_two, c_one, c_two, t_not, t_bool, t_cmp, t_call, a_nil, a_cons, i_zip, i_range, i_enum, i_call, i_name, i_sub, i_list, s_expr, s_asgN, s_asgT, s_asgS, s_if, s_for, s_ret, ss_nil, th_next, th_ret, fin_ret, tg_name, tg_two, x_add, x_sub, x_mul, x_div, x_mod, x_pow, x_addT, x_addL, x_mulL, x_neg, x_not, x_lt, x_le, x_gt, x_ge, x_eq, x_ne, x_eqS, x_neS, tr_bool, mk_f, mk_t, sa_af, sa_at, sa_of, sa_ot, it_list, it_tup, ic_zip_tl, ic_range1, ic_range2, p_int, p_tup, p_list, blt1, blt2, blt3, blt4, blt5, blt6, blt7, me_append, me_extend, me_index, ns_nil, bind_nil, bind_cons, b_len, b_isinstance, b_list, b_tuple, b_sum, ti_ii, ti_ib, ti_tt, hide_false, back_false, wItem_lit, seqD_tup, seqD_list, lstD_list, String.reduceEq, ↓reduceIte, or_self, Option.some.injEq, reduceCtorEq, if_true, if_false, true_and, and_true, exists_eq_left', exists_eq_left, Int.reduceLE, Int.reduceLT, Int.reduceToNat, List.getElem?_cons_succ, List.getElem?_cons_zero, Bool.false_eq_true, noStars, isStarE, List.all, Bool.not_false, Bool.not_true, Bool.and_self, isCallE, isTupE, isSliceE, forall_const, implies_true, Bool.or_self, ite_true, ite_false, List.length_cons, List.length_nil, Nat.reduceLeDiff, Int.reducePow, Nat.zero_add, Nat.reduceAdd, Nat.reduceBEq, decide_true, decide_false, kd0, kd1, kd2, kd3, kd4, kd5]
    rw [dot_take ns hs i a b ha hb]
    simp only [Int.add_assoc]
  · rintro m' st' ⟨rfl, hm⟩
    rw [hide_back]
    simp only [List.nil_append] at hm
    have e : (zipL (dI ns) (dI hs)).length = min ns.length hs.length := by simp [zipL, dI]
    rw [e, dot_min] at hm
    rw [th_next, wSs_cons]
    simp only [gl_l, gl_c, gl_f, gl_g, own_l, own_c, nm_l, nm_c, nm_f, nm_g, upd_str, lk_str, call_n, call_s, e_none, e_bool, e_int, e_str, e_name, e_boolop, e_bin, e_un, e_cmp, e_call, e_meth0, e_meth1, e_slice, e_itemC, e_itemN, e_itemB, e_itemS, e_tup, e_list, e_comp0, e_comp1, es_nil, es_cons, o_none, o_some, b_one, b_two, c_one, c_two, t_not, t_bool, t_cmp, t_call, a_nil, a_cons, i_zip, i_range, i_enum, i_call, i_name, i_sub, i_list, s_expr, s_asgN, s_asgT, s_asgS, s_if, s_for, s_ret, ss_nil, th_next, th_ret, fin_ret, tg_name, tg_two, x_add, x_sub, x_mul, x_div, x_mod, x_pow, x_addT, x_addL, x_mulL, x_neg, x_not, x_lt, x_le, x_gt, x_ge, x_eq, x_ne, x_eqS, x_neS, tr_bool, mk_f, mk_t, sa_af, sa_at, sa_of, sa_ot, it_list, it_tup, ic_zip_tl, ic_range1, ic_range2, p_int, p_tup, p_list, blt1, blt2, blt3, blt4, blt5, blt6, blt7, me_append, me_extend, me_index, ns_nil, bind_nil, bind_cons, b_len, b_isinstance, b_list, b_tuple, b_sum, ti_ii, ti_ib, ti_tt, hide_false, back_false, wItem_lit, seqD_tup, seqD_list, lstD_list, String.reduceEq, ↓reduceIte, or_self, Option.some.injEq, reduceCtorEq, if_true, if_false, true_and, and_true, exists_eq_left', exists_eq_left, Int.reduceLE, Int.reduceLT, Int.reduceToNat, List.getElem?_cons_succ, List.getElem?_cons_zero, Bool.false_eq_true, noStars, isStarE, List.all, Bool.not_false, Bool.not_true, Bool.and_self, isCallE, isTupE, isSliceE, forall_const, implies_true, Bool.or_self, ite_true, ite_false, List.length_cons, List.length_nil, Nat.reduceLeDiff, Int.reducePow, Nat.zero_add, Nat.reduceAdd, Nat.reduceBEq, decide_true, decide_false, kd0, kd1, kd2, kd3, kd4, kd5, hm]
    exact hQ
theorem opposite_ok {Γ : Ctx} (ht : Γ.fn "tuple" = none) (ns : List Int) (c : Int) (st : St) (Q : D → St → Prop) (hl1 : ns.length ≤ 1000) (hQ : Q (.tup [.tup (dI (ns.map (0 - ·))), .int (1 - c)]) st) :
    wFn Γ (fun _ => false) 40 (kdOf PySem.Challenge.pw_uf010033_01 2) ["one"] (bodyOf PySem.Challenge.pw_uf010033_01 2) [.tup [.tup (dI ns), .int c]] st Q := by
  refine fn_intro rfl ?_
  generalize hkd : kdOf PySem.Challenge.pw_uf010033_01 2 = kd
  obtain ⟨kd0, kd1⟩ : kd "one" = some .local ∧ kd "tuple" = some .globalImplicit := by
    subst hkd; exact ⟨rfl, rfl⟩
  clear hkd
  dsimp only [bodyOf, PySem.Challenge.pw_uf010033_01, List.getElem?_cons_succ, List.getElem?_cons_zero]
  rw [wSs_cons]
  simp only [gl_l, gl_c, gl_f, gl_g, own_l, own_c, nm_l, nm_c, nm_f, nm_g, upd_str, lk_str, call_n, call_s, e_none, e_bool, e_int, e_str, e_name, e_boolop, e_bin, e_un, e_cmp, e_call, e_meth0, e_meth1, e_slice, e_itemC, e_itemN, e_itemB, e_itemS, e_tup, e_list, e_comp0, e_comp1, es_nil, es_cons, o_none, o_some, b_one, b_two, c_one, c_two, t_not, t_bool, t_cmp, t_call, a_nil, a_cons, i_zip, i_range, i_enum, i_call, i_name, i_sub, i_list, s_expr, s_asgN, s_asgT, s_asgS, s_if, s_for, s_ret, ss_nil, th_next, th_ret, fin_ret, tg_name, tg_two, x_add, x_sub, x_mul, x_div, x_mod, x_pow, x_addT, x_addL, x_mulL, x_neg, x_not, x_lt, x_le, x_gt, x_ge, x_eq, x_ne, x_eqS, x_neS, tr_bool, mk_f, mk_t, sa_af, sa_at, sa_of, sa_ot, it_list, it_tup, ic_zip_tl, ic_range1, ic_range2, p_int, p_tup, p_list, blt1, blt2, blt3, blt4, blt5, blt6, blt7, me_append, me_extend, me_index, ns_nil, bind_nil, bind_cons, b_len, b_isinstance, b_list, b_tuple, b_sum, ti_ii, ti_ib, ti_tt, hide_false, back_false, wItem_lit, seqD_tup, seqD_list, lstD_list, String.reduceEq, ↓reduceIte, or_self, Option.some.injEq, reduceCtorEq, if_true, if_false, true_and, and_true, exists_eq_left', exists_eq_left, Int.reduceLE, Int.reduceLT, Int.reduceToNat, List.getElem?_cons_succ, List.getElem?_cons_zero, Bool.false_eq_true, noStars, isStarE, List.all, Bool.not_false, Bool.not_true, Bool.and_self, isCallE, isTupE, isSliceE, forall_const, implies_true, Bool.or_self, ite_true, ite_false, List.length_cons, List.length_nil, Nat.reduceLeDiff, Int.reducePow, Nat.zero_add, Nat.reduceAdd, Nat.reduceBEq, decide_true, decide_false, kd0, kd1, ht]
  refine ⟨by simp [ScopeOk, ofString_inj, kd0, kd1], by rw [dI_len]; exact Nat.le_trans hl1 (by decide), ?_⟩
  refine wComp_list (α := Int) .int (fun a => .int (0 - a)) ns [] (fun a ha k hk => ?_) ?_
  · exact hk
  · refine ⟨by simp; exact Nat.le_trans hl1 (by decide), by simp; exact Nat.le_trans hl1 (by decide), by decide, ?_⟩
    rw [fin_ret]
    simpa [dI, Function.comp_def] using hQ

noncomputable def atV (sc : List Int) (k : Int) : Int := ((if 0 < sc.length then sc.getD (k % sc.length).toNat 0 else 0) + 17 * k) * 48271 % 1000003

theorem at_ok {Γ : Ctx} (h1 : Γ.fn "len" = none) (sc : List Int) (k : Int) (st : St) (Q : D → St → Prop) (hl1 : sc.length ≤ 1000) (hQ : Q (.int (atV sc k)) st) :
    wFn Γ (fun _ => false) 40 (kdOf PySem.Challenge.pw_uf010033_01 5) ["_law_script", "_law_k"] (bodyOf PySem.Challenge.pw_uf010033_01 5) [.list (dI sc), .int k] st Q := by
  refine fn_intro rfl ?_
  generalize hkd : kdOf PySem.Challenge.pw_uf010033_01 5 = kd
  obtain ⟨kd0, kd1, kd2, kd3⟩ : kd "_law_script" = some .local ∧ kd "_law_k" = some .local ∧ kd "_law_cell" = some .local ∧ kd "len" = some .globalImplicit := by
    subst hkd; exact ⟨rfl, rfl, rfl, rfl⟩
  clear hkd
  dsimp only [bodyOf, PySem.Challenge.pw_uf010033_01, List.getElem?_cons_succ, List.getElem?_cons_zero]
  rw [wSs_cons]
  simp only [gl_l, gl_c, gl_f, gl_g, own_l, own_c, nm_l, nm_c, nm_f, nm_g, upd_str, lk_str, call_n, call_s, e_none, e_bool, e_int, e_str, e_name, e_boolop, e_bin, e_un, e_cmp, e_call, e_meth0, e_meth1, e_slice, e_itemC, e_itemN, e_itemB, e_itemS, e_tup, e_list, e_comp0, e_comp1, es_nil, es_cons, o_none, o_some, b_one, b_two, c_one, c_two, t_not, t_bool, t_cmp, t_call, a_nil, a_cons, i_zip, i_range, i_enum, i_call, i_name, i_sub, i_list, s_expr, s_asgN, s_asgT, s_asgS, s_if, s_for, s_ret, ss_nil, th_next, th_ret, fin_ret, tg_name, tg_two, x_add, x_sub, x_mul, x_div, x_mod, x_pow, x_addT, x_addL, x_mulL, x_neg, x_not, x_lt, x_le, x_gt, x_ge, x_eq, x_ne, x_eqS, x_neS, tr_bool, mk_f, mk_t, sa_af, sa_at, sa_of, sa_ot, it_list, it_tup, ic_zip_tl, ic_range1, ic_range2, p_int, p_tup, p_list, blt1, blt2, blt3, blt4, blt5, blt6, blt7, me_append, me_extend, me_index, ns_nil, bind_nil, bind_cons, b_len, b_isinstance, b_list, b_tuple, b_sum, ti_ii, ti_ib, ti_tt, hide_false, back_false, wItem_lit, seqD_tup, seqD_list, lstD_list, String.reduceEq, ↓reduceIte, or_self, Option.some.injEq, reduceCtorEq, if_true, if_false, true_and, and_true, exists_eq_left', exists_eq_left, Int.reduceLE, Int.reduceLT, Int.reduceToNat, List.getElem?_cons_succ, List.getElem?_cons_zero, Bool.false_eq_true, noStars, isStarE, List.all, Bool.not_false, Bool.not_true, Bool.and_self, isCallE, isTupE, isSliceE, forall_const, implies_true, Bool.or_self, ite_true, ite_false, List.length_cons, List.length_nil, Nat.reduceLeDiff, Int.reducePow, Nat.zero_add, Nat.reduceAdd, Nat.reduceBEq, decide_true, decide_false, kd0, kd1, kd2, kd3, h1]
  rw [wSs_cons]
  simp only [gl_l, gl_c, gl_f, gl_g, own_l, own_c, nm_l, nm_c, nm_f, nm_g, upd_str, lk_str, call_n, call_s, e_none, e_bool, e_int, e_str, e_name, e_boolop, e_bin, e_un, e_cmp, e_call, e_meth0, e_meth1, e_slice, e_itemC, e_itemN, e_itemB, e_itemS, e_tup, e_list, e_comp0, e_comp1, es_nil, es_cons, o_none, o_some, b_one, b_two, c_one, c_two, t_not, t_bool, t_cmp, t_call, a_nil, a_cons, i_zip, i_range, i_enum, i_call, i_name, i_sub, i_list, s_expr, s_asgN, s_asgT, s_asgS, s_if, s_for, s_ret, ss_nil, th_next, th_ret, fin_ret, tg_name, tg_two, x_add, x_sub, x_mul, x_div, x_mod, x_pow, x_addT, x_addL, x_mulL, x_neg, x_not, x_lt, x_le, x_gt, x_ge, x_eq, x_ne, x_eqS, x_neS, tr_bool, mk_f, mk_t, sa_af, sa_at, sa_of, sa_ot, it_list, it_tup, ic_zip_tl, ic_range1, ic_range2, p_int, p_tup, p_list, blt1, blt2, blt3, blt4, blt5, blt6, blt7, me_append, me_extend, me_index, ns_nil, bind_nil, bind_cons, b_len, b_isinstance, b_list, b_tuple, b_sum, ti_ii, ti_ib, ti_tt, hide_false, back_false, wItem_lit, seqD_tup, seqD_list, lstD_list, String.reduceEq, ↓reduceIte, or_self, Option.some.injEq, reduceCtorEq, if_true, if_false, true_and, and_true, exists_eq_left', exists_eq_left, Int.reduceLE, Int.reduceLT, Int.reduceToNat, List.getElem?_cons_succ, List.getElem?_cons_zero, Bool.false_eq_true, noStars, isStarE, List.all, Bool.not_false, Bool.not_true, Bool.and_self, isCallE, isTupE, isSliceE, forall_const, implies_true, Bool.or_self, ite_true, ite_false, List.length_cons, List.length_nil, Nat.reduceLeDiff, Int.reducePow, Nat.zero_add, Nat.reduceAdd, Nat.reduceBEq, decide_true, decide_false, kd0, kd1, kd2, kd3, h1]
  refine ⟨by rw [dI_len]; exact Nat.le_trans hl1 (by decide), ?_⟩
  rw [dI_len]
  unfold atV at hQ
  by_cases h0 : 0 < sc.length
  · rw [if_pos h0] at hQ
    rw [if_pos (by simpa using h0)]
    have p1 := Int.emod_nonneg k (b := (sc.length : Int)) (by omega)
    have p2 := Int.emod_lt_of_pos k (b := (sc.length : Int)) (by omega)
    have hg : (dI sc)[(k % (sc.length : Int)).toNat]? = some (.int (sc.getD (k % sc.length).toNat 0)) := by
      have : (k % (sc.length : Int)).toNat < sc.length := by omega
      simp [dI, this]
    rw [wSs_cons]
    simp only [gl_l, gl_c, gl_f, gl_g, own_l, own_c, nm_l, nm_c, nm_f, nm_g, upd_str, lk_str, call_n, call_s, e_none, e_bool, e_int, e_str, e_name, e_boolop, e_bin, e_un, e_cmp, e_call, e_meth0, e_meth1, e_slice, e_itemC, e_itemN, e_itemB, e_itemS, e_tup, e_list, e_comp0, e_comp1, es_nil, es_cons, o_none, o_some, b_one, b_two, c_one, c_two, t_not, t_bool, t_cmp, t_call, a_nil, a_cons, i_zip, i_range, i_enum, i_call, i_name, i_sub, i_list, s_expr, s_asgN, s_asgT, s_asgS, s_if, s_for, s_ret, ss_nil, th_next, th_ret, fin_ret, tg_name, tg_two, x_add, x_sub, x_mul, x_div, x_mod, x_pow, x_addT, x_addL, x_mulL, x_neg, x_not, x_lt, x_le, x_gt, x_ge, x_eq, x_ne, x_eqS, x_neS, tr_bool, mk_f, mk_t, sa_af, sa_at, sa_of, sa_ot, it_list, it_tup, ic_zip_tl, ic_range1, ic_range2, p_int, p_tup, p_list, blt1, blt2, blt3, blt4, blt5, blt6, blt7, me_append, me_extend, me_index, ns_nil, bind_nil, bind_cons, b_len, b_isinstance, b_list, b_tuple, b_sum, ti_ii, ti_ib, ti_tt, hide_false, back_false, wItem_lit, seqD_tup, seqD_list, lstD_list, String.reduceEq, ↓reduceIte, or_self, Option.some.injEq, reduceCtorEq, if_true, if_false, true_and, and_true, exists_eq_left', exists_eq_left, Int.reduceLE, Int.reduceLT, Int.reduceToNat, List.getElem?_cons_succ, List.getElem?_cons_zero, Bool.false_eq_true, noStars, isStarE, List.all, Bool.not_false, Bool.not_true, Bool.and_self, isCallE, isTupE, isSliceE, forall_const, implies_true, Bool.or_self, ite_true, ite_false, List.length_cons, List.length_nil, Nat.reduceLeDiff, Int.reducePow, Nat.zero_add, Nat.reduceAdd, Nat.reduceBEq, decide_true, decide_false, kd0, kd1, kd2, kd3, h1, dI_len]
    refine ⟨Nat.le_trans hl1 (by decide), by omega, ?_⟩
    rw [wItem_lit (by omega) (by omega)]
    simp only [gl_l, gl_c, gl_f, gl_g, own_l, own_c, nm_l, nm_c, nm_f, nm_g, upd_str, lk_str, call_n, call_s, e_none, e_bool, e_int, e_str, e_name, e_boolop, e_bin, e_un, e_cmp, e_call, e_meth0, e_meth1, e_slice, e_itemC, e_itemN, e_itemB, e_itemS, e_tup, e_list, e_comp0, e_comp1, es_nil, es_cons, o_none, o_some, b_one, b_two, c_one, c_two, t_not, t_bool, t_cmp, t_call, a_nil, a_cons, i_zip, i_range, i_enum, i_call, i_name, i_sub, i_list, s_expr, s_asgN, s_asgT, s_asgS, s_if, s_for, s_ret, ss_nil, th_next, th_ret, fin_ret, tg_name, tg_two, x_add, x_sub, x_mul, x_div, x_mod, x_pow, x_addT, x_addL, x_mulL, x_neg, x_not, x_lt, x_le, x_gt, x_ge, x_eq, x_ne, x_eqS, x_neS, tr_bool, mk_f, mk_t, sa_af, sa_at, sa_of, sa_ot, it_list, it_tup, ic_zip_tl, ic_range1, ic_range2, p_int, p_tup, p_list, blt1, blt2, blt3, blt4, blt5, blt6, blt7, me_append, me_extend, me_index, ns_nil, bind_nil, bind_cons, b_len, b_isinstance, b_list, b_tuple, b_sum, ti_ii, ti_ib, ti_tt, hide_false, back_false, wItem_lit, seqD_tup, seqD_list, lstD_list, String.reduceEq, ↓reduceIte, or_self, Option.some.injEq, reduceCtorEq, if_true, if_false, true_and, and_true, exists_eq_left', exists_eq_left, Int.reduceLE, Int.reduceLT, Int.reduceToNat, List.getElem?_cons_succ, List.getElem?_cons_zero, Bool.false_eq_true, noStars, isStarE, List.all, Bool.not_false, Bool.not_true, Bool.and_self, isCallE, isTupE, isSliceE, forall_const, implies_true, Bool.or_self, ite_true, ite_false, List.length_cons, List.length_nil, Nat.reduceLeDiff, Int.reducePow, Nat.zero_add, Nat.reduceAdd, Nat.reduceBEq, decide_true, decide_false, kd0, kd1, kd2, kd3, hg]
    rw [wSs_cons]
    simp only [gl_l, gl_c, gl_f, gl_g, own_l, own_c, nm_l, nm_c, nm_f, nm_g, upd_str, lk_str, call_n, call_s, e_none, e_bool, e_int, e_str, e_name, e_boolop, e_bin, e_un, e_cmp, e_call, e_meth0, e_meth1, e_slice, e_itemC, e_itemN, e_itemB, e_itemS, e_tup, e_list, e_comp0, e_comp1, es_nil, es_cons, o_none, o_some, b_one, b_two, c_one, c_two, t_not, t_bool, t_cmp, t_call, a_nil, a_cons, i_zip, i_range, i_enum, i_call, i_name, i_sub, i_list, s_expr, s_asgN, s_asgT, s_asgS, s_if, s_for, s_ret, ss_nil, th_next, th_ret, fin_ret, tg_name, tg_two, x_add, x_sub, x_mul, x_div, x_mod, x_pow, x_addT, x_addL, x_mulL, x_neg, x_not, x_lt, x_le, x_gt, x_ge, x_eq, x_ne, x_eqS, x_neS, tr_bool, mk_f, mk_t, sa_af, sa_at, sa_of, sa_ot, it_list, it_tup, ic_zip_tl, ic_range1, ic_range2, p_int, p_tup, p_list, blt1, blt2, blt3, blt4, blt5, blt6, blt7, me_append, me_extend, me_index, ns_nil, bind_nil, bind_cons, b_len, b_isinstance, b_list, b_tuple, b_sum, ti_ii, ti_ib, ti_tt, hide_false, back_false, wItem_lit, seqD_tup, seqD_list, lstD_list, String.reduceEq, ↓reduceIte, or_self, Option.some.injEq, reduceCtorEq, if_true, if_false, true_and, and_true, exists_eq_left', exists_eq_left, Int.reduceLE, Int.reduceLT, Int.reduceToNat, List.getElem?_cons_succ, List.getElem?_cons_zero, Bool.false_eq_true, noStars, isStarE, List.all, Bool.not_false, Bool.not_true, Bool.and_self, isCallE, isTupE, isSliceE, forall_const, implies_true, Bool.or_self, ite_true, ite_false, List.length_cons, List.length_nil, Nat.reduceLeDiff, Int.reducePow, Nat.zero_add, Nat.reduceAdd, Nat.reduceBEq, decide_true, decide_false, kd0, kd1, kd2, kd3]
    exact ⟨IntMulOk.of_left (intBits_le_64 (by decide) (by decide)), IntMulOk.of_right (intBits_le_64 (by decide) (by decide)), hQ⟩
  · rw [if_neg h0] at hQ
    rw [if_neg (by simpa using h0)]
    rw [wSs_cons]
    simp only [gl_l, gl_c, gl_f, gl_g, own_l, own_c, nm_l, nm_c, nm_f, nm_g, upd_str, lk_str, call_n, call_s, e_none, e_bool, e_int, e_str, e_name, e_boolop, e_bin, e_un, e_cmp, e_call, e_meth0, e_meth1, e_slice, e_itemC, e_itemN, e_itemB, e_itemS, e_tup, e_list, e_comp0, e_comp1, es_nil, es_cons, o_none, o_some, b_one, b_two, c_one, c_two, t_not, t_bool, t_cmp, t_call, a_nil, a_cons, i_zip, i_range, i_enum, i_call, i_name, i_sub, i_list, s_expr, s_asgN, s_asgT, s_asgS, s_if, s_for, s_ret, ss_nil, th_next, th_ret, fin_ret, tg_name, tg_two, x_add, x_sub, x_mul, x_div, x_mod, x_pow, x_addT, x_addL, x_mulL, x_neg, x_not, x_lt, x_le, x_gt, x_ge, x_eq, x_ne, x_eqS, x_neS, tr_bool, mk_f, mk_t, sa_af, sa_at, sa_of, sa_ot, it_list, it_tup, ic_zip_tl, ic_range1, ic_range2, p_int, p_tup, p_list, blt1, blt2, blt3, blt4, blt5, blt6, blt7, me_append, me_extend, me_index, ns_nil, bind_nil, bind_cons, b_len, b_isinstance, b_list, b_tuple, b_sum, ti_ii, ti_ib, ti_tt, hide_false, back_false, wItem_lit, seqD_tup, seqD_list, lstD_list, String.reduceEq, ↓reduceIte, or_self, Option.some.injEq, reduceCtorEq, if_true, if_false, true_and, and_true, exists_eq_left', exists_eq_left, Int.reduceLE, Int.reduceLT, Int.reduceToNat, List.getElem?_cons_succ, List.getElem?_cons_zero, Bool.false_eq_true, noStars, isStarE, List.all, Bool.not_false, Bool.not_true, Bool.and_self, isCallE, isTupE, isSliceE, forall_const, implies_true, Bool.or_self, ite_true, ite_false, List.length_cons, List.length_nil, Nat.reduceLeDiff, Int.reducePow, Nat.zero_add, Nat.reduceAdd, Nat.reduceBEq, decide_true, decide_false, kd0, kd1, kd2, kd3]
    exact ⟨IntMulOk.of_left (intBits_le_64 (by decide) (by decide)), IntMulOk.of_right (intBits_le_64 (by decide) (by decide)), hQ⟩

theorem at_pos (sc : List Int) (k : Int) : 0 ≤ atV sc k ∧ atV sc k < 1000003 := by
  unfold atV; exact ⟨Int.emod_nonneg _ (by decide), Int.emod_lt_of_pos _ (by decide)⟩

theorem whole_int {Γ : Ctx} (h1 : Γ.fn "isinstance" = none) (h2 : Γ.gl "int" = some (.val (.type "int"))) (h3 : Γ.gl "bool" = some (.val (.type "bool"))) (k : Int) (st : St) (Q : D → St → Prop) (hQ : Q (.bool true) st) :
    wFn Γ (fun _ => false) 40 (kdOf PySem.Challenge.pw_uf010033_01 6) ["_law_thing"] (bodyOf PySem.Challenge.pw_uf010033_01 6) [.int k] st Q := by
  refine fn_intro rfl ?_
  generalize hkd : kdOf PySem.Challenge.pw_uf010033_01 6 = kd
  obtain ⟨kd0, kd1, kd2, kd3⟩ : kd "_law_thing" = some .local ∧ kd "isinstance" = some .globalImplicit ∧ kd "int" = some .globalImplicit ∧ kd "bool" = some .globalImplicit := by
    subst hkd; exact ⟨rfl, rfl, rfl, rfl⟩
  clear hkd
  dsimp only [bodyOf, PySem.Challenge.pw_uf010033_01, List.getElem?_cons_succ, List.getElem?_cons_zero]
  rw [wSs_cons]
  simp only [gl_l, gl_c, gl_f, gl_g, own_l, own_c, nm_l, nm_c, nm_f, nm_g, upd_str, lk_str, call_n, call_s, e_none, e_bool, e_int, e_str, e_name, e_boolop, e_bin, e_un, e_cmp, e_call, e_meth0, e_meth1, e_slice, e_itemC, e_itemN, e_itemB, e_itemS, e_tup, e_list, e_comp0, e_comp1, es_nil, es_cons, o_none, o_some, b_one, b_two, c_one, c_two, t_not, t_bool, t_cmp, t_call, a_nil, a_cons, i_zip, i_range, i_enum, i_call, i_name, i_sub, i_list, s_expr, s_asgN, s_asgT, s_asgS, s_if, s_for, s_ret, ss_nil, th_next, th_ret, fin_ret, tg_name, tg_two, x_add, x_sub, x_mul, x_div, x_mod, x_pow, x_addT, x_addL, x_mulL, x_neg, x_not, x_lt, x_le, x_gt, x_ge, x_eq, x_ne, x_eqS, x_neS, tr_bool, mk_f, mk_t, sa_af, sa_at, sa_of, sa_ot, it_list, it_tup, ic_zip_tl, ic_range1, ic_range2, p_int, p_tup, p_list, blt1, blt2, blt3, blt4, blt5, blt6, blt7, me_append, me_extend, me_index, ns_nil, bind_nil, bind_cons, b_len, b_isinstance, b_list, b_tuple, b_sum, ti_ii, ti_ib, ti_tt, hide_false, back_false, wItem_lit, seqD_tup, seqD_list, lstD_list, String.reduceEq, ↓reduceIte, or_self, Option.some.injEq, reduceCtorEq, if_true, if_false, true_and, and_true, exists_eq_left', exists_eq_left, Int.reduceLE, Int.reduceLT, Int.reduceToNat, List.getElem?_cons_succ, List.getElem?_cons_zero, Bool.false_eq_true, noStars, isStarE, List.all, Bool.not_false, Bool.not_true, Bool.and_self, isCallE, isTupE, isSliceE, forall_const, implies_true, Bool.or_self, ite_true, ite_false, List.length_cons, List.length_nil, Nat.reduceLeDiff, Int.reducePow, Nat.zero_add, Nat.reduceAdd, Nat.reduceBEq, decide_true, decide_false, kd0, kd1, kd2, kd3, h1, h2, h3]
  exact hQ

theorem lvalue_ok {Γ : Ctx} (h1 : Γ.fn "len" = none) (h2 : Γ.fn "range" = none) (ns hs : List Int) (c : Int) (fill : D) (st : St) (Q : D → St → Prop) (hf : seqD st fill = some (dI hs)) (hl1 : hs.length ≤ ns.length) (hl2 : hs.length ≤ 1000)
    (hb1 : ∀ a ∈ ns, Big a) (hb2 : ∀ a ∈ hs, Big a) (hQ : Q (.int (c + dot ns hs)) st) :
    wFn Γ (fun _ => false) 40 (kdOf PySem.Challenge.pw_uf010033_01 7) ["_law_one", "_law_filling"] (bodyOf PySem.Challenge.pw_uf010033_01 7) [.tup [.tup (dI ns), .int c], fill] st Q := by
  refine fn_intro rfl ?_
  generalize hkd : kdOf PySem.Challenge.pw_uf010033_01 7 = kd
  obtain ⟨kd0, kd1, kd2, kd3, kd4, kd5⟩ : kd "_law_one" = some .local ∧ kd "_law_filling" = some .local ∧ kd "_law_found" = some .local ∧ kd "_law_k" = some .local ∧ kd "range" = some .globalImplicit ∧ kd "len" = some .globalImplicit := by
    subst hkd; exact ⟨rfl, rfl, rfl, rfl, rfl, rfl⟩
  clear hkd
  dsimp only [bodyOf, PySem.Challenge.pw_uf010033_01, List.getElem?_cons_succ, List.getElem?_cons_zero]
  rw [wSs_cons]
  simp only [gl_l, gl_c, gl_f, gl_g, own_l, own_c, nm_l, nm_c, nm_f, nm_g, upd_str, lk_str, call_n, call_s, e_none, e_bool, e_int, e_str, e_name, e_boolop, e_bin, e_un, e_cmp, e_call, e_meth0, e_meth1, e_slice, e_itemC, e_itemN, e_itemB, e_itemS, e_tup, e_list, e_comp0, e_comp1, es_nil, es_cons, o_none, o_some, b_one, b_two, c_one, c_two, t_not, t_bool, t_cmp, t_call, a_nil, a_cons, i_zip, i_range, i_enum, i_call, i_name, i_sub, i_list, s_expr, s_asgN, s_asgT, s_asgS, s_if, s_for, s_ret, ss_nil, th_next, th_ret, fin_ret, tg_name, tg_two, x_add, x_sub, x_mul, x_div, x_mod, x_pow, x_addT, x_addL, x_mulL, x_neg, x_not, x_lt, x_le, x_gt, x_ge, x_eq, x_ne, x_eqS, x_neS, tr_bool, mk_f, mk_t, sa_af, sa_at, sa_of, sa_ot, it_list, it_tup, ic_zip_tl, ic_range1, ic_range2, p_int, p_tup, p_list, blt1, blt2, blt3, blt4, blt5, blt6, blt7, me_append, me_extend, me_index, ns_nil, bind_nil, bind_cons, b_len, b_isinstance, b_list, b_tuple, b_sum, ti_ii, ti_ib, ti_tt, hide_false, back_false, wItem_lit, seqD_tup, seqD_list, lstD_list, String.reduceEq, ↓reduceIte, or_self, Option.some.injEq, reduceCtorEq, if_true, if_false, true_and, and_true, exists_eq_left', exists_eq_left, Int.reduceLE, Int.reduceLT, Int.reduceToNat, List.getElem?_cons_succ, List.getElem?_cons_zero, Bool.false_eq_true, noStars, isStarE, List.all, Bool.not_false, Bool.not_true, Bool.and_self, isCallE, isTupE, isSliceE, forall_const, implies_true, Bool.or_self, ite_true, ite_false, List.length_cons, List.length_nil, Nat.reduceLeDiff, Int.reducePow, Nat.zero_add, Nat.reduceAdd, Nat.reduceBEq, decide_true, decide_false, kd0, kd1, kd2, kd3, kd4, kd5, h1]
  rw [wSs_cons]
  simp only [gl_l, gl_c, gl_f, gl_g, own_l, own_c, nm_l, nm_c, nm_f, nm_g, upd_str, lk_str, call_n, call_s, e_none, e_bool, e_int, e_str, e_name, e_boolop, e_bin, e_un, e_cmp, e_call, e_meth0, e_meth1, e_slice, e_itemC, e_itemN, e_itemB, e_itemS, e_tup, e_list, e_comp0, e_comp1, es_nil, es_cons, o_none, o_some, b_one, b_two, c_one, c_two, t_not, t_bool, t_cmp, t_call, a_nil, a_cons, i_zip, i_range, i_enum, i_call, i_name, i_sub, i_list, s_expr, s_asgN, s_asgT, s_asgS, s_if, s_for, s_ret, ss_nil, th_next, th_ret, fin_ret, tg_name, tg_two, x_add, x_sub, x_mul, x_div, x_mod, x_pow, x_addT, x_addL, x_mulL, x_neg, x_not, x_lt, x_le, x_gt, x_ge, x_eq, x_ne, x_eqS, x_neS, tr_bool, mk_f, mk_t, sa_af, sa_at, sa_of, sa_ot, it_list, it_tup, ic_zip_tl, ic_range1, ic_range2, p_int, p_tup, p_list, blt1, blt2, blt3, blt4, blt5, blt6, blt7, me_append, me_extend, me_index, ns_nil, bind_nil, bind_cons, b_len, b_isinstance, b_list, b_tuple, b_sum, ti_ii, ti_ib, ti_tt, hide_false, back_false, wItem_lit, seqD_tup, seqD_list, lstD_list, String.reduceEq, ↓reduceIte, or_self, Option.some.injEq, reduceCtorEq, if_true, if_false, true_and, and_true, exists_eq_left', exists_eq_left, Int.reduceLE, Int.reduceLT, Int.reduceToNat, List.getElem?_cons_succ, List.getElem?_cons_zero, Bool.false_eq_true, noStars, isStarE, List.all, Bool.not_false, Bool.not_true, Bool.and_self, isCallE, isTupE, isSliceE, forall_const, implies_true, Bool.or_self, ite_true, ite_false, List.length_cons, List.length_nil, Nat.reduceLeDiff, Int.reducePow, Nat.zero_add, Nat.reduceAdd, Nat.reduceBEq, decide_true, decide_false, kd0, kd1, kd2, kd3, kd4, kd5, h1, h2, hf, dI_len]
  refine ⟨by have : lim = 1000000 := rfl; omega, by have : lim = 1000000 := rfl; omega, by have : lim = 1000000 := rfl; omega, ?_⟩
  refine wFor_inv (fun i m' st' => st' = st ∧ m' "_law_one" = some (.tup [.tup (dI ns), .int c]) ∧ m' "_law_filling" = some fill ∧ m' "_law_found" = some (.int (c + dot (ns.take i) (hs.take i)))) _ [] ⟨rfl, by simp only [gl_l, gl_c, gl_f, gl_g, own_l, own_c, nm_l, nm_c, nm_f, nm_g, upd_str, lk_str, call_n, call_s, e_none, e_bool, e_int, e_str, e_name, e_boolop, e_bin, e_un, e_cmp, e_call, e_meth0, e_meth1, e_slice, e_itemC, e_itemN, e_itemB, e_itemS, e_tup, e_list, e_comp0, e_comp1, es_nil, es_cons, o_none, o_some, b_one, b_two, c_one, c_two, t_not, t_bool, t_cmp, t_call, a_nil, a_cons, i_zip, i_range, i_enum, i_call, i_name, i_sub, i_list, s_expr, s_asgN, s_asgT, s_asgS, s_if, s_for, s_ret, ss_nil, th_next, th_ret, fin_ret, tg_name, tg_two, x_add, x_sub, x_mul, x_div, x_mod, x_pow, x_addT, x_addL, x_mulL, x_neg, x_not, x_lt, x_le, x_gt, x_ge, x_eq, x_ne, x_eqS, x_neS, tr_bool, mk_f, mk_t, sa_af, sa_at, sa_of, sa_ot, it_list, it_tup, ic_zip_tl, ic_range1, ic_range2, p_int, p_tup, p_list, blt1, blt2, blt3, blt4, blt5, blt6, blt7, me_append, me_extend, me_index, ns_nil, bind_nil, bind_cons, b_len, b_isinstance, b_list, b_tuple, b_sum, ti_ii, ti_ib, ti_tt, hide_false, back_false, wItem_lit, seqD_tup, seqD_list, lstD_list, String.reduceEq, ↓reduceIte, or_self, Option.some.injEq, reduceCtorEq, if_true, if_false, true_and, and_true, exists_eq_left', exists_eq_left, Int.reduceLE, Int.reduceLT, Int.reduceToNat, List.getElem?_cons_succ, List.getElem?_cons_zero, Bool.false_eq_true, noStars, isStarE, List.all, Bool.not_false, Bool.not_true, Bool.and_self, isCallE, isTupE, isSliceE, forall_const, implies_true, Bool.or_self, ite_true, ite_false, List.length_cons, List.length_nil, Nat.reduceLeDiff, Int.reducePow, Nat.zero_add, Nat.reduceAdd, Nat.reduceBEq, decide_true, decide_false, kd0, kd1, kd2, kd3, kd4, kd5], by simp only [gl_l, gl_c, gl_f, gl_g, own_l, own_c, nm_l, nm_c, nm_f, nm_g, upd_str, lk_str, call_n, call_s, e_none, e_bool, e_int, e_str, e_name, e_boolop, e_bin, e_un, e_cmp, e_call, e_meth0, e_meth1, e_slice, e_itemC, e_itemN, e_itemB, e_itemS, e_tup, e_list, e_comp0, e_comp1, es_nil, es_cons, o_none, o_some, b_one, b_two, c_one, c_two, t_not, t_bool, t_cmp, t_call, a_nil, a_cons, i_zip, i_range, i_enum, i_call, i_name, i_sub, i_list, s_expr, s_asgN, s_asgT, s_asgS, s_if, s_for, s_ret, ss_nil, th_next, th_ret, fin_ret, tg_name, tg_two, x_add, x_sub, x_mul, x_div, x_mod, x_pow, x_addT, x_addL, x_mulL, x_neg, x_not, x_lt, x_le, x_gt, x_ge, x_eq, x_ne, x_eqS, x_neS, tr_bool, mk_f, mk_t, sa_af, sa_at, sa_of, sa_ot, it_list, it_tup, ic_zip_tl, ic_range1, ic_range2, p_int, p_tup, p_list, blt1, blt2, blt3, blt4, blt5, blt6, blt7, me_append, me_extend, me_index, ns_nil, bind_nil, bind_cons, b_len, b_isinstance, b_list, b_tuple, b_sum, ti_ii, ti_ib, ti_tt, hide_false, back_false, wItem_lit, seqD_tup, seqD_list, lstD_list, String.reduceEq, ↓reduceIte, or_self, Option.some.injEq, reduceCtorEq, if_true, if_false, true_and, and_true, exists_eq_left', exists_eq_left, Int.reduceLE, Int.reduceLT, Int.reduceToNat, List.getElem?_cons_succ, List.getElem?_cons_zero, Bool.false_eq_true, noStars, isStarE, List.all, Bool.not_false, Bool.not_true, Bool.and_self, isCallE, isTupE, isSliceE, forall_const, implies_true, Bool.or_self, ite_true, ite_false, List.length_cons, List.length_nil, Nat.reduceLeDiff, Int.reducePow, Nat.zero_add, Nat.reduceAdd, Nat.reduceBEq, decide_true, decide_false, kd0, kd1, kd2, kd3, kd4, kd5], by simp [upd, dot]⟩ ?_ ?_
  · rintro i d m' st' K hd ⟨rfl, m1, m2, hm⟩ hK
    obtain ⟨hi, rfl⟩ := rangeN_get hd
    obtain ⟨a, ha, ha'⟩ := getI (ns := ns) (i := i) (by omega)
    obtain ⟨b, hb, hb'⟩ := getI (ns := hs) (i := i) (by omega)
    try simp only [gl_l, gl_c, gl_f, gl_g, own_l, own_c, nm_l, nm_c, nm_f, nm_g, upd_str, lk_str, call_n, call_s, e_none, e_bool, e_int, e_str, e_name, e_boolop, e_bin, e_un, e_cmp, e_call, e_meth0, e_meth1, e_slice, e_itemC, e_itemN, e_itemB, e_itemS, e_tup, e_list, e_comp0, e_comp1, es_nil, es_cons, o_none, o_some, b_one, b_two, c_one, c_two, t_not, t_bool, t_cmp, t_call, a_nil, a_cons, i_zip, i_range, i_enum, i_call, i_name, i_sub, i_list, s_expr, s_asgN, s_asgT, s_asgS, s_if, s_for, s_ret, ss_nil, th_next, th_ret, fin_ret, tg_name, tg_two, x_add, x_sub, x_mul, x_div, x_mod, x_pow, x_addT, x_addL, x_mulL, x_neg, x_not, x_lt, x_le, x_gt, x_ge, x_eq, x_ne, x_eqS, x_neS, tr_bool, mk_f, mk_t, sa_af, sa_at, sa_of, sa_ot, it_list, it_tup, ic_zip_tl, ic_range1, ic_range2, p_int, p_tup, p_list, blt1, blt2, blt3, blt4, blt5, blt6, blt7, me_append, me_extend, me_index, ns_nil, bind_nil, bind_cons, b_len, b_isinstance, b_list, b_tuple, b_sum, ti_ii, ti_ib, ti_tt, hide_false, back_false, wItem_lit, seqD_tup, seqD_list, lstD_list, String.reduceEq, ↓reduceIte, or_self, Option.some.injEq, reduceCtorEq, if_true, if_false, true_and, and_true, exists_eq_left', exists_eq_left, Int.reduceLE, Int.reduceLT, Int.reduceToNat, List.getElem?_cons_succ, List.getElem?_cons_zero, Bool.false_eq_true, noStars, isStarE, List.all, Bool.not_false, Bool.not_true, Bool.and_self, isCallE, isTupE, isSliceE, forall_const, implies_true, Bool.or_self, ite_true, ite_false, List.length_cons, List.length_nil, Nat.reduceLeDiff, Int.reducePow, Nat.zero_add, Nat.reduceAdd, Nat.reduceBEq, decide_true, decide_false, kd0, kd1, kd2, kd3, kd4, kd5]
    rw [wSs_cons]
    simp only [gl_l, gl_c, gl_f, gl_g, own_l, own_c, nm_l, nm_c, nm_f, nm_g, upd_str, lk_str, call_n, call_s, e_none, e_bool, e_int, e_str, e_name, e_boolop, e_bin, e_un, e_cmp, e_call, e_meth0, e_meth1, e_slice, e_itemC, e_itemN, e_itemB, e_itemS, e_tup, e_list, e_comp0, e_comp1, es_nil, es_cons, o_none, o_some, b_one, b_two, c_one, c_two, t_not, t_bool, t_cmp, t_call, a_nil, a_cons, i_zip, i_range, i_enum, i_call, i_name, i_sub, i_list, s_expr, s_asgN, s_asgT, s_asgS, s_if, s_for, s_ret, ss_nil, th_next, th_ret, fin_ret, tg_name, tg_two, x_add, x_sub, x_mul, x_div, x_mod, x_pow, x_addT, x_addL, x_mulL, x_neg, x_not, x_lt, x_le, x_gt, x_ge, x_eq, x_ne, x_eqS, x_neS, tr_bool, mk_f, mk_t, sa_af, sa_at, sa_of, sa_ot, it_list, it_tup, ic_zip_tl, ic_range1, ic_range2, p_int, p_tup, p_list, blt1, blt2, blt3, blt4, blt5, blt6, blt7, me_append, me_extend, me_index, ns_nil, bind_nil, bind_cons, b_len, b_isinstance, b_list, b_tuple, b_sum, ti_ii, ti_ib, ti_tt, hide_false, back_false, wItem_lit, seqD_tup, seqD_list, lstD_list, String.reduceEq, ↓reduceIte, or_self, Option.some.injEq, reduceCtorEq, if_true, if_false, true_and, and_true, exists_eq_left', exists_eq_left, Int.reduceLE, Int.reduceLT, Int.reduceToNat, List.getElem?_cons_succ, List.getElem?_cons_zero, Bool.false_eq_true, noStars, isStarE, List.all, Bool.not_false, Bool.not_true, Bool.and_self, isCallE, isTupE, isSliceE, forall_const, implies_true, Bool.or_self, ite_true, ite_false, List.length_cons, List.length_nil, Nat.reduceLeDiff, Int.reducePow, Nat.zero_add, Nat.reduceAdd, Nat.reduceBEq, decide_true, decide_false, kd0, kd1, kd2, kd3, kd4, kd5, m1, m2, hm, hf, wItem_nat (i := i) (by omega), dI_get ha, dI_get hb]
    refine ⟨mulOk (hb1 a ha') (hb2 b hb'), hK _ _ ⟨rfl, ?_, ?_, ?_⟩⟩
    · simp only [gl_l, gl_c, gl_f, gl_g, own_l, own_c, nm_l, nm_c, nm_f, nm_g, upd_str, lk_str, call_n, call_s, e_none, e_bool, e_int, e_str, e_name, e_boolop, e_bin, e_un, e_cmp, e_call, e_meth0, e_meth1, e_slice, e_itemC, e_itemN, e_itemB, e_itemS, e_tup, e_list, e_comp0, e_comp1, es_nil, es_cons, o_none, o_some, b_one, b_two, c_one, c_two, t_not, t_bool, t_cmp, t_call, a_nil, a_cons, i_zip, i_range, i_enum, i_call, i_name, i_sub, i_list, s_expr, s_asgN, s_asgT, s_asgS, s_if, s_for, s_ret, ss_nil, th_next, th_ret, fin_ret, tg_name, tg_two, x_add, x_sub, x_mul, x_div, x_mod, x_pow, x_addT, x_addL, x_mulL, x_neg, x_not, x_lt, x_le, x_gt, x_ge, x_eq, x_ne, x_eqS, x_neS, tr_bool, mk_f, mk_t, sa_af, sa_at, sa_of, sa_ot, it_list, it_tup, ic_zip_tl, ic_range1, ic_range2, p_int, p_tup, p_list, blt1, blt2, blt3, blt4, blt5, blt6, blt7, me_append, me_extend, me_index, ns_nil, bind_nil, bind_cons, b_len, b_isinstance, b_list, b_tuple, b_sum, ti_ii, ti_ib, ti_tt, hide_false, back_false, wItem_lit, seqD_tup, seqD_list, lstD_list, String.reduceEq, ↓reduceIte, or_self, Option.some.injEq, reduceCtorEq, if_true, if_false, true_and, and_true, exists_eq_left', exists_eq_left, Int.reduceLE, Int.reduceLT, Int.reduceToNat, List.getElem?_cons_succ, List.getElem?_cons_zero, Bool.false_eq_true, noStars, isStarE, List.all, Bool.not_false, Bool.not_true, Bool.and_self, isCallE, isTupE, isSliceE, forall_const, implies_true, Bool.or_self, ite_true, ite_false, List.length_cons, List.length_nil, Nat.reduceLeDiff, Int.reducePow, Nat.zero_add, Nat.reduceAdd, Nat.reduceBEq, decide_true, decide_false, kd0, kd1, kd2, kd3, kd4, kd5, m1]
    · simp only [gl_l, gl_c, gl_f, gl_g, own_l, own_c, nm_l, nm_c, nm_f, nm_g, upd_str, lk_str, call_n, call_s, e_none, e_bool, e_int, e_str, e_name, e_boolop, e_bin, e_un, e_cmp, e_call, e_meth0, e_meth1, e_slice, e_itemC, e_itemN, e_itemB, e_itemS, e_tup, e_list, e_comp0, e_comp1, es_nil, es_cons, o_none, o_some, b_one, b_two, c_one, c_two, t_not, t_bool, t_cmp, t_call, a_nil, a_cons, i_zip, i_range, i_enum, i_call, i_name, i_sub, i_list, s_expr, s_asgN, s_asgT, s_asgS, s_if, s_for, s_ret, ss_nil, th_next, th_ret, fin_ret, tg_name, tg_two, x_add, x_sub, x_mul, x_div, x_mod, x_pow, x_addT, x_addL, x_mulL, x_neg, x_not, x_lt, x_le, x_gt, x_ge, x_eq, x_ne, x_eqS, x_neS, tr_bool, mk_f, mk_t, sa_af, sa_at, sa_of, sa_ot, it_list, it_tup, ic_zip_tl, ic_range1, ic_range2, p_int, p_tup, p_list, blt1, blt2, blt3, blt4, blt5, blt6, blt7, me_append, me_extend, me_index, ns_nil, bind_nil, bind_cons, b_len, b_isinstance, b_list, b_tuple, b_sum, ti_ii, ti_ib, ti_tt, hide_false, back_false, wItem_lit, seqD_tup, seqD_list, lstD_list, String.reduceEq, ↓reduceIte, or_self, Option.some.injEq, reduceCtorEq, if_true, if_false, true_and, and_true, exists_eq_left', exists_eq_left, Int.reduceLE, Int.reduceLT, Int.reduceToNat, List.getElem?_cons_succ, List.getElem?_cons_zero, Bool.false_eq_true, noStars, isStarE, List.all, Bool.not_false, Bool.not_true, Bool.and_self, isCallE, isTupE, isSliceE, forall_const, implies_true, Bool.or_self, ite_true, ite_false, List.length_cons, List.length_nil, Nat.reduceLeDiff, Int.reducePow, Nat.zero_add, Nat.reduceAdd, Nat.reduceBEq, decide_true, decide_false, kd0, kd1, kd2, kd3, kd4, kd5, m2]
    · simp only [gl_l, gl_c, gl_f, gl_g, own_l, own_c, nm_l, nm_c, nm_f, nm_g, upd_str, lk_str, call_n, call_s, e_none, e_bool, e_int, e_str, e_name, e_boolop, e_bin, e_un, e_cmp, e_call, e_meth0, e_meth1, e_slice, e_itemC, e_itemN, e_itemB, e_itemS, e_tup, e_list, e_comp0, e_comp1, es_nil, es_cons, o_none, o_some, b_one, b_two, c_one, c_two, t_not, t_bool, t_cmp, t_call, a_nil, a_cons, i_zip, i_range, i_enum, i_call, i_name, i_sub, i_list, s_expr, s_asgN, s_asgT, s_asgS, s_if, s_for, s_ret, ss_nil, th_next, th_ret, fin_ret, tg_name, tg_two, x_add, x_sub, x_mul, x_div, x_mod, x_pow, x_addT, x_addL, x_mulL, x_neg, x_not, x_lt, x_le, x_gt, x_ge, x_eq, x_ne, x_eqS, x_neS, tr_bool, mk_f, mk_t, sa_af, sa_at, sa_of, sa_ot, it_list, it_tup, ic_zip_tl, ic_range1, ic_range2, p_int, p_tup, p_list, blt1, blt2, blt3, blt4, blt5, blt6, blt7, me_append, me_extend, me_index, ns_nil, bind_nil, bind_cons, b_len, b_isinstance, b_list, b_tuple, b_sum, ti_ii, ti_ib, ti_tt, hide_false, back_false, wItem_lit, seqD_tup, seqD_list, lstD_list, String.reduceEq, ↓reduceIte, or_self, Option.some.injEq, reduceCtorEq, if_true, if_false, true_and, and_true, exists_eq_left', exists_eq_left, Int.reduceLE, Int.reduceLT, Int.reduceToNat, List.getElem?_cons_succ, List.getElem?_cons_zero, Bool.false_eq_true, noStars, isStarE, List.all, Bool.not_false, Bool.not_true, Bool.and_self, isCallE, isTupE, isSliceE, forall_const, implies_true, Bool.or_self, ite_true, ite_false, List.length_cons, List.length_nil, Nat.reduceLeDiff, Int.reducePow, Nat.zero_add, Nat.reduceAdd, Nat.reduceBEq, decide_true, decide_false, kd0, kd1, kd2, kd3, kd4, kd5]
      rw [dot_take ns hs i a b ha hb]
      simp only [Int.add_assoc]
  · rintro m' st' ⟨rfl, m1, m2, hm⟩
    rw [List.nil_append, rangeN_len] at hm
    have e : dot (ns.take hs.length) (hs.take hs.length) = dot ns hs := by
      have := dot_min ns hs
      rwa [Nat.min_eq_right hl1] at this
    rw [e] at hm
    rw [th_next, wSs_cons]
    simp only [gl_l, gl_c, gl_f, gl_g, own_l, own_c, nm_l, nm_c, nm_f, nm_g, upd_str, lk_str, call_n, call_s, e_none, e_bool, e_int, e_str, e_name, e_boolop, e_bin, e_un, e_cmp, e_call, e_meth0, e_meth1, e_slice, e_itemC, e_itemN, e_itemB, e_itemS, e_tup, e_list, e_comp0, e_comp1, es_nil, es_cons, o_none, o_some, b_one, b_two, c_one, c_two, t_not, t_bool, t_cmp, t_call, a_nil, a_cons, i_zip, i_range, i_enum, i_call, i_name, i_sub, i_list, s_expr, s_asgN, s_asgT, s_asgS, s_if, s_for, s_ret, ss_nil, th_next, th_ret, fin_ret, tg_name, tg_two, x_add, x_sub, x_mul, x_div, x_mod, x_pow, x_addT, x_addL, x_mulL, x_neg, x_not, x_lt, x_le, x_gt, x_ge, x_eq, x_ne, x_eqS, x_neS, tr_bool, mk_f, mk_t, sa_af, sa_at, sa_of, sa_ot, it_list, it_tup, ic_zip_tl, ic_range1, ic_range2, p_int, p_tup, p_list, blt1, blt2, blt3, blt4, blt5, blt6, blt7, me_append, me_extend, me_index, ns_nil, bind_nil, bind_cons, b_len, b_isinstance, b_list, b_tuple, b_sum, ti_ii, ti_ib, ti_tt, hide_false, back_false, wItem_lit, seqD_tup, seqD_list, lstD_list, String.reduceEq, ↓reduceIte, or_self, Option.some.injEq, reduceCtorEq, if_true, if_false, true_and, and_true, exists_eq_left', exists_eq_left, Int.reduceLE, Int.reduceLT, Int.reduceToNat, List.getElem?_cons_succ, List.getElem?_cons_zero, Bool.false_eq_true, noStars, isStarE, List.all, Bool.not_false, Bool.not_true, Bool.and_self, isCallE, isTupE, isSliceE, forall_const, implies_true, Bool.or_self, ite_true, ite_false, List.length_cons, List.length_nil, Nat.reduceLeDiff, Int.reducePow, Nat.zero_add, Nat.reduceAdd, Nat.reduceBEq, decide_true, decide_false, kd0, kd1, kd2, kd3, kd4, kd5, hm]
    exact hQ

theorem Big.of {i : Int} {n : Nat} (h : i.natAbs ≤ n) (hn : n < 2 ^ 1000) : Big i := Nat.lt_of_le_of_lt h hn

noncomputable def numV (cell most : Int) : Int := if most = 0 then (cell - 500000) * 10 ^ 20 else cell % (2 * most + 1) - most

theorem number_ok {Γ : Ctx} (cell most : Int) (st : St) (Q : D → St → Prop) (hm : most = 0 ∨ (0 < most ∧ most ≤ 99)) (hc : 0 ≤ cell ∧ cell < 1000003) (hQ : Q (.int (numV cell most)) st) :
    wFn Γ (fun _ => false) 40 (kdOf PySem.Challenge.pw_uf010033_01 8) ["_law_cell", "_law_most"] (bodyOf PySem.Challenge.pw_uf010033_01 8) [.int cell, .int most] st Q := by
  refine fn_intro rfl ?_
  generalize hkd : kdOf PySem.Challenge.pw_uf010033_01 8 = kd
  obtain ⟨kd0, kd1⟩ : kd "_law_cell" = some .local ∧ kd "_law_most" = some .local := by
    subst hkd; exact ⟨rfl, rfl⟩
  clear hkd
  dsimp only [bodyOf, PySem.Challenge.pw_uf010033_01, List.getElem?_cons_succ, List.getElem?_cons_zero]
  rw [wSs_cons]
  simp only [gl_l, gl_c, gl_f, gl_g, own_l, own_c, nm_l, nm_c, nm_f, nm_g, upd_str, lk_str, call_n, call_s, e_none, e_bool, e_int, e_str, e_name, e_boolop, e_bin, e_un, e_cmp, e_call, e_meth0, e_meth1, e_slice, e_itemC, e_itemN, e_itemB, e_itemS, e_tup, e_list, e_comp0, e_comp1, es_nil, es_cons, o_none, o_some, b_one, b_two, c_one, c_two, t_not, t_bool, t_cmp, t_call, a_nil, a_cons, i_zip, i_range, i_enum, i_call, i_name, i_sub, i_list, s_expr, s_asgN, s_asgT, s_asgS, s_if, s_for, s_ret, ss_nil, th_next, th_ret, fin_ret, tg_name, tg_two, x_add, x_sub, x_mul, x_div, x_mod, x_pow, x_addT, x_addL, x_mulL, x_neg, x_not, x_lt, x_le, x_gt, x_ge, x_eq, x_ne, x_eqS, x_neS, tr_bool, mk_f, mk_t, sa_af, sa_at, sa_of, sa_ot, it_list, it_tup, ic_zip_tl, ic_range1, ic_range2, p_int, p_tup, p_list, blt1, blt2, blt3, blt4, blt5, blt6, blt7, me_append, me_extend, me_index, ns_nil, bind_nil, bind_cons, b_len, b_isinstance, b_list, b_tuple, b_sum, ti_ii, ti_ib, ti_tt, hide_false, back_false, wItem_lit, seqD_tup, seqD_list, lstD_list, String.reduceEq, ↓reduceIte, or_self, Option.some.injEq, reduceCtorEq, if_true, if_false, true_and, and_true, exists_eq_left', exists_eq_left, Int.reduceLE, Int.reduceLT, Int.reduceToNat, List.getElem?_cons_succ, List.getElem?_cons_zero, Bool.false_eq_true, noStars, isStarE, List.all, Bool.not_false, Bool.not_true, Bool.and_self, isCallE, isTupE, isSliceE, forall_const, implies_true, Bool.or_self, ite_true, ite_false, List.length_cons, List.length_nil, Nat.reduceLeDiff, Int.reducePow, Nat.zero_add, Nat.reduceAdd, Nat.reduceBEq, decide_true, decide_false, kd0, kd1]
  unfold numV at hQ
  rcases hm with rfl | ⟨m0, m1⟩
  · rw [if_pos rfl] at hQ
    rw [if_pos (by decide)]
    rw [wSs_cons]
    simp only [gl_l, gl_c, gl_f, gl_g, own_l, own_c, nm_l, nm_c, nm_f, nm_g, upd_str, lk_str, call_n, call_s, e_none, e_bool, e_int, e_str, e_name, e_boolop, e_bin, e_un, e_cmp, e_call, e_meth0, e_meth1, e_slice, e_itemC, e_itemN, e_itemB, e_itemS, e_tup, e_list, e_comp0, e_comp1, es_nil, es_cons, o_none, o_some, b_one, b_two, c_one, c_two, t_not, t_bool, t_cmp, t_call, a_nil, a_cons, i_zip, i_range, i_enum, i_call, i_name, i_sub, i_list, s_expr, s_asgN, s_asgT, s_asgS, s_if, s_for, s_ret, ss_nil, th_next, th_ret, fin_ret, tg_name, tg_two, x_add, x_sub, x_mul, x_div, x_mod, x_pow, x_addT, x_addL, x_mulL, x_neg, x_not, x_lt, x_le, x_gt, x_ge, x_eq, x_ne, x_eqS, x_neS, tr_bool, mk_f, mk_t, sa_af, sa_at, sa_of, sa_ot, it_list, it_tup, ic_zip_tl, ic_range1, ic_range2, p_int, p_tup, p_list, blt1, blt2, blt3, blt4, blt5, blt6, blt7, me_append, me_extend, me_index, ns_nil, bind_nil, bind_cons, b_len, b_isinstance, b_list, b_tuple, b_sum, ti_ii, ti_ib, ti_tt, hide_false, back_false, wItem_lit, seqD_tup, seqD_list, lstD_list, String.reduceEq, ↓reduceIte, or_self, Option.some.injEq, reduceCtorEq, if_true, if_false, true_and, and_true, exists_eq_left', exists_eq_left, Int.reduceLE, Int.reduceLT, Int.reduceToNat, List.getElem?_cons_succ, List.getElem?_cons_zero, Bool.false_eq_true, noStars, isStarE, List.all, Bool.not_false, Bool.not_true, Bool.and_self, isCallE, isTupE, isSliceE, forall_const, implies_true, Bool.or_self, ite_true, ite_false, List.length_cons, List.length_nil, Nat.reduceLeDiff, Int.reducePow, Nat.zero_add, Nat.reduceAdd, Nat.reduceBEq, decide_true, decide_false, kd0, kd1]
    exact ⟨mulOk (Big.of (n := 1000003) (by omega) (by decide)) (Big.of (n := 10 ^ 20) (by decide) (by decide)), hQ⟩
  · rw [if_neg (by omega)] at hQ
    rw [if_neg (by simp; omega)]
    rw [wSs_cons]
    simp only [gl_l, gl_c, gl_f, gl_g, own_l, own_c, nm_l, nm_c, nm_f, nm_g, upd_str, lk_str, call_n, call_s, e_none, e_bool, e_int, e_str, e_name, e_boolop, e_bin, e_un, e_cmp, e_call, e_meth0, e_meth1, e_slice, e_itemC, e_itemN, e_itemB, e_itemS, e_tup, e_list, e_comp0, e_comp1, es_nil, es_cons, o_none, o_some, b_one, b_two, c_one, c_two, t_not, t_bool, t_cmp, t_call, a_nil, a_cons, i_zip, i_range, i_enum, i_call, i_name, i_sub, i_list, s_expr, s_asgN, s_asgT, s_asgS, s_if, s_for, s_ret, ss_nil, th_next, th_ret, fin_ret, tg_name, tg_two, x_add, x_sub, x_mul, x_div, x_mod, x_pow, x_addT, x_addL, x_mulL, x_neg, x_not, x_lt, x_le, x_gt, x_ge, x_eq, x_ne, x_eqS, x_neS, tr_bool, mk_f, mk_t, sa_af, sa_at, sa_of, sa_ot, it_list, it_tup, ic_zip_tl, ic_range1, ic_range2, p_int, p_tup, p_list, blt1, blt2, blt3, blt4, blt5, blt6, blt7, me_append, me_extend, me_index, ns_nil, bind_nil, bind_cons, b_len, b_isinstance, b_list, b_tuple, b_sum, ti_ii, ti_ib, ti_tt, hide_false, back_false, wItem_lit, seqD_tup, seqD_list, lstD_list, String.reduceEq, ↓reduceIte, or_self, Option.some.injEq, reduceCtorEq, if_true, if_false, true_and, and_true, exists_eq_left', exists_eq_left, Int.reduceLE, Int.reduceLT, Int.reduceToNat, List.getElem?_cons_succ, List.getElem?_cons_zero, Bool.false_eq_true, noStars, isStarE, List.all, Bool.not_false, Bool.not_true, Bool.and_self, isCallE, isTupE, isSliceE, forall_const, implies_true, Bool.or_self, ite_true, ite_false, List.length_cons, List.length_nil, Nat.reduceLeDiff, Int.reducePow, Nat.zero_add, Nat.reduceAdd, Nat.reduceBEq, decide_true, decide_false, kd0, kd1]
    exact ⟨IntMulOk.of_left (intBits_le_64 (by decide) (by decide)), by omega, hQ⟩

theorem num_big {cell most : Int} (hm : most = 0 ∨ (0 < most ∧ most ≤ 99)) (hc : 0 ≤ cell ∧ cell < 1000003) : (numV cell most).natAbs ≤ 10 ^ 26 := by
  unfold numV
  rcases hm with rfl | ⟨m0, m1⟩
  · rw [if_pos rfl]; omega
  · rw [if_neg (by omega)]
    have := Int.emod_nonneg cell (b := 2 * most + 1) (by omega)
    have := Int.emod_lt_of_pos cell (b := 2 * most + 1) (by omega)
    omega

end Mine
end

section
set_option autoImplicit false
set_option linter.unusedSimpArgs false
set_option linter.unusedVariables false
set_option maxRecDepth 100000
namespace Mine
open PySem


theorem isSum_ok {Γ : Ctx} (h1 : Γ.fn "isinstance" = none) (h2 : Γ.fn "len" = none) (h3 : Γ.gl "tuple" = some (.val (.type "tuple"))) (hw : ∃ S, Γ.fn "_law_whole" = some S ∧ ∀ i st Q, Q (.bool true) st → S [.int i] st Q)
    (ns : List Int) (c : Int) (st : St) (Q : D → St → Prop) (hl1 : ns.length ≤ 1000) (hQ : Q (.bool true) st) :
    wFn Γ (fun _ => false) 40 (kdOf PySem.Challenge.pw_uf010033_01 9) ["_law_found", "_law_many"] (bodyOf PySem.Challenge.pw_uf010033_01 9) [.tup [.tup (dI ns), .int c], .int ns.length] st Q := by
  obtain ⟨S, hS, hS'⟩ := hw
  refine fn_intro rfl ?_
  generalize hkd : kdOf PySem.Challenge.pw_uf010033_01 9 = kd
  obtain ⟨kd0, kd1, kd2, kd3, kd4, kd5⟩ : kd "_law_found" = some .local ∧ kd "_law_many" = some .local ∧ kd "isinstance" = some .globalImplicit ∧ kd "tuple" = some .globalImplicit ∧ kd "len" = some .globalImplicit ∧ kd "_law_whole" = some .globalImplicit := by
    subst hkd; exact ⟨rfl, rfl, rfl, rfl, rfl, rfl⟩
  clear hkd
  dsimp only [bodyOf, PySem.Challenge.pw_uf010033_01, List.getElem?_cons_succ, List.getElem?_cons_zero]
  rw [wSs_cons]
  simp only [gl_l, gl_c, gl_f, gl_g, own_l, own_c, nm_l, nm_c, nm_f, nm_g, upd_str, lk_str, call_n, call_s, e_none, e_bool, e_int, e_str, e_name, e_boolop, e_bin, e_un, e_cmp, e_call, e_meth0, e_meth1, e_slice, e_itemC, e_itemN, e_itemB, e_itemS, e_tup, e_list, e_comp0, e_comp1, es_nil, es_cons, o_none, o_some, b_one, b_two, c_one, c_two, t_not, t_bool, t_cmp, t_call, a_nil, a_cons, i_zip, i_range, i_enum, i_call, i_name, i_sub, i_list, s_expr, s_asgN, s_asgT, s_asgS, s_if, s_for, s_ret, ss_nil, th_next, th_ret, fin_ret, tg_name, tg_two, x_add, x_sub, x_mul, x_div, x_mod, x_pow, x_addT, x_addL, x_mulL, x_neg, x_not, x_lt, x_le, x_gt, x_ge, x_eq, x_ne, x_eqS, x_neS, tr_bool, mk_f, mk_t, sa_af, sa_at, sa_of, sa_ot, it_list, it_tup, ic_zip_tl, ic_range1, ic_range2, p_int, p_tup, p_list, blt1, blt2, blt3, blt4, blt5, blt6, blt7, me_append, me_extend, me_index, ns_nil, bind_nil, bind_cons, b_len, b_isinstance, b_list, b_tuple, b_sum, ti_ii, ti_ib, ti_tt, hide_false, back_false, wItem_lit, seqD_tup, seqD_list, lstD_list, String.reduceEq, ↓reduceIte, or_self, Option.some.injEq, reduceCtorEq, if_true, if_false, true_and, and_true, exists_eq_left', exists_eq_left, Int.reduceLE, Int.reduceLT, Int.reduceToNat, List.getElem?_cons_succ, List.getElem?_cons_zero, Bool.false_eq_true, noStars, isStarE, List.all, Bool.not_false, Bool.not_true, Bool.and_self, isCallE, isTupE, isSliceE, forall_const, implies_true, Bool.or_self, ite_true, ite_false, List.length_cons, List.length_nil, Nat.reduceLeDiff, Int.reducePow, Nat.zero_add, Nat.reduceAdd, Nat.reduceBEq, decide_true, decide_false, Int.reduceNeg, Int.cast_ofNat_Int, Int.reduceBEq, beq_self_eq_true, dI_len, two_lim, bo_oa, bo_aa, imp_self, false_implies, kd0, kd1, kd2, kd3, kd4, kd5, h1, h2, h3, hS]
  refine ⟨Nat.le_trans hl1 (by decide), ?_⟩
  rw [wSs_cons]
  simp only [gl_l, gl_c, gl_f, gl_g, own_l, own_c, nm_l, nm_c, nm_f, nm_g, upd_str, lk_str, call_n, call_s, e_none, e_bool, e_int, e_str, e_name, e_boolop, e_bin, e_un, e_cmp, e_call, e_meth0, e_meth1, e_slice, e_itemC, e_itemN, e_itemB, e_itemS, e_tup, e_list, e_comp0, e_comp1, es_nil, es_cons, o_none, o_some, b_one, b_two, c_one, c_two, t_not, t_bool, t_cmp, t_call, a_nil, a_cons, i_zip, i_range, i_enum, i_call, i_name, i_sub, i_list, s_expr, s_asgN, s_asgT, s_asgS, s_if, s_for, s_ret, ss_nil, th_next, th_ret, fin_ret, tg_name, tg_two, x_add, x_sub, x_mul, x_div, x_mod, x_pow, x_addT, x_addL, x_mulL, x_neg, x_not, x_lt, x_le, x_gt, x_ge, x_eq, x_ne, x_eqS, x_neS, tr_bool, mk_f, mk_t, sa_af, sa_at, sa_of, sa_ot, it_list, it_tup, ic_zip_tl, ic_range1, ic_range2, p_int, p_tup, p_list, blt1, blt2, blt3, blt4, blt5, blt6, blt7, me_append, me_extend, me_index, ns_nil, bind_nil, bind_cons, b_len, b_isinstance, b_list, b_tuple, b_sum, ti_ii, ti_ib, ti_tt, hide_false, back_false, wItem_lit, seqD_tup, seqD_list, lstD_list, String.reduceEq, ↓reduceIte, or_self, Option.some.injEq, reduceCtorEq, if_true, if_false, true_and, and_true, exists_eq_left', exists_eq_left, Int.reduceLE, Int.reduceLT, Int.reduceToNat, List.getElem?_cons_succ, List.getElem?_cons_zero, Bool.false_eq_true, noStars, isStarE, List.all, Bool.not_false, Bool.not_true, Bool.and_self, isCallE, isTupE, isSliceE, forall_const, implies_true, Bool.or_self, ite_true, ite_false, List.length_cons, List.length_nil, Nat.reduceLeDiff, Int.reducePow, Nat.zero_add, Nat.reduceAdd, Nat.reduceBEq, decide_true, decide_false, Int.reduceNeg, Int.cast_ofNat_Int, Int.reduceBEq, beq_self_eq_true, dI_len, two_lim, bo_oa, bo_aa, imp_self, false_implies, kd0, kd1, kd2, kd3, kd4, kd5, h1, h2, h3, hS]
  refine hS' _ _ _ ?_
  simp only [gl_l, gl_c, gl_f, gl_g, own_l, own_c, nm_l, nm_c, nm_f, nm_g, upd_str, lk_str, call_n, call_s, e_none, e_bool, e_int, e_str, e_name, e_boolop, e_bin, e_un, e_cmp, e_call, e_meth0, e_meth1, e_slice, e_itemC, e_itemN, e_itemB, e_itemS, e_tup, e_list, e_comp0, e_comp1, es_nil, es_cons, o_none, o_some, b_one, b_two, c_one, c_two, t_not, t_bool, t_cmp, t_call, a_nil, a_cons, i_zip, i_range, i_enum, i_call, i_name, i_sub, i_list, s_expr, s_asgN, s_asgT, s_asgS, s_if, s_for, s_ret, ss_nil, th_next, th_ret, fin_ret, tg_name, tg_two, x_add, x_sub, x_mul, x_div, x_mod, x_pow, x_addT, x_addL, x_mulL, x_neg, x_not, x_lt, x_le, x_gt, x_ge, x_eq, x_ne, x_eqS, x_neS, tr_bool, mk_f, mk_t, sa_af, sa_at, sa_of, sa_ot, it_list, it_tup, ic_zip_tl, ic_range1, ic_range2, p_int, p_tup, p_list, blt1, blt2, blt3, blt4, blt5, blt6, blt7, me_append, me_extend, me_index, ns_nil, bind_nil, bind_cons, b_len, b_isinstance, b_list, b_tuple, b_sum, ti_ii, ti_ib, ti_tt, hide_false, back_false, wItem_lit, seqD_tup, seqD_list, lstD_list, String.reduceEq, ↓reduceIte, or_self, Option.some.injEq, reduceCtorEq, if_true, if_false, true_and, and_true, exists_eq_left', exists_eq_left, Int.reduceLE, Int.reduceLT, Int.reduceToNat, List.getElem?_cons_succ, List.getElem?_cons_zero, Bool.false_eq_true, noStars, isStarE, List.all, Bool.not_false, Bool.not_true, Bool.and_self, isCallE, isTupE, isSliceE, forall_const, implies_true, Bool.or_self, ite_true, ite_false, List.length_cons, List.length_nil, Nat.reduceLeDiff, Int.reducePow, Nat.zero_add, Nat.reduceAdd, Nat.reduceBEq, decide_true, decide_false, Int.reduceNeg, Int.cast_ofNat_Int, Int.reduceBEq, beq_self_eq_true, dI_len, two_lim, bo_oa, bo_aa, imp_self, false_implies, kd0, kd1, kd2, kd3, kd4, kd5, hS]
  refine ⟨by simp [ScopeOk, ofString_inj, kd0, kd1, kd2, kd3, kd4, kd5], Nat.le_trans hl1 (by decide), ?_⟩
  refine wComp_none _ _ (fun d hd k hk => ?_) ?_
  · simp only [dI, List.mem_map] at hd
    obtain ⟨a, _, rfl⟩ := hd
    refine hS' _ _ _ ?_
    simp only [gl_l, gl_c, gl_f, gl_g, own_l, own_c, nm_l, nm_c, nm_f, nm_g, upd_str, lk_str, call_n, call_s, e_none, e_bool, e_int, e_str, e_name, e_boolop, e_bin, e_un, e_cmp, e_call, e_meth0, e_meth1, e_slice, e_itemC, e_itemN, e_itemB, e_itemS, e_tup, e_list, e_comp0, e_comp1, es_nil, es_cons, o_none, o_some, b_one, b_two, c_one, c_two, t_not, t_bool, t_cmp, t_call, a_nil, a_cons, i_zip, i_range, i_enum, i_call, i_name, i_sub, i_list, s_expr, s_asgN, s_asgT, s_asgS, s_if, s_for, s_ret, ss_nil, th_next, th_ret, fin_ret, tg_name, tg_two, x_add, x_sub, x_mul, x_div, x_mod, x_pow, x_addT, x_addL, x_mulL, x_neg, x_not, x_lt, x_le, x_gt, x_ge, x_eq, x_ne, x_eqS, x_neS, tr_bool, mk_f, mk_t, sa_af, sa_at, sa_of, sa_ot, it_list, it_tup, ic_zip_tl, ic_range1, ic_range2, p_int, p_tup, p_list, blt1, blt2, blt3, blt4, blt5, blt6, blt7, me_append, me_extend, me_index, ns_nil, bind_nil, bind_cons, b_len, b_isinstance, b_list, b_tuple, b_sum, ti_ii, ti_ib, ti_tt, hide_false, back_false, wItem_lit, seqD_tup, seqD_list, lstD_list, String.reduceEq, ↓reduceIte, or_self, Option.some.injEq, reduceCtorEq, if_true, if_false, true_and, and_true, exists_eq_left', exists_eq_left, Int.reduceLE, Int.reduceLT, Int.reduceToNat, List.getElem?_cons_succ, List.getElem?_cons_zero, Bool.false_eq_true, noStars, isStarE, List.all, Bool.not_false, Bool.not_true, Bool.and_self, isCallE, isTupE, isSliceE, forall_const, implies_true, Bool.or_self, ite_true, ite_false, List.length_cons, List.length_nil, Nat.reduceLeDiff, Int.reducePow, Nat.zero_add, Nat.reduceAdd, Nat.reduceBEq, decide_true, decide_false, Int.reduceNeg, Int.cast_ofNat_Int, Int.reduceBEq, beq_self_eq_true, dI_len, two_lim, bo_oa, bo_aa, imp_self, false_implies, kd0, kd1, kd2, kd3, kd4, kd5]
    exact hk
  · simp only [gl_l, gl_c, gl_f, gl_g, own_l, own_c, nm_l, nm_c, nm_f, nm_g, upd_str, lk_str, call_n, call_s, e_none, e_bool, e_int, e_str, e_name, e_boolop, e_bin, e_un, e_cmp, e_call, e_meth0, e_meth1, e_slice, e_itemC, e_itemN, e_itemB, e_itemS, e_tup, e_list, e_comp0, e_comp1, es_nil, es_cons, o_none, o_some, b_one, b_two, c_one, c_two, t_not, t_bool, t_cmp, t_call, a_nil, a_cons, i_zip, i_range, i_enum, i_call, i_name, i_sub, i_list, s_expr, s_asgN, s_asgT, s_asgS, s_if, s_for, s_ret, ss_nil, th_next, th_ret, fin_ret, tg_name, tg_two, x_add, x_sub, x_mul, x_div, x_mod, x_pow, x_addT, x_addL, x_mulL, x_neg, x_not, x_lt, x_le, x_gt, x_ge, x_eq, x_ne, x_eqS, x_neS, tr_bool, mk_f, mk_t, sa_af, sa_at, sa_of, sa_ot, it_list, it_tup, ic_zip_tl, ic_range1, ic_range2, p_int, p_tup, p_list, blt1, blt2, blt3, blt4, blt5, blt6, blt7, me_append, me_extend, me_index, ns_nil, bind_nil, bind_cons, b_len, b_isinstance, b_list, b_tuple, b_sum, ti_ii, ti_ib, ti_tt, hide_false, back_false, wItem_lit, seqD_tup, seqD_list, lstD_list, String.reduceEq, ↓reduceIte, or_self, Option.some.injEq, reduceCtorEq, if_true, if_false, true_and, and_true, exists_eq_left', exists_eq_left, Int.reduceLE, Int.reduceLT, Int.reduceToNat, List.getElem?_cons_succ, List.getElem?_cons_zero, Bool.false_eq_true, noStars, isStarE, List.all, Bool.not_false, Bool.not_true, Bool.and_self, isCallE, isTupE, isSliceE, forall_const, implies_true, Bool.or_self, ite_true, ite_false, List.length_cons, List.length_nil, Nat.reduceLeDiff, Int.reducePow, Nat.zero_add, Nat.reduceAdd, Nat.reduceBEq, decide_true, decide_false, Int.reduceNeg, Int.cast_ofNat_Int, Int.reduceBEq, beq_self_eq_true, dI_len, two_lim, bo_oa, bo_aa, imp_self, false_implies, kd0, kd1, kd2, kd3, kd4, kd5]
    exact ⟨Nat.zero_le _, Nat.zero_le _, .list [], .list [], rfl, rfl, by show min _ _ ≤ 1000; decide, hQ⟩

structure WfSt (st : St) : Prop where
  top : ∀ n, st.hi ≤ n → st.cs n = none
  und : ∀ n c, st.cs n = some c → c.undr st.hi = true

theorem alloc_put (st : St) (c c' : Cell) : (st.alloc c).put st.hi c' = st.alloc c' := by
  simp only [St.alloc, St.put, St.mk.injEq, true_and]
  funext n
  by_cases h : n = st.hi <;> simp [h]
theorem alloc_cut {st : St} (w : WfSt st) (c : Cell) : (st.alloc c).cut st.hi = st := by
  obtain ⟨hi, cs⟩ := st
  simp only [St.alloc, St.cut, St.mk.injEq, true_and]
  funext n
  by_cases h : n < hi
  · rw [if_pos h, if_neg (Nat.ne_of_lt h)]
    cases q : cs n with
    | none => rfl
    | some c' => show (if Cell.undr hi c' = true then some c' else none) = some c'; rw [if_pos (w.und n c' q)]
  · rw [if_neg h]; exact (w.top n (Nat.le_of_not_lt h)).symm
theorem undr_dI (hi : Nat) (ns : List Int) : undrAll hi (dI ns) = true := by
  induction ns with
  | nil => rfl
  | cons n ns ih => simp only [dI, List.map_cons, undrAll, D.undr, Bool.true_and]; exact ih

noncomputable def boxD (b : List Int × Int) : D := .tup [.tup (dI b.1), .int b.2]
noncomputable def addv (v : List Int) (a : Int) (ms : List Int) : List Int := List.zipWith (fun x y => x + a * y) v ms
theorem addv_len {v ms : List Int} {a : Int} (h : ms.length = v.length) : (addv v a ms).length = v.length := by simp [addv, h]
noncomputable def mix (v : List Int) (a : Int) (ms : List Int) (j : Nat) : List Int := (addv v a ms).take j ++ v.drop j
theorem mix_len {v ms : List Int} {a : Int} {j : Nat} (h : ms.length = v.length) (hj : j ≤ v.length) : (mix v a ms j).length = v.length := by
  simp only [mix, List.length_append, List.length_take, addv_len h, List.length_drop]; omega
theorem mix_get {v ms : List Int} {a x : Int} {j : Nat} (h : ms.length = v.length) (hx : v[j]? = some x) : (mix v a ms j)[j]? = some x := by
  have hj : j < v.length := (List.getElem?_eq_some_iff.mp hx).1
  have : ((addv v a ms).take j).length = j := by rw [List.length_take, addv_len h]; omega
  unfold mix
  rw [List.getElem?_append_right (by omega), this]
  simp [hx]
theorem mix_set {v ms : List Int} {a x y : Int} {j : Nat} (h : ms.length = v.length) (hx : v[j]? = some x) (hy : ms[j]? = some y) : (mix v a ms j).set j (x + a * y) = mix v a ms (j + 1) := by
  have hj : j < v.length := (List.getElem?_eq_some_iff.mp hx).1
  have hl : ((addv v a ms).take j).length = j := by rw [List.length_take, addv_len h]; omega
  have hg : (addv v a ms)[j]? = some (x + a * y) := by simp [addv, List.getElem?_zipWith, hx, hy]
  unfold mix
  rw [List.set_append_right _ _ (by omega), hl, Nat.sub_self, List.drop_eq_getElem_cons hj, List.set_cons_zero, List.take_add_one, hg]
  simp
theorem mix_all {v ms : List Int} {a : Int} (h : ms.length = v.length) : mix v a ms v.length = addv v a ms := by
  unfold mix
  rw [List.take_of_length_le (by rw [addv_len h]; exact Nat.le_refl _)]; simp
theorem dI_set (ns : List Int) (j : Nat) (x : Int) : (dI ns).set j (.int x) = dI (ns.set j x) := by simp [dI, List.map_set]
theorem flat_rep (w : Nat) : (List.replicate w [D.int 0]).flatten = dI (List.replicate w 0) := by
  induction w with
  | zero => rfl
  | succ w ih => simp only [List.replicate_succ, List.flatten_cons, ih]; rfl
theorem zipB_get {ns : List Int} {bx : List (List Int × Int)} {i : Nat} {d : D} (h : (zipL (dI ns) (bx.map boxD))[i]? = some d) : ∃ a b, ns[i]? = some a ∧ bx[i]? = some b ∧ d = .tup [.int a, boxD b] := by
  simp only [zipL, dI, List.getElem?_map, Option.map_eq_some_iff] at h
  obtain ⟨⟨x, y⟩, h1, rfl⟩ := h
  rw [List.getElem?_zip_eq_some] at h1
  simp only [List.getElem?_map, Option.map_eq_some_iff] at h1
  obtain ⟨⟨a, ha, rfl⟩, b, hb, rfl⟩ := h1
  exact ⟨a, b, ha, hb, rfl⟩
noncomputable def putV (w : Nat) (l : List (Int × (List Int × Int))) : List Int := l.foldl (fun v p => addv v p.1 p.2.1) (List.replicate w 0)
theorem putV_len {w : Nat} : ∀ (l : List (Int × (List Int × Int))) (v : List Int), v.length = w → (∀ p ∈ l, p.2.1.length = w) → (l.foldl (fun v p => addv v p.1 p.2.1) v).length = w
  | [], v, h, _ => h
  | p :: l, v, h, hp => putV_len l _ (by rw [addv_len (by rw [h]; exact hp p (.head _))]; exact h) fun q hq => hp q (.tail _ hq)
theorem seqD_alloc {st : St} {ds : List D} : seqD (st.alloc (.list ds)) (.loc st.hi) = some ds := by simp [seqD, St.alloc]
theorem lstD_alloc {st : St} {ds : List D} : lstD (st.alloc (.list ds)) (.loc st.hi) = some ds := by simp [lstD, St.alloc]

theorem seqD_loc {st : St} {n : Nat} {ds : List D} (h : st.cs n = some (.list ds)) : seqD st (.loc n) = some ds := by simp only [seqD, h]
theorem alloc_cs (st : St) (c : Cell) : (st.alloc c).cs st.hi = some c := by simp [St.alloc]

noncomputable def mtN (x : Str) : Bool := x == "numbers"
theorem mtN_str (a : String) : mtN (Str.ofString a) = decide (a = "numbers") := ofString_beq a _
theorem putIn_ok {Γ : Ctx} (h1 : Γ.fn "len" = none) (h2 : Γ.fn "range" = none) (h3 : Γ.fn "zip" = none) (h4 : Γ.fn "tuple" = none) (ns : List Int) (c : Int) (bx : List (List Int × Int)) (w : Nat) (st : St) (Q : D → St → Prop) (wf : WfSt st)
    (hl1 : ns.length ≤ 1000) (hl2 : bx.length ≤ 1000) (hb0 : 0 < bx.length) (hw : ∀ b ∈ bx, b.1.length = w) (hw1 : w ≤ 1000) (hb1 : ∀ a ∈ ns, Big a) (hb2 : ∀ b ∈ bx, Big b.2 ∧ ∀ a ∈ b.1, Big a)
    (hQ : Q (.tup [.tup (dI (putV w (ns.zip bx))), .int (c + dot ns (bx.map (·.2)))]) st) :
    wFn Γ mtN 40 (kdOf PySem.Challenge.pw_uf010033_01 3) ["one", "boxes"] (bodyOf PySem.Challenge.pw_uf010033_01 3) [.tup [.tup (dI ns), .int c], .list (bx.map boxD)] st Q := by
  refine fn_intro rfl ?_
  generalize hkd : kdOf PySem.Challenge.pw_uf010033_01 3 = kd
  obtain ⟨kd0, kd1, kd2, kd3, kd4, kd5, kd6, kd7, kd8, kd9, kd10⟩ : kd "one" = some .local ∧ kd "boxes" = some .local ∧ kd "numbers" = some .local ∧ kd "last" = some .local ∧ kd "number" = some .local ∧ kd "box" = some .local ∧ kd "place" = some .local ∧ kd "len" = some .globalImplicit ∧ kd "zip" = some .globalImplicit ∧ kd "range" = some .globalImplicit ∧ kd "tuple" = some .globalImplicit := by
    subst hkd; exact ⟨rfl, rfl, rfl, rfl, rfl, rfl, rfl, rfl, rfl, rfl, rfl⟩
  clear hkd
  dsimp only [bodyOf, PySem.Challenge.pw_uf010033_01, List.getElem?_cons_succ, List.getElem?_cons_zero]
  obtain ⟨b0, hb0', hbm⟩ : ∃ b, bx[0]? = some b ∧ b ∈ bx := ⟨bx[0], by simp [hb0], by simp⟩
  have hg0 : (bx.map boxD)[0]? = some (boxD b0) := by simp [hb0']
  rw [wSs_cons]
  simp only [gl_l, gl_c, gl_f, gl_g, own_l, own_c, nm_l, nm_c, nm_f, nm_g, upd_str, lk_str, call_n, call_s, e_none, e_bool, e_int, e_str, e_name, e_boolop, e_bin, e_un, e_cmp, e_call, e_meth0, e_meth1, e_slice, e_itemC, e_itemN, e_itemB, e_itemS, e_tup, e_list, e_comp0, e_comp1, es_nil, es_cons, o_none, o_some, b_one, b_two, c_one, c_two, t_not, t_bool, t_cmp, t_call, a_nil, a_cons, i_zip, i_range, i_enum, i_call, i_name, i_sub, i_list, s_expr, s_asgN, s_asgT, s_asgS, s_if, s_for, s_ret, ss_nil, th_next, th_ret, fin_ret, tg_name, tg_two, x_add, x_sub, x_mul, x_div, x_mod, x_pow, x_addT, x_addL, x_mulL, x_neg, x_not, x_lt, x_le, x_gt, x_ge, x_eq, x_ne, x_eqS, x_neS, tr_bool, mk_f, mk_t, sa_af, sa_at, sa_of, sa_ot, it_list, it_tup, ic_zip_tl, ic_range1, ic_range2, p_int, p_tup, p_list, blt1, blt2, blt3, blt4, blt5, blt6, blt7, me_append, me_extend, me_index, ns_nil, bind_nil, bind_cons, b_len, b_isinstance, b_list, b_tuple, b_sum, ti_ii, ti_ib, ti_tt, hide_false, back_false, wItem_lit, seqD_tup, seqD_list, lstD_list, String.reduceEq, ↓reduceIte, or_self, Option.some.injEq, reduceCtorEq, if_true, if_false, true_and, and_true, exists_eq_left', exists_eq_left, Int.reduceLE, Int.reduceLT, Int.reduceToNat, List.getElem?_cons_succ, List.getElem?_cons_zero, Bool.false_eq_true, noStars, isStarE, List.all, Bool.not_false, Bool.not_true, Bool.and_self, isCallE, isTupE, isSliceE, forall_const, implies_true, Bool.or_self, ite_true, ite_false, List.length_cons, List.length_nil, Nat.reduceLeDiff, Int.reducePow, Nat.zero_add, Nat.reduceAdd, Nat.reduceBEq, decide_true, decide_false, Int.reduceNeg, Int.cast_ofNat_Int, Int.reduceBEq, beq_self_eq_true, dI_len, two_lim, bo_oa, bo_aa, imp_self, false_implies, kd0, kd1, kd2, kd3, kd4, kd5, kd6, kd7, kd8, kd9, kd10, h1, h2, h3, h4, hg0, boxD, hw b0 hbm, mtN_str]
  have hlim : lim = 1000000 := rfl
  refine ⟨by omega, by omega, by omega, by omega, by rw [Int.toNat_natCast, flat_rep, dI_len, List.length_replicate]; omega, ?_⟩
  rw [Int.toNat_natCast, flat_rep]
  rw [wSs_cons]
  simp only [gl_l, gl_c, gl_f, gl_g, own_l, own_c, nm_l, nm_c, nm_f, nm_g, upd_str, lk_str, call_n, call_s, e_none, e_bool, e_int, e_str, e_name, e_boolop, e_bin, e_un, e_cmp, e_call, e_meth0, e_meth1, e_slice, e_itemC, e_itemN, e_itemB, e_itemS, e_tup, e_list, e_comp0, e_comp1, es_nil, es_cons, o_none, o_some, b_one, b_two, c_one, c_two, t_not, t_bool, t_cmp, t_call, a_nil, a_cons, i_zip, i_range, i_enum, i_call, i_name, i_sub, i_list, s_expr, s_asgN, s_asgT, s_asgS, s_if, s_for, s_ret, ss_nil, th_next, th_ret, fin_ret, tg_name, tg_two, x_add, x_sub, x_mul, x_div, x_mod, x_pow, x_addT, x_addL, x_mulL, x_neg, x_not, x_lt, x_le, x_gt, x_ge, x_eq, x_ne, x_eqS, x_neS, tr_bool, mk_f, mk_t, sa_af, sa_at, sa_of, sa_ot, it_list, it_tup, ic_zip_tl, ic_range1, ic_range2, p_int, p_tup, p_list, blt1, blt2, blt3, blt4, blt5, blt6, blt7, me_append, me_extend, me_index, ns_nil, bind_nil, bind_cons, b_len, b_isinstance, b_list, b_tuple, b_sum, ti_ii, ti_ib, ti_tt, hide_false, back_false, wItem_lit, seqD_tup, seqD_list, lstD_list, String.reduceEq, ↓reduceIte, or_self, Option.some.injEq, reduceCtorEq, if_true, if_false, true_and, and_true, exists_eq_left', exists_eq_left, Int.reduceLE, Int.reduceLT, Int.reduceToNat, List.getElem?_cons_succ, List.getElem?_cons_zero, Bool.false_eq_true, noStars, isStarE, List.all, Bool.not_false, Bool.not_true, Bool.and_self, isCallE, isTupE, isSliceE, forall_const, implies_true, Bool.or_self, ite_true, ite_false, List.length_cons, List.length_nil, Nat.reduceLeDiff, Int.reducePow, Nat.zero_add, Nat.reduceAdd, Nat.reduceBEq, decide_true, decide_false, Int.reduceNeg, Int.cast_ofNat_Int, Int.reduceBEq, beq_self_eq_true, dI_len, two_lim, bo_oa, bo_aa, imp_self, false_implies, kd0, kd1, kd2, kd3, kd4, kd5, kd6, kd7, kd8, kd9, kd10]
  rw [wSs_cons]
  simp only [gl_l, gl_c, gl_f, gl_g, own_l, own_c, nm_l, nm_c, nm_f, nm_g, upd_str, lk_str, call_n, call_s, e_none, e_bool, e_int, e_str, e_name, e_boolop, e_bin, e_un, e_cmp, e_call, e_meth0, e_meth1, e_slice, e_itemC, e_itemN, e_itemB, e_itemS, e_tup, e_list, e_comp0, e_comp1, es_nil, es_cons, o_none, o_some, b_one, b_two, c_one, c_two, t_not, t_bool, t_cmp, t_call, a_nil, a_cons, i_zip, i_range, i_enum, i_call, i_name, i_sub, i_list, s_expr, s_asgN, s_asgT, s_asgS, s_if, s_for, s_ret, ss_nil, th_next, th_ret, fin_ret, tg_name, tg_two, x_add, x_sub, x_mul, x_div, x_mod, x_pow, x_addT, x_addL, x_mulL, x_neg, x_not, x_lt, x_le, x_gt, x_ge, x_eq, x_ne, x_eqS, x_neS, tr_bool, mk_f, mk_t, sa_af, sa_at, sa_of, sa_ot, it_list, it_tup, ic_zip_tl, ic_range1, ic_range2, p_int, p_tup, p_list, blt1, blt2, blt3, blt4, blt5, blt6, blt7, me_append, me_extend, me_index, ns_nil, bind_nil, bind_cons, b_len, b_isinstance, b_list, b_tuple, b_sum, ti_ii, ti_ib, ti_tt, hide_false, back_false, wItem_lit, seqD_tup, seqD_list, lstD_list, String.reduceEq, ↓reduceIte, or_self, Option.some.injEq, reduceCtorEq, if_true, if_false, true_and, and_true, exists_eq_left', exists_eq_left, Int.reduceLE, Int.reduceLT, Int.reduceToNat, List.getElem?_cons_succ, List.getElem?_cons_zero, Bool.false_eq_true, noStars, isStarE, List.all, Bool.not_false, Bool.not_true, Bool.and_self, isCallE, isTupE, isSliceE, forall_const, implies_true, Bool.or_self, ite_true, ite_false, List.length_cons, List.length_nil, Nat.reduceLeDiff, Int.reducePow, Nat.zero_add, Nat.reduceAdd, Nat.reduceBEq, decide_true, decide_false, Int.reduceNeg, Int.cast_ofNat_Int, Int.reduceBEq, beq_self_eq_true, dI_len, two_lim, bo_oa, bo_aa, imp_self, false_implies, kd0, kd1, kd2, kd3, kd4, kd5, kd6, kd7, kd8, kd9, kd10, h3]
  refine ⟨by omega, by rw [List.length_map]; omega, ?_⟩
  refine wFor_inv (fun i m' st' => st' = st.alloc (.list (dI (putV w ((ns.zip bx).take i)))) ∧ m' "numbers" = some (.loc st.hi) ∧ m' "last" = some (.int (c + dot (ns.take i) ((bx.map (·.2)).take i)))) _ [] ⟨rfl, by simp only [gl_l, gl_c, gl_f, gl_g, own_l, own_c, nm_l, nm_c, nm_f, nm_g, upd_str, lk_str, call_n, call_s, e_none, e_bool, e_int, e_str, e_name, e_boolop, e_bin, e_un, e_cmp, e_call, e_meth0, e_meth1, e_slice, e_itemC, e_itemN, e_itemB, e_itemS, e_tup, e_list, e_comp0, e_comp1, es_nil, es_cons, o_none, o_some, b_one, b_two, c_one, c_two, t_not, t_bool, t_cmp, t_call, a_nil, a_cons, i_zip, i_range, i_enum, i_call, i_name, i_sub, i_list, s_expr, s_asgN, s_asgT, s_asgS, s_if, s_for, s_ret, ss_nil, th_next, th_ret, fin_ret, tg_name, tg_two, x_add, x_sub, x_mul, x_div, x_mod, x_pow, x_addT, x_addL, x_mulL, x_neg, x_not, x_lt, x_le, x_gt, x_ge, x_eq, x_ne, x_eqS, x_neS, tr_bool, mk_f, mk_t, sa_af, sa_at, sa_of, sa_ot, it_list, it_tup, ic_zip_tl, ic_range1, ic_range2, p_int, p_tup, p_list, blt1, blt2, blt3, blt4, blt5, blt6, blt7, me_append, me_extend, me_index, ns_nil, bind_nil, bind_cons, b_len, b_isinstance, b_list, b_tuple, b_sum, ti_ii, ti_ib, ti_tt, hide_false, back_false, wItem_lit, seqD_tup, seqD_list, lstD_list, String.reduceEq, ↓reduceIte, or_self, Option.some.injEq, reduceCtorEq, if_true, if_false, true_and, and_true, exists_eq_left', exists_eq_left, Int.reduceLE, Int.reduceLT, Int.reduceToNat, List.getElem?_cons_succ, List.getElem?_cons_zero, Bool.false_eq_true, noStars, isStarE, List.all, Bool.not_false, Bool.not_true, Bool.and_self, isCallE, isTupE, isSliceE, forall_const, implies_true, Bool.or_self, ite_true, ite_false, List.length_cons, List.length_nil, Nat.reduceLeDiff, Int.reducePow, Nat.zero_add, Nat.reduceAdd, Nat.reduceBEq, decide_true, decide_false, Int.reduceNeg, Int.cast_ofNat_Int, Int.reduceBEq, beq_self_eq_true, dI_len, two_lim, bo_oa, bo_aa, imp_self, false_implies, kd0, kd1, kd2, kd3, kd4, kd5, kd6, kd7, kd8, kd9, kd10], by simp [upd, dot]⟩ ?_ ?_
  · rintro i d m' st' K hd ⟨rfl, m1, hm⟩ hK
    obtain ⟨a, b, ha, hb, rfl⟩ := zipB_get hd
    obtain ⟨ms, e⟩ := b
    have hbmem := List.mem_of_getElem? hb
    have hmsw : ms.length = w := hw _ hbmem
    generalize hv : putV w ((ns.zip bx).take i) = v
    have hvl : v.length = w := by
      rw [← hv]
      exact putV_len _ _ (by simp) fun p hp => hw p.2 (List.of_mem_zip (List.mem_of_mem_take hp)).2
    have hmv : ms.length = v.length := by rw [hmsw, hvl]
    simp only [gl_l, gl_c, gl_f, gl_g, own_l, own_c, nm_l, nm_c, nm_f, nm_g, upd_str, lk_str, call_n, call_s, e_none, e_bool, e_int, e_str, e_name, e_boolop, e_bin, e_un, e_cmp, e_call, e_meth0, e_meth1, e_slice, e_itemC, e_itemN, e_itemB, e_itemS, e_tup, e_list, e_comp0, e_comp1, es_nil, es_cons, o_none, o_some, b_one, b_two, c_one, c_two, t_not, t_bool, t_cmp, t_call, a_nil, a_cons, i_zip, i_range, i_enum, i_call, i_name, i_sub, i_list, s_expr, s_asgN, s_asgT, s_asgS, s_if, s_for, s_ret, ss_nil, th_next, th_ret, fin_ret, tg_name, tg_two, x_add, x_sub, x_mul, x_div, x_mod, x_pow, x_addT, x_addL, x_mulL, x_neg, x_not, x_lt, x_le, x_gt, x_ge, x_eq, x_ne, x_eqS, x_neS, tr_bool, mk_f, mk_t, sa_af, sa_at, sa_of, sa_ot, it_list, it_tup, ic_zip_tl, ic_range1, ic_range2, p_int, p_tup, p_list, blt1, blt2, blt3, blt4, blt5, blt6, blt7, me_append, me_extend, me_index, ns_nil, bind_nil, bind_cons, b_len, b_isinstance, b_list, b_tuple, b_sum, ti_ii, ti_ib, ti_tt, hide_false, back_false, wItem_lit, seqD_tup, seqD_list, lstD_list, String.reduceEq, ↓reduceIte, or_self, Option.some.injEq, reduceCtorEq, if_true, if_false, true_and, and_true, exists_eq_left', exists_eq_left, Int.reduceLE, Int.reduceLT, Int.reduceToNat, List.getElem?_cons_succ, List.getElem?_cons_zero, Bool.false_eq_true, noStars, isStarE, List.all, Bool.not_false, Bool.not_true, Bool.and_self, isCallE, isTupE, isSliceE, forall_const, implies_true, Bool.or_self, ite_true, ite_false, List.length_cons, List.length_nil, Nat.reduceLeDiff, Int.reducePow, Nat.zero_add, Nat.reduceAdd, Nat.reduceBEq, decide_true, decide_false, Int.reduceNeg, Int.cast_ofNat_Int, Int.reduceBEq, beq_self_eq_true, dI_len, two_lim, bo_oa, bo_aa, imp_self, false_implies, kd0, kd1, kd2, kd3, kd4, kd5, kd6, kd7, kd8, kd9, kd10, boxD]
    rw [wSs_cons]
    simp only [gl_l, gl_c, gl_f, gl_g, own_l, own_c, nm_l, nm_c, nm_f, nm_g, upd_str, lk_str, call_n, call_s, e_none, e_bool, e_int, e_str, e_name, e_boolop, e_bin, e_un, e_cmp, e_call, e_meth0, e_meth1, e_slice, e_itemC, e_itemN, e_itemB, e_itemS, e_tup, e_list, e_comp0, e_comp1, es_nil, es_cons, o_none, o_some, b_one, b_two, c_one, c_two, t_not, t_bool, t_cmp, t_call, a_nil, a_cons, i_zip, i_range, i_enum, i_call, i_name, i_sub, i_list, s_expr, s_asgN, s_asgT, s_asgS, s_if, s_for, s_ret, ss_nil, th_next, th_ret, fin_ret, tg_name, tg_two, x_add, x_sub, x_mul, x_div, x_mod, x_pow, x_addT, x_addL, x_mulL, x_neg, x_not, x_lt, x_le, x_gt, x_ge, x_eq, x_ne, x_eqS, x_neS, tr_bool, mk_f, mk_t, sa_af, sa_at, sa_of, sa_ot, it_list, it_tup, ic_zip_tl, ic_range1, ic_range2, p_int, p_tup, p_list, blt1, blt2, blt3, blt4, blt5, blt6, blt7, me_append, me_extend, me_index, ns_nil, bind_nil, bind_cons, b_len, b_isinstance, b_list, b_tuple, b_sum, ti_ii, ti_ib, ti_tt, hide_false, back_false, wItem_lit, seqD_tup, seqD_list, lstD_list, String.reduceEq, ↓reduceIte, or_self, Option.some.injEq, reduceCtorEq, if_true, if_false, true_and, and_true, exists_eq_left', exists_eq_left, Int.reduceLE, Int.reduceLT, Int.reduceToNat, List.getElem?_cons_succ, List.getElem?_cons_zero, Bool.false_eq_true, noStars, isStarE, List.all, Bool.not_false, Bool.not_true, Bool.and_self, isCallE, isTupE, isSliceE, forall_const, implies_true, Bool.or_self, ite_true, ite_false, List.length_cons, List.length_nil, Nat.reduceLeDiff, Int.reducePow, Nat.zero_add, Nat.reduceAdd, Nat.reduceBEq, decide_true, decide_false, Int.reduceNeg, Int.cast_ofNat_Int, Int.reduceBEq, beq_self_eq_true, dI_len, two_lim, bo_oa, bo_aa, imp_self, false_implies, kd0, kd1, kd2, kd3, kd4, kd5, kd6, kd7, kd8, kd9, kd10, hm]
    refine ⟨mulOk (hb1 a (List.mem_of_getElem? ha)) (hb2 _ hbmem).1, ?_⟩
    rw [wSs_cons]
    simp only [gl_l, gl_c, gl_f, gl_g, own_l, own_c, nm_l, nm_c, nm_f, nm_g, upd_str, lk_str, call_n, call_s, e_none, e_bool, e_int, e_str, e_name, e_boolop, e_bin, e_un, e_cmp, e_call, e_meth0, e_meth1, e_slice, e_itemC, e_itemN, e_itemB, e_itemS, e_tup, e_list, e_comp0, e_comp1, es_nil, es_cons, o_none, o_some, b_one, b_two, c_one, c_two, t_not, t_bool, t_cmp, t_call, a_nil, a_cons, i_zip, i_range, i_enum, i_call, i_name, i_sub, i_list, s_expr, s_asgN, s_asgT, s_asgS, s_if, s_for, s_ret, ss_nil, th_next, th_ret, fin_ret, tg_name, tg_two, x_add, x_sub, x_mul, x_div, x_mod, x_pow, x_addT, x_addL, x_mulL, x_neg, x_not, x_lt, x_le, x_gt, x_ge, x_eq, x_ne, x_eqS, x_neS, tr_bool, mk_f, mk_t, sa_af, sa_at, sa_of, sa_ot, it_list, it_tup, ic_zip_tl, ic_range1, ic_range2, p_int, p_tup, p_list, blt1, blt2, blt3, blt4, blt5, blt6, blt7, me_append, me_extend, me_index, ns_nil, bind_nil, bind_cons, b_len, b_isinstance, b_list, b_tuple, b_sum, ti_ii, ti_ib, ti_tt, hide_false, back_false, wItem_lit, seqD_tup, seqD_list, lstD_list, String.reduceEq, ↓reduceIte, or_self, Option.some.injEq, reduceCtorEq, if_true, if_false, true_and, and_true, exists_eq_left', exists_eq_left, Int.reduceLE, Int.reduceLT, Int.reduceToNat, List.getElem?_cons_succ, List.getElem?_cons_zero, Bool.false_eq_true, noStars, isStarE, List.all, Bool.not_false, Bool.not_true, Bool.and_self, isCallE, isTupE, isSliceE, forall_const, implies_true, Bool.or_self, ite_true, ite_false, List.length_cons, List.length_nil, Nat.reduceLeDiff, Int.reducePow, Nat.zero_add, Nat.reduceAdd, Nat.reduceBEq, decide_true, decide_false, Int.reduceNeg, Int.cast_ofNat_Int, Int.reduceBEq, beq_self_eq_true, dI_len, two_lim, bo_oa, bo_aa, imp_self, false_implies, kd0, kd1, kd2, kd3, kd4, kd5, kd6, kd7, kd8, kd9, kd10, h1, h2, m1, seqD_alloc]
    refine ⟨by omega, by omega, by omega, ?_⟩
    refine wFor_inv (fun j m2 st2 => st2 = st.alloc (.list (dI (mix v a ms j))) ∧ m2 "numbers" = some (.loc st.hi) ∧ m2 "number" = some (.int a) ∧ m2 "box" = some (.tup [.tup (dI ms), .int e]) ∧ m2 "last" = some (.int (c + dot (ns.take i) ((bx.map (·.2)).take i) + a * e))) _ []
      ⟨by simp [mix], by simp only [gl_l, gl_c, gl_f, gl_g, own_l, own_c, nm_l, nm_c, nm_f, nm_g, upd_str, lk_str, call_n, call_s, e_none, e_bool, e_int, e_str, e_name, e_boolop, e_bin, e_un, e_cmp, e_call, e_meth0, e_meth1, e_slice, e_itemC, e_itemN, e_itemB, e_itemS, e_tup, e_list, e_comp0, e_comp1, es_nil, es_cons, o_none, o_some, b_one, b_two, c_one, c_two, t_not, t_bool, t_cmp, t_call, a_nil, a_cons, i_zip, i_range, i_enum, i_call, i_name, i_sub, i_list, s_expr, s_asgN, s_asgT, s_asgS, s_if, s_for, s_ret, ss_nil, th_next, th_ret, fin_ret, tg_name, tg_two, x_add, x_sub, x_mul, x_div, x_mod, x_pow, x_addT, x_addL, x_mulL, x_neg, x_not, x_lt, x_le, x_gt, x_ge, x_eq, x_ne, x_eqS, x_neS, tr_bool, mk_f, mk_t, sa_af, sa_at, sa_of, sa_ot, it_list, it_tup, ic_zip_tl, ic_range1, ic_range2, p_int, p_tup, p_list, blt1, blt2, blt3, blt4, blt5, blt6, blt7, me_append, me_extend, me_index, ns_nil, bind_nil, bind_cons, b_len, b_isinstance, b_list, b_tuple, b_sum, ti_ii, ti_ib, ti_tt, hide_false, back_false, wItem_lit, seqD_tup, seqD_list, lstD_list, String.reduceEq, ↓reduceIte, or_self, Option.some.injEq, reduceCtorEq, if_true, if_false, true_and, and_true, exists_eq_left', exists_eq_left, Int.reduceLE, Int.reduceLT, Int.reduceToNat, List.getElem?_cons_succ, List.getElem?_cons_zero, Bool.false_eq_true, noStars, isStarE, List.all, Bool.not_false, Bool.not_true, Bool.and_self, isCallE, isTupE, isSliceE, forall_const, implies_true, Bool.or_self, ite_true, ite_false, List.length_cons, List.length_nil, Nat.reduceLeDiff, Int.reducePow, Nat.zero_add, Nat.reduceAdd, Nat.reduceBEq, decide_true, decide_false, Int.reduceNeg, Int.cast_ofNat_Int, Int.reduceBEq, beq_self_eq_true, dI_len, two_lim, bo_oa, bo_aa, imp_self, false_implies, kd0, kd1, kd2, kd3, kd4, kd5, kd6, kd7, kd8, kd9, kd10, m1], by simp only [gl_l, gl_c, gl_f, gl_g, own_l, own_c, nm_l, nm_c, nm_f, nm_g, upd_str, lk_str, call_n, call_s, e_none, e_bool, e_int, e_str, e_name, e_boolop, e_bin, e_un, e_cmp, e_call, e_meth0, e_meth1, e_slice, e_itemC, e_itemN, e_itemB, e_itemS, e_tup, e_list, e_comp0, e_comp1, es_nil, es_cons, o_none, o_some, b_one, b_two, c_one, c_two, t_not, t_bool, t_cmp, t_call, a_nil, a_cons, i_zip, i_range, i_enum, i_call, i_name, i_sub, i_list, s_expr, s_asgN, s_asgT, s_asgS, s_if, s_for, s_ret, ss_nil, th_next, th_ret, fin_ret, tg_name, tg_two, x_add, x_sub, x_mul, x_div, x_mod, x_pow, x_addT, x_addL, x_mulL, x_neg, x_not, x_lt, x_le, x_gt, x_ge, x_eq, x_ne, x_eqS, x_neS, tr_bool, mk_f, mk_t, sa_af, sa_at, sa_of, sa_ot, it_list, it_tup, ic_zip_tl, ic_range1, ic_range2, p_int, p_tup, p_list, blt1, blt2, blt3, blt4, blt5, blt6, blt7, me_append, me_extend, me_index, ns_nil, bind_nil, bind_cons, b_len, b_isinstance, b_list, b_tuple, b_sum, ti_ii, ti_ib, ti_tt, hide_false, back_false, wItem_lit, seqD_tup, seqD_list, lstD_list, String.reduceEq, ↓reduceIte, or_self, Option.some.injEq, reduceCtorEq, if_true, if_false, true_and, and_true, exists_eq_left', exists_eq_left, Int.reduceLE, Int.reduceLT, Int.reduceToNat, List.getElem?_cons_succ, List.getElem?_cons_zero, Bool.false_eq_true, noStars, isStarE, List.all, Bool.not_false, Bool.not_true, Bool.and_self, isCallE, isTupE, isSliceE, forall_const, implies_true, Bool.or_self, ite_true, ite_false, List.length_cons, List.length_nil, Nat.reduceLeDiff, Int.reducePow, Nat.zero_add, Nat.reduceAdd, Nat.reduceBEq, decide_true, decide_false, Int.reduceNeg, Int.cast_ofNat_Int, Int.reduceBEq, beq_self_eq_true, dI_len, two_lim, bo_oa, bo_aa, imp_self, false_implies, kd0, kd1, kd2, kd3, kd4, kd5, kd6, kd7, kd8, kd9, kd10], by simp only [gl_l, gl_c, gl_f, gl_g, own_l, own_c, nm_l, nm_c, nm_f, nm_g, upd_str, lk_str, call_n, call_s, e_none, e_bool, e_int, e_str, e_name, e_boolop, e_bin, e_un, e_cmp, e_call, e_meth0, e_meth1, e_slice, e_itemC, e_itemN, e_itemB, e_itemS, e_tup, e_list, e_comp0, e_comp1, es_nil, es_cons, o_none, o_some, b_one, b_two, c_one, c_two, t_not, t_bool, t_cmp, t_call, a_nil, a_cons, i_zip, i_range, i_enum, i_call, i_name, i_sub, i_list, s_expr, s_asgN, s_asgT, s_asgS, s_if, s_for, s_ret, ss_nil, th_next, th_ret, fin_ret, tg_name, tg_two, x_add, x_sub, x_mul, x_div, x_mod, x_pow, x_addT, x_addL, x_mulL, x_neg, x_not, x_lt, x_le, x_gt, x_ge, x_eq, x_ne, x_eqS, x_neS, tr_bool, mk_f, mk_t, sa_af, sa_at, sa_of, sa_ot, it_list, it_tup, ic_zip_tl, ic_range1, ic_range2, p_int, p_tup, p_list, blt1, blt2, blt3, blt4, blt5, blt6, blt7, me_append, me_extend, me_index, ns_nil, bind_nil, bind_cons, b_len, b_isinstance, b_list, b_tuple, b_sum, ti_ii, ti_ib, ti_tt, hide_false, back_false, wItem_lit, seqD_tup, seqD_list, lstD_list, String.reduceEq, ↓reduceIte, or_self, Option.some.injEq, reduceCtorEq, if_true, if_false, true_and, and_true, exists_eq_left', exists_eq_left, Int.reduceLE, Int.reduceLT, Int.reduceToNat, List.getElem?_cons_succ, List.getElem?_cons_zero, Bool.false_eq_true, noStars, isStarE, List.all, Bool.not_false, Bool.not_true, Bool.and_self, isCallE, isTupE, isSliceE, forall_const, implies_true, Bool.or_self, ite_true, ite_false, List.length_cons, List.length_nil, Nat.reduceLeDiff, Int.reducePow, Nat.zero_add, Nat.reduceAdd, Nat.reduceBEq, decide_true, decide_false, Int.reduceNeg, Int.cast_ofNat_Int, Int.reduceBEq, beq_self_eq_true, dI_len, two_lim, bo_oa, bo_aa, imp_self, false_implies, kd0, kd1, kd2, kd3, kd4, kd5, kd6, kd7, kd8, kd9, kd10], by simp only [gl_l, gl_c, gl_f, gl_g, own_l, own_c, nm_l, nm_c, nm_f, nm_g, upd_str, lk_str, call_n, call_s, e_none, e_bool, e_int, e_str, e_name, e_boolop, e_bin, e_un, e_cmp, e_call, e_meth0, e_meth1, e_slice, e_itemC, e_itemN, e_itemB, e_itemS, e_tup, e_list, e_comp0, e_comp1, es_nil, es_cons, o_none, o_some, b_one, b_two, c_one, c_two, t_not, t_bool, t_cmp, t_call, a_nil, a_cons, i_zip, i_range, i_enum, i_call, i_name, i_sub, i_list, s_expr, s_asgN, s_asgT, s_asgS, s_if, s_for, s_ret, ss_nil, th_next, th_ret, fin_ret, tg_name, tg_two, x_add, x_sub, x_mul, x_div, x_mod, x_pow, x_addT, x_addL, x_mulL, x_neg, x_not, x_lt, x_le, x_gt, x_ge, x_eq, x_ne, x_eqS, x_neS, tr_bool, mk_f, mk_t, sa_af, sa_at, sa_of, sa_ot, it_list, it_tup, ic_zip_tl, ic_range1, ic_range2, p_int, p_tup, p_list, blt1, blt2, blt3, blt4, blt5, blt6, blt7, me_append, me_extend, me_index, ns_nil, bind_nil, bind_cons, b_len, b_isinstance, b_list, b_tuple, b_sum, ti_ii, ti_ib, ti_tt, hide_false, back_false, wItem_lit, seqD_tup, seqD_list, lstD_list, String.reduceEq, ↓reduceIte, or_self, Option.some.injEq, reduceCtorEq, if_true, if_false, true_and, and_true, exists_eq_left', exists_eq_left, Int.reduceLE, Int.reduceLT, Int.reduceToNat, List.getElem?_cons_succ, List.getElem?_cons_zero, Bool.false_eq_true, noStars, isStarE, List.all, Bool.not_false, Bool.not_true, Bool.and_self, isCallE, isTupE, isSliceE, forall_const, implies_true, Bool.or_self, ite_true, ite_false, List.length_cons, List.length_nil, Nat.reduceLeDiff, Int.reducePow, Nat.zero_add, Nat.reduceAdd, Nat.reduceBEq, decide_true, decide_false, Int.reduceNeg, Int.cast_ofNat_Int, Int.reduceBEq, beq_self_eq_true, dI_len, two_lim, bo_oa, bo_aa, imp_self, false_implies, kd0, kd1, kd2, kd3, kd4, kd5, kd6, kd7, kd8, kd9, kd10]⟩ ?_ ?_
    · rintro j d m2 st2 K2 hd ⟨rfl, n1, n2, n3, n4⟩ hK2
      obtain ⟨hj, rfl⟩ := rangeN_get hd
      obtain ⟨x, hx, _⟩ := getI (ns := v) (i := j) hj
      obtain ⟨y, hy, hy'⟩ := getI (ns := ms) (i := j) (by omega)
      have hml := mix_len (a := a) hmv (Nat.le_of_lt hj)
      try simp only [gl_l, gl_c, gl_f, gl_g, own_l, own_c, nm_l, nm_c, nm_f, nm_g, upd_str, lk_str, call_n, call_s, e_none, e_bool, e_int, e_str, e_name, e_boolop, e_bin, e_un, e_cmp, e_call, e_meth0, e_meth1, e_slice, e_itemC, e_itemN, e_itemB, e_itemS, e_tup, e_list, e_comp0, e_comp1, es_nil, es_cons, o_none, o_some, b_one, b_two, c_one, c_two, t_not, t_bool, t_cmp, t_call, a_nil, a_cons, i_zip, i_range, i_enum, i_call, i_name, i_sub, i_list, s_expr, s_asgN, s_asgT, s_asgS, s_if, s_for, s_ret, ss_nil, th_next, th_ret, fin_ret, tg_name, tg_two, x_add, x_sub, x_mul, x_div, x_mod, x_pow, x_addT, x_addL, x_mulL, x_neg, x_not, x_lt, x_le, x_gt, x_ge, x_eq, x_ne, x_eqS, x_neS, tr_bool, mk_f, mk_t, sa_af, sa_at, sa_of, sa_ot, it_list, it_tup, ic_zip_tl, ic_range1, ic_range2, p_int, p_tup, p_list, blt1, blt2, blt3, blt4, blt5, blt6, blt7, me_append, me_extend, me_index, ns_nil, bind_nil, bind_cons, b_len, b_isinstance, b_list, b_tuple, b_sum, ti_ii, ti_ib, ti_tt, hide_false, back_false, wItem_lit, seqD_tup, seqD_list, lstD_list, String.reduceEq, ↓reduceIte, or_self, Option.some.injEq, reduceCtorEq, if_true, if_false, true_and, and_true, exists_eq_left', exists_eq_left, Int.reduceLE, Int.reduceLT, Int.reduceToNat, List.getElem?_cons_succ, List.getElem?_cons_zero, Bool.false_eq_true, noStars, isStarE, List.all, Bool.not_false, Bool.not_true, Bool.and_self, isCallE, isTupE, isSliceE, forall_const, implies_true, Bool.or_self, ite_true, ite_false, List.length_cons, List.length_nil, Nat.reduceLeDiff, Int.reducePow, Nat.zero_add, Nat.reduceAdd, Nat.reduceBEq, decide_true, decide_false, Int.reduceNeg, Int.cast_ofNat_Int, Int.reduceBEq, beq_self_eq_true, dI_len, two_lim, bo_oa, bo_aa, imp_self, false_implies, kd0, kd1, kd2, kd3, kd4, kd5, kd6, kd7, kd8, kd9, kd10]
      rw [wSs_cons]
      simp only [gl_l, gl_c, gl_f, gl_g, own_l, own_c, nm_l, nm_c, nm_f, nm_g, upd_str, lk_str, call_n, call_s, e_none, e_bool, e_int, e_str, e_name, e_boolop, e_bin, e_un, e_cmp, e_call, e_meth0, e_meth1, e_slice, e_itemC, e_itemN, e_itemB, e_itemS, e_tup, e_list, e_comp0, e_comp1, es_nil, es_cons, o_none, o_some, b_one, b_two, c_one, c_two, t_not, t_bool, t_cmp, t_call, a_nil, a_cons, i_zip, i_range, i_enum, i_call, i_name, i_sub, i_list, s_expr, s_asgN, s_asgT, s_asgS, s_if, s_for, s_ret, ss_nil, th_next, th_ret, fin_ret, tg_name, tg_two, x_add, x_sub, x_mul, x_div, x_mod, x_pow, x_addT, x_addL, x_mulL, x_neg, x_not, x_lt, x_le, x_gt, x_ge, x_eq, x_ne, x_eqS, x_neS, tr_bool, mk_f, mk_t, sa_af, sa_at, sa_of, sa_ot, it_list, it_tup, ic_zip_tl, ic_range1, ic_range2, p_int, p_tup, p_list, blt1, blt2, blt3, blt4, blt5, blt6, blt7, me_append, me_extend, me_index, ns_nil, bind_nil, bind_cons, b_len, b_isinstance, b_list, b_tuple, b_sum, ti_ii, ti_ib, ti_tt, hide_false, back_false, wItem_lit, seqD_tup, seqD_list, lstD_list, String.reduceEq, ↓reduceIte, or_self, Option.some.injEq, reduceCtorEq, if_true, if_false, true_and, and_true, exists_eq_left', exists_eq_left, Int.reduceLE, Int.reduceLT, Int.reduceToNat, List.getElem?_cons_succ, List.getElem?_cons_zero, Bool.false_eq_true, noStars, isStarE, List.all, Bool.not_false, Bool.not_true, Bool.and_self, isCallE, isTupE, isSliceE, forall_const, implies_true, Bool.or_self, ite_true, ite_false, List.length_cons, List.length_nil, Nat.reduceLeDiff, Int.reducePow, Nat.zero_add, Nat.reduceAdd, Nat.reduceBEq, decide_true, decide_false, Int.reduceNeg, Int.cast_ofNat_Int, Int.reduceBEq, beq_self_eq_true, dI_len, two_lim, bo_oa, bo_aa, imp_self, false_implies, kd0, kd1, kd2, kd3, kd4, kd5, kd6, kd7, kd8, kd9, kd10, isSliceE, n1, n2, n3, wItem_nat (i := j) (by omega), seqD_alloc, dI_get (mix_get (a := a) hmv hx), dI_get hy, wSetItem]
      refine ⟨mulOk (hb1 a (List.mem_of_getElem? ha)) ((hb2 _ hbmem).2 y hy'), st.hi, dI (mix v a ms j), rfl, alloc_cs _ _, by omega, by rw [dI_len]; omega, by rw [dI_len]; omega, ?_⟩
      refine hK2 _ _ ⟨?_, ?_, ?_, ?_, ?_⟩
      · rw [alloc_put, Int.toNat_natCast, dI_set, mix_set hmv hx hy]
      · simp only [gl_l, gl_c, gl_f, gl_g, own_l, own_c, nm_l, nm_c, nm_f, nm_g, upd_str, lk_str, call_n, call_s, e_none, e_bool, e_int, e_str, e_name, e_boolop, e_bin, e_un, e_cmp, e_call, e_meth0, e_meth1, e_slice, e_itemC, e_itemN, e_itemB, e_itemS, e_tup, e_list, e_comp0, e_comp1, es_nil, es_cons, o_none, o_some, b_one, b_two, c_one, c_two, t_not, t_bool, t_cmp, t_call, a_nil, a_cons, i_zip, i_range, i_enum, i_call, i_name, i_sub, i_list, s_expr, s_asgN, s_asgT, s_asgS, s_if, s_for, s_ret, ss_nil, th_next, th_ret, fin_ret, tg_name, tg_two, x_add, x_sub, x_mul, x_div, x_mod, x_pow, x_addT, x_addL, x_mulL, x_neg, x_not, x_lt, x_le, x_gt, x_ge, x_eq, x_ne, x_eqS, x_neS, tr_bool, mk_f, mk_t, sa_af, sa_at, sa_of, sa_ot, it_list, it_tup, ic_zip_tl, ic_range1, ic_range2, p_int, p_tup, p_list, blt1, blt2, blt3, blt4, blt5, blt6, blt7, me_append, me_extend, me_index, ns_nil, bind_nil, bind_cons, b_len, b_isinstance, b_list, b_tuple, b_sum, ti_ii, ti_ib, ti_tt, hide_false, back_false, wItem_lit, seqD_tup, seqD_list, lstD_list, String.reduceEq, ↓reduceIte, or_self, Option.some.injEq, reduceCtorEq, if_true, if_false, true_and, and_true, exists_eq_left', exists_eq_left, Int.reduceLE, Int.reduceLT, Int.reduceToNat, List.getElem?_cons_succ, List.getElem?_cons_zero, Bool.false_eq_true, noStars, isStarE, List.all, Bool.not_false, Bool.not_true, Bool.and_self, isCallE, isTupE, isSliceE, forall_const, implies_true, Bool.or_self, ite_true, ite_false, List.length_cons, List.length_nil, Nat.reduceLeDiff, Int.reducePow, Nat.zero_add, Nat.reduceAdd, Nat.reduceBEq, decide_true, decide_false, Int.reduceNeg, Int.cast_ofNat_Int, Int.reduceBEq, beq_self_eq_true, dI_len, two_lim, bo_oa, bo_aa, imp_self, false_implies, kd0, kd1, kd2, kd3, kd4, kd5, kd6, kd7, kd8, kd9, kd10, n1]
      · simp only [gl_l, gl_c, gl_f, gl_g, own_l, own_c, nm_l, nm_c, nm_f, nm_g, upd_str, lk_str, call_n, call_s, e_none, e_bool, e_int, e_str, e_name, e_boolop, e_bin, e_un, e_cmp, e_call, e_meth0, e_meth1, e_slice, e_itemC, e_itemN, e_itemB, e_itemS, e_tup, e_list, e_comp0, e_comp1, es_nil, es_cons, o_none, o_some, b_one, b_two, c_one, c_two, t_not, t_bool, t_cmp, t_call, a_nil, a_cons, i_zip, i_range, i_enum, i_call, i_name, i_sub, i_list, s_expr, s_asgN, s_asgT, s_asgS, s_if, s_for, s_ret, ss_nil, th_next, th_ret, fin_ret, tg_name, tg_two, x_add, x_sub, x_mul, x_div, x_mod, x_pow, x_addT, x_addL, x_mulL, x_neg, x_not, x_lt, x_le, x_gt, x_ge, x_eq, x_ne, x_eqS, x_neS, tr_bool, mk_f, mk_t, sa_af, sa_at, sa_of, sa_ot, it_list, it_tup, ic_zip_tl, ic_range1, ic_range2, p_int, p_tup, p_list, blt1, blt2, blt3, blt4, blt5, blt6, blt7, me_append, me_extend, me_index, ns_nil, bind_nil, bind_cons, b_len, b_isinstance, b_list, b_tuple, b_sum, ti_ii, ti_ib, ti_tt, hide_false, back_false, wItem_lit, seqD_tup, seqD_list, lstD_list, String.reduceEq, ↓reduceIte, or_self, Option.some.injEq, reduceCtorEq, if_true, if_false, true_and, and_true, exists_eq_left', exists_eq_left, Int.reduceLE, Int.reduceLT, Int.reduceToNat, List.getElem?_cons_succ, List.getElem?_cons_zero, Bool.false_eq_true, noStars, isStarE, List.all, Bool.not_false, Bool.not_true, Bool.and_self, isCallE, isTupE, isSliceE, forall_const, implies_true, Bool.or_self, ite_true, ite_false, List.length_cons, List.length_nil, Nat.reduceLeDiff, Int.reducePow, Nat.zero_add, Nat.reduceAdd, Nat.reduceBEq, decide_true, decide_false, Int.reduceNeg, Int.cast_ofNat_Int, Int.reduceBEq, beq_self_eq_true, dI_len, two_lim, bo_oa, bo_aa, imp_self, false_implies, kd0, kd1, kd2, kd3, kd4, kd5, kd6, kd7, kd8, kd9, kd10, n2]
      · simp only [gl_l, gl_c, gl_f, gl_g, own_l, own_c, nm_l, nm_c, nm_f, nm_g, upd_str, lk_str, call_n, call_s, e_none, e_bool, e_int, e_str, e_name, e_boolop, e_bin, e_un, e_cmp, e_call, e_meth0, e_meth1, e_slice, e_itemC, e_itemN, e_itemB, e_itemS, e_tup, e_list, e_comp0, e_comp1, es_nil, es_cons, o_none, o_some, b_one, b_two, c_one, c_two, t_not, t_bool, t_cmp, t_call, a_nil, a_cons, i_zip, i_range, i_enum, i_call, i_name, i_sub, i_list, s_expr, s_asgN, s_asgT, s_asgS, s_if, s_for, s_ret, ss_nil, th_next, th_ret, fin_ret, tg_name, tg_two, x_add, x_sub, x_mul, x_div, x_mod, x_pow, x_addT, x_addL, x_mulL, x_neg, x_not, x_lt, x_le, x_gt, x_ge, x_eq, x_ne, x_eqS, x_neS, tr_bool, mk_f, mk_t, sa_af, sa_at, sa_of, sa_ot, it_list, it_tup, ic_zip_tl, ic_range1, ic_range2, p_int, p_tup, p_list, blt1, blt2, blt3, blt4, blt5, blt6, blt7, me_append, me_extend, me_index, ns_nil, bind_nil, bind_cons, b_len, b_isinstance, b_list, b_tuple, b_sum, ti_ii, ti_ib, ti_tt, hide_false, back_false, wItem_lit, seqD_tup, seqD_list, lstD_list, String.reduceEq, ↓reduceIte, or_self, Option.some.injEq, reduceCtorEq, if_true, if_false, true_and, and_true, exists_eq_left', exists_eq_left, Int.reduceLE, Int.reduceLT, Int.reduceToNat, List.getElem?_cons_succ, List.getElem?_cons_zero, Bool.false_eq_true, noStars, isStarE, List.all, Bool.not_false, Bool.not_true, Bool.and_self, isCallE, isTupE, isSliceE, forall_const, implies_true, Bool.or_self, ite_true, ite_false, List.length_cons, List.length_nil, Nat.reduceLeDiff, Int.reducePow, Nat.zero_add, Nat.reduceAdd, Nat.reduceBEq, decide_true, decide_false, Int.reduceNeg, Int.cast_ofNat_Int, Int.reduceBEq, beq_self_eq_true, dI_len, two_lim, bo_oa, bo_aa, imp_self, false_implies, kd0, kd1, kd2, kd3, kd4, kd5, kd6, kd7, kd8, kd9, kd10, n3]
      · simp only [gl_l, gl_c, gl_f, gl_g, own_l, own_c, nm_l, nm_c, nm_f, nm_g, upd_str, lk_str, call_n, call_s, e_none, e_bool, e_int, e_str, e_name, e_boolop, e_bin, e_un, e_cmp, e_call, e_meth0, e_meth1, e_slice, e_itemC, e_itemN, e_itemB, e_itemS, e_tup, e_list, e_comp0, e_comp1, es_nil, es_cons, o_none, o_some, b_one, b_two, c_one, c_two, t_not, t_bool, t_cmp, t_call, a_nil, a_cons, i_zip, i_range, i_enum, i_call, i_name, i_sub, i_list, s_expr, s_asgN, s_asgT, s_asgS, s_if, s_for, s_ret, ss_nil, th_next, th_ret, fin_ret, tg_name, tg_two, x_add, x_sub, x_mul, x_div, x_mod, x_pow, x_addT, x_addL, x_mulL, x_neg, x_not, x_lt, x_le, x_gt, x_ge, x_eq, x_ne, x_eqS, x_neS, tr_bool, mk_f, mk_t, sa_af, sa_at, sa_of, sa_ot, it_list, it_tup, ic_zip_tl, ic_range1, ic_range2, p_int, p_tup, p_list, blt1, blt2, blt3, blt4, blt5, blt6, blt7, me_append, me_extend, me_index, ns_nil, bind_nil, bind_cons, b_len, b_isinstance, b_list, b_tuple, b_sum, ti_ii, ti_ib, ti_tt, hide_false, back_false, wItem_lit, seqD_tup, seqD_list, lstD_list, String.reduceEq, ↓reduceIte, or_self, Option.some.injEq, reduceCtorEq, if_true, if_false, true_and, and_true, exists_eq_left', exists_eq_left, Int.reduceLE, Int.reduceLT, Int.reduceToNat, List.getElem?_cons_succ, List.getElem?_cons_zero, Bool.false_eq_true, noStars, isStarE, List.all, Bool.not_false, Bool.not_true, Bool.and_self, isCallE, isTupE, isSliceE, forall_const, implies_true, Bool.or_self, ite_true, ite_false, List.length_cons, List.length_nil, Nat.reduceLeDiff, Int.reducePow, Nat.zero_add, Nat.reduceAdd, Nat.reduceBEq, decide_true, decide_false, Int.reduceNeg, Int.cast_ofNat_Int, Int.reduceBEq, beq_self_eq_true, dI_len, two_lim, bo_oa, bo_aa, imp_self, false_implies, kd0, kd1, kd2, kd3, kd4, kd5, kd6, kd7, kd8, kd9, kd10, n4]
    · rintro m2 st2 ⟨rfl, n1, n2, n3, n4⟩
      rw [List.nil_append, rangeN_len, mix_all hmv]
      show wSs _ _ _ _ _ _ _ _
      refine hK _ _ ⟨?_, n1, ?_⟩
      · have : (ns.zip bx).take (i + 1) = (ns.zip bx).take i ++ [(a, (ms, e))] := by
          have hz : (ns.zip bx)[i]? = some (a, (ms, e)) := List.getElem?_zip_eq_some.mpr ⟨ha, hb⟩
          rw [List.take_add_one, hz]; rfl
        rw [this]
        unfold putV at hv ⊢
        rw [List.foldl_append, hv]; rfl
      · rw [n4, dot_take ns (bx.map (·.2)) i a e ha (by simp [hb])]
        simp only [Int.add_assoc]
  · rintro m' st' ⟨rfl, m1, hm⟩
    have e1 : ([] ++ zipL (dI ns) (bx.map boxD)).length = min ns.length bx.length := by simp [zipL, dI]
    have e2 : (ns.zip bx).take (min ns.length bx.length) = ns.zip bx := List.take_of_length_le (by simp)
    rw [e1] at hm ⊢
    rw [e2]
    have e3 := dot_min ns (bx.map (·.2))
    rw [List.length_map] at e3
    rw [e3] at hm
    show wSs _ _ _ _ _ _ (st.alloc (.list (dI (putV w (ns.zip bx))))) _
    have hpl : (putV w (ns.zip bx)).length = w := putV_len _ _ (by simp) fun p hp => hw p.2 (List.of_mem_zip hp).2
    rw [wSs_cons]
    simp only [gl_l, gl_c, gl_f, gl_g, own_l, own_c, nm_l, nm_c, nm_f, nm_g, upd_str, lk_str, call_n, call_s, e_none, e_bool, e_int, e_str, e_name, e_boolop, e_bin, e_un, e_cmp, e_call, e_meth0, e_meth1, e_slice, e_itemC, e_itemN, e_itemB, e_itemS, e_tup, e_list, e_comp0, e_comp1, es_nil, es_cons, o_none, o_some, b_one, b_two, c_one, c_two, t_not, t_bool, t_cmp, t_call, a_nil, a_cons, i_zip, i_range, i_enum, i_call, i_name, i_sub, i_list, s_expr, s_asgN, s_asgT, s_asgS, s_if, s_for, s_ret, ss_nil, th_next, th_ret, fin_ret, tg_name, tg_two, x_add, x_sub, x_mul, x_div, x_mod, x_pow, x_addT, x_addL, x_mulL, x_neg, x_not, x_lt, x_le, x_gt, x_ge, x_eq, x_ne, x_eqS, x_neS, tr_bool, mk_f, mk_t, sa_af, sa_at, sa_of, sa_ot, it_list, it_tup, ic_zip_tl, ic_range1, ic_range2, p_int, p_tup, p_list, blt1, blt2, blt3, blt4, blt5, blt6, blt7, me_append, me_extend, me_index, ns_nil, bind_nil, bind_cons, b_len, b_isinstance, b_list, b_tuple, b_sum, ti_ii, ti_ib, ti_tt, hide_false, back_false, wItem_lit, seqD_tup, seqD_list, lstD_list, String.reduceEq, ↓reduceIte, or_self, Option.some.injEq, reduceCtorEq, if_true, if_false, true_and, and_true, exists_eq_left', exists_eq_left, Int.reduceLE, Int.reduceLT, Int.reduceToNat, List.getElem?_cons_succ, List.getElem?_cons_zero, Bool.false_eq_true, noStars, isStarE, List.all, Bool.not_false, Bool.not_true, Bool.and_self, isCallE, isTupE, isSliceE, forall_const, implies_true, Bool.or_self, ite_true, ite_false, List.length_cons, List.length_nil, Nat.reduceLeDiff, Int.reducePow, Nat.zero_add, Nat.reduceAdd, Nat.reduceBEq, decide_true, decide_false, Int.reduceNeg, Int.cast_ofNat_Int, Int.reduceBEq, beq_self_eq_true, dI_len, two_lim, bo_oa, bo_aa, imp_self, false_implies, kd0, kd1, kd2, kd3, kd4, kd5, kd6, kd7, kd8, kd9, kd10, h4, m1, hm, lstD_alloc]
    refine ⟨by omega, ?_⟩
    refine fin_cut (d' := .tup [.tup (dI (putV w (ns.zip bx))), .int (c + dot ns (bx.map (·.2)))]) (by simp [St.alloc]) ?_ ?_
    · simp only [frz, undrAll, D.undr, undr_dI, Bool.and_true, if_true]
    · rw [alloc_cut wf]; exact hQ
end Mine
end

section
set_option autoImplicit false
set_option linter.unusedVariables false
namespace Mine
open PySem

theorem m_append {n : Nat} {x : D} {st : St} {Q : D → St → Prop} : wMeth "append" (.loc n) [x] st Q = ∃ xs, st.cs n = some (.list xs) ∧ xs.length ≤ lim ∧ Q .none (st.put n (.list (xs ++ [x]))) := by
  unfold wMeth
  rw [if_pos rfl]
  refine propext ⟨fun ⟨n', x', xs, e1, e2, h⟩ => ?_, fun ⟨xs, h⟩ => ⟨n, x, xs, rfl, rfl, h⟩⟩
  cases e1; cases e2; exact ⟨xs, h⟩

theorem ints_dI (is : List Int) : intsD (dI is) = some is := by
  induction is with
  | nil => rfl
  | cons i is ih => simp only [dI, List.map_cons, intsD]; rw [show List.map D.int is = dI is from rfl, ih]; rfl

theorem dot_le {A B : Nat} : ∀ (ns hs : List Int), (∀ a ∈ ns, a.natAbs ≤ A) → (∀ a ∈ hs, a.natAbs ≤ B) → (dot ns hs).natAbs ≤ ns.length * (A * B)
  | [], _, _, _ => by simp [dot]
  | _ :: _, [], _, _ => by simp [dot]
  | n :: ns, h :: hs, hn, hh => by
    have ih := dot_le ns hs (fun a q => hn a (.tail _ q)) fun a q => hh a (.tail _ q)
    have h1 : (n * h).natAbs ≤ A * B := by rw [Int.natAbs_mul]; exact Nat.mul_le_mul (hn n (.head _)) (hh h (.head _))
    have h2 : (n * h + dot ns hs).natAbs ≤ (n * h).natAbs + (dot ns hs).natAbs := Int.natAbs_add_le _ _
    rw [dot, List.length_cons, Nat.add_mul, Nat.one_mul]
    omega

theorem dot_addv (a : Int) : ∀ (v ms fl : List Int), ms.length = v.length → dot (addv v a ms) fl = dot v fl + a * dot ms fl
  | [], [], _, _ => by simp [addv, dot]
  | x :: v, y :: ms, [], _ => by simp [addv, dot]
  | x :: v, y :: ms, f :: fl, h => by
    have ih := dot_addv a v ms fl (by simpa using h)
    simp only [addv] at ih
    simp only [addv, List.zipWith_cons_cons, dot, ih, Int.add_mul, Int.mul_add, Int.mul_assoc]
    omega
  | [], _ :: _, _, h => by simp at h
  | _ :: _, [], _, h => by simp at h
theorem dot_zero (w : Nat) (fl : List Int) : dot (List.replicate w 0) fl = 0 := by
  induction w generalizing fl with
  | zero => simp [dot]
  | succ w ih => cases fl with
    | nil => simp [List.replicate_succ, dot]
    | cons f fl => simp [List.replicate_succ, dot, ih]
theorem dot_put {w : Nat} (fl : List Int) : ∀ (l : List (Int × (List Int × Int))) (v : List Int), v.length = w → (∀ p ∈ l, p.2.1.length = w) →
    dot (l.foldl (fun v p => addv v p.1 p.2.1) v) fl = dot v fl + (l.map fun p => p.1 * dot p.2.1 fl).sum
  | [], v, _, _ => by simp
  | p :: l, v, hv, hp => by
    have e : p.2.1.length = v.length := by rw [hv]; exact hp p (.head _)
    rw [List.foldl_cons, dot_put fl l (addv v p.1 p.2.1) (by rw [addv_len e]; exact hv) (fun q hq => hp q (.tail _ hq)), dot_addv _ _ _ _ e]
    simp only [List.map_cons, List.sum_cons]
    omega
theorem dot_map (g : List Int × Int → Int) : ∀ (ns : List Int) (bx : List (List Int × Int)), dot ns (bx.map g) = ((ns.zip bx).map fun p => p.1 * g p.2).sum
  | [], _ => by simp [dot]
  | _ :: _, [] => by simp [dot]
  | n :: ns, b :: bx => by simp only [List.map_cons, dot, List.zip_cons_cons, List.sum_cons, dot_map g ns bx]
theorem sum_add {α : Type} (f g : α → Int) (l : List α) : (l.map fun p => f p + g p).sum = (l.map f).sum + (l.map g).sum := by
  induction l with
  | nil => rfl
  | cons a l ih => simp only [List.map_cons, List.sum_cons, ih]; omega

/-- the law of put_in -/
theorem put_law (ns : List Int) (c : Int) (bx : List (List Int × Int)) (fl : List Int) (w : Nat) (hw : ∀ b ∈ bx, b.1.length = w) :
    c + dot ns (bx.map (·.2)) + dot (putV w (ns.zip bx)) fl = c + dot ns (bx.map fun b => b.2 + dot b.1 fl) := by
  unfold putV
  rw [dot_put fl _ _ (by simp) (fun p hp => hw p.2 (List.of_mem_zip hp).2), dot_zero, dot_map, dot_map]
  have : ((ns.zip bx).map fun p => p.1 * (p.2.2 + dot p.2.1 fl)).sum = ((ns.zip bx).map fun p => p.1 * p.2.2).sum + ((ns.zip bx).map fun p => p.1 * dot p.2.1 fl).sum := by
    rw [← sum_add]; congr 1; apply List.map_congr_left; intro p _; rw [Int.mul_add]
  rw [this]; omega

theorem addv_get {v ms : List Int} {a : Int} {j : Nat} {x y : Int} (hx : v[j]? = some x) (hy : ms[j]? = some y) : (addv v a ms)[j]? = some (x + a * y) := by simp [addv, List.getElem?_zipWith, hx, hy]
theorem put_get {w : Nat} {j : Nat} (hj : j < w) : ∀ (l : List (Int × (List Int × Int))) (v : List Int) (x : Int), v.length = w → v[j]? = some x → (∀ p ∈ l, p.2.1.length = w) →
    (l.foldl (fun v p => addv v p.1 p.2.1) v)[j]? = some (x + (l.map fun p => p.1 * p.2.1.getD j 0).sum)
  | [], v, x, _, hx, _ => by simp [hx]
  | p :: l, v, x, hv, hx, hp => by
    have e : p.2.1.length = v.length := by rw [hv]; exact hp p (.head _)
    have hy : p.2.1[j]? = some (p.2.1.getD j 0) := by
      have : j < p.2.1.length := by rw [e, hv]; exact hj
      simp [this]
    rw [List.foldl_cons, put_get hj l (addv v p.1 p.2.1) _ (by rw [addv_len e]; exact hv) (addv_get hx hy) (fun q hq => hp q (.tail _ hq))]
    simp only [List.map_cons, List.sum_cons, Int.add_assoc]
theorem zip_range {β : Type} (ns : List Int) (bx : List (List Int × Int)) (M : Nat) (h1 : ns.length = M) (h2 : bx.length = M) (f : Int → List Int × Int → β) :
    (List.range M).map (fun k => f (ns.getD k 0) (bx.getD k ([], 0))) = (ns.zip bx).map fun p => f p.1 p.2 := by
  apply List.ext_getElem?
  intro i
  by_cases hi : i < M
  · have q1 : i < ns.length := by omega
    have q2 : i < bx.length := by omega
    have hz : (ns.zip bx)[i]? = some (ns[i], bx[i]) := List.getElem?_zip_eq_some.mpr ⟨List.getElem?_eq_getElem q1, List.getElem?_eq_getElem q2⟩
    rw [List.getElem?_map, List.getElem?_map, hz]
    simp [hi, q1, q2]
  · rw [List.getElem?_eq_none (by simp; omega), List.getElem?_eq_none (by simp; omega)]
/-- put_in's numbers, place by place -/
theorem put_places (ns : List Int) (bx : List (List Int × Int)) (M w : Nat) (h1 : ns.length = M) (h2 : bx.length = M) (hw : ∀ b ∈ bx, b.1.length = w) :
    (List.range w).map (fun j => ((List.range M).map fun k => ns.getD k 0 * (bx.getD k ([], 0)).1.getD j 0).sum) = putV w (ns.zip bx) := by
  apply List.ext_getElem?
  intro j
  have hl : (putV w (ns.zip bx)).length = w := putV_len _ _ (by simp) fun p hp => hw p.2 (List.of_mem_zip hp).2
  by_cases hj : j < w
  · unfold putV
    rw [put_get hj (ns.zip bx) _ 0 (by simp) (by simp [hj]) (fun p hp => hw p.2 (List.of_mem_zip hp).2), ← zip_range ns bx M h1 h2 fun a b => a * b.1.getD j 0]
    simp [hj]
  · rw [List.getElem?_eq_none (by rw [List.length_map, List.length_range]; omega), List.getElem?_eq_none (by rw [hl]; omega)]
theorem put_last (ns : List Int) (bx : List (List Int × Int)) (M : Nat) (h1 : ns.length = M) (h2 : bx.length = M) :
    ((List.range M).map fun k => ns.getD k 0 * (bx.getD k ([], 0)).2).sum = dot ns (bx.map (·.2)) := by
  rw [dot_map, zip_range ns bx M h1 h2 fun a b => a * b.2]
theorem put_big {w A : Nat} (l : List (Int × (List Int × Int))) (hw : ∀ p ∈ l, p.2.1.length = w) (hb : ∀ p ∈ l, p.1.natAbs ≤ A ∧ ∀ a ∈ p.2.1, a.natAbs ≤ A) :
    ∀ a ∈ putV w l, a.natAbs ≤ l.length * (A * A) := by
  intro a ha
  obtain ⟨j, hj, rfl⟩ := List.getElem_of_mem ha
  have hl : (putV w l).length = w := putV_len _ _ (by simp) hw
  have hj' : j < w := by omega
  have := put_get hj' l (List.replicate w 0) 0 (by simp) (by simp [hj']) hw
  have e : (putV w l)[j] = 0 + (l.map fun p => p.1 * p.2.1.getD j 0).sum := by
    unfold putV at hj ⊢
    rw [List.getElem?_eq_getElem hj] at this
    exact Option.some.inj this
  rw [e, Int.zero_add]
  clear e this ha hj
  induction l with
  | nil => simp
  | cons p l ih =>
    have h0 := hb p (.head _)
    have hin : p.2.1.getD j 0 ∈ p.2.1 := by
      have : j < p.2.1.length := by rw [hw p (.head _)]; exact hj'
      simp [this]
    have h1 : (p.1 * p.2.1.getD j 0).natAbs ≤ A * A := by rw [Int.natAbs_mul]; exact Nat.mul_le_mul h0.1 (h0.2 _ hin)
    have h2 := ih (fun q hq => hw q (.tail _ hq)) (fun q hq => hb q (.tail _ hq)) (putV_len _ _ (by simp) fun q hq => hw q (.tail _ hq))
    have h3 := Int.natAbs_add_le (p.1 * p.2.1.getD j 0) (l.map fun p => p.1 * p.2.1.getD j 0).sum
    simp only [List.map_cons, List.sum_cons, List.length_cons, Nat.add_mul, Nat.one_mul]
    omega

/- data -/
theorem pys_dI (ns : List Int) : pys (dI ns) = some (ns.map .int) := by
  induction ns with
  | nil => rfl
  | cons n ns ih => simp only [dI, List.map_cons, pys, D.py]; rw [show List.map D.int ns = dI ns from rfl, ih]
noncomputable def boxP (b : List Int × Int) : PyData := .tuple [.tuple (b.1.map .int), .int b.2]
theorem py_box (b : List Int × Int) : (boxD b).py = some (boxP b) := by simp only [boxD, D.py, pys, pys_dI, Option.map_some, boxP]
theorem pys_box (bx : List (List Int × Int)) : pys (bx.map boxD) = some (bx.map boxP) := by
  induction bx with
  | nil => rfl
  | cons b bx ih => simp only [List.map_cons, pys, py_box, ih]
theorem lay_ints (ns : List Int) : PyData.canLayAll0 (ns.map .int) = true := by
  induction ns with
  | nil => rfl
  | cons n ns ih => simp only [List.map_cons, PyData.canLayAll0, PyData.canLay0, ih, Bool.and_self]
theorem lay_box (b : List Int × Int) : (boxP b).canLay0 = true := by simp [boxP, PyData.canLay0, PyData.canLayAll0, lay_ints]
theorem lay_boxes (bx : List (List Int × Int)) : PyData.canLayAll0 (bx.map boxP) = true := by
  induction bx with
  | nil => rfl
  | cons b bx ih => simp only [List.map_cons, PyData.canLayAll0, lay_box, ih, Bool.and_self]
theorem deep_ints (ns : List Int) : PyData.depthAll (ns.map .int) = 0 := by
  induction ns with
  | nil => rfl
  | cons n ns ih => simp only [List.map_cons, PyData.depthAll, PyData.depth, ih]; rfl
theorem deep_box (b : List Int × Int) : (boxP b).depth = 2 := by simp [boxP, PyData.depth, PyData.depthAll, deep_ints]
theorem deep_boxes (bx : List (List Int × Int)) : PyData.depthAll (bx.map boxP) ≤ 2 := by
  induction bx with
  | nil => exact Nat.zero_le _
  | cons b bx ih => simp only [List.map_cons, PyData.depthAll, deep_box]; omega
theorem mapM_box (st : St) (k : Nat) (bx : List (List Int × Int)) : (bx.map boxD).mapM (pyD st (k + 1)) = some (bx.map boxP) := by
  induction bx with
  | nil => rfl
  | cons b bx ih =>
    rw [List.map_cons, List.mapM_cons, ih]
    have : pyD st (k + 1) (boxD b) = some (boxP b) := by
      have h := py_box b
      unfold boxD at h ⊢
      simp only [pyD, h]
    rw [this]; rfl
theorem pyD_box (st : St) (l : List Int) (e : Int) : pyD st 3 (.tup [.tup (dI l), .int e]) = some (boxP (l, e)) := by
  have h := py_box (l, e)
  simp only [boxD] at h
  simp only [pyD, h]
theorem deep_ok {x : PyData} (h : x.depth ≤ 1000) : deepOk x x := by unfold deepOk; omega

mutual
theorem undr_up {hi : Nat} : ∀ (d : D), d.undr hi = true → d.undr (hi + 1) = true
  | .none, _ => rfl
  | .bool _, _ => rfl
  | .int _, _ => rfl
  | .str _, _ => rfl
  | .val _, _ => rfl
  | .loc n, h => by simp only [D.undr, decide_eq_true_eq] at h ⊢; omega
  | .tup ds, h => undrAll_up ds h
  | .list ds, h => undrAll_up ds h
theorem undrAll_up {hi : Nat} : ∀ (ds : List D), undrAll hi ds = true → undrAll (hi + 1) ds = true
  | [], _ => rfl
  | d :: ds, h => by
    have h' := Bool.and_eq_true_iff.mp h
    exact Bool.and_eq_true_iff.mpr ⟨undr_up d h'.1, undrAll_up ds h'.2⟩
end
theorem wf_alloc {st : St} (w : WfSt st) {ds : List D} (h : undrAll (st.hi + 1) ds = true) : WfSt (st.alloc (.list ds)) where
  top := fun n hn => by
    have hn' : st.hi + 1 ≤ n := hn
    show (if n = st.hi then some _ else st.cs n) = none
    rw [if_neg (by omega)]; exact w.top n (by omega)
  und := fun n c e => by
    have e' : (if n = st.hi then some (Cell.list ds) else st.cs n) = some c := e
    split at e'
    · cases e'; exact h
    · have := w.und n c e'
      cases c with
      | list l => exact undrAll_up l this
      | dict l => exact undrAll_up _ this
theorem undr_boxes (hi : Nat) (bx : List (List Int × Int)) : undrAll hi (bx.map boxD) = true := by
  induction bx with
  | nil => rfl
  | cons b bx ih => simp only [List.map_cons, undrAll, boxD, D.undr, undr_dI, Bool.and_true, Bool.true_and]; exact ih
theorem box_get {bx : List (List Int × Int)} {k : Nat} (h : k < bx.length) : (bx.map boxD)[k]? = some (boxD (bx.getD k ([], 0))) ∧ bx.getD k ([], 0) ∈ bx := by simp [h]
theorem int_get {ns : List Int} {k : Nat} (h : k < ns.length) : (dI ns)[k]? = some (.int (ns.getD k 0)) ∧ ns.getD k 0 ∈ ns := by simp [dI, h]
end Mine
end

section
set_option autoImplicit false
set_option linter.unusedSimpArgs false
set_option linter.unusedVariables false
set_option maxRecDepth 100000
namespace Mine
open PySem

structure Fns (Γ : Ctx) : Prop where
  a : ∃ S, Γ.fn "_law_at" = some S ∧ ∀ (sc : List Int) (k : Int) (st : St) (Q : D → St → Prop), sc.length ≤ 1000 → Q (.int (atV sc k)) st → S [.list (dI sc), .int k] st Q
  n : ∃ S, Γ.fn "_law_number" = some S ∧ ∀ (cell most : Int) (st : St) (Q : D → St → Prop), (most = 0 ∨ (0 < most ∧ most ≤ 99)) → (0 ≤ cell ∧ cell < 1000003) → Q (.int (numV cell most)) st → S [.int cell, .int most] st Q
  v : ∃ S, Γ.fn "value" = some S ∧ ∀ (ns hs : List Int) (c : Int) (fill : D) (st : St) (Q : D → St → Prop), seqD st fill = some (dI hs) → ns.length ≤ 1000 → hs.length ≤ 1000 → (∀ a ∈ ns, Big a) → (∀ a ∈ hs, Big a) → Q (.int (c + dot ns hs)) st → S [.tup [.tup (dI ns), .int c], fill] st Q
  l : ∃ S, Γ.fn "_law_value" = some S ∧ ∀ (ns hs : List Int) (c : Int) (fill : D) (st : St) (Q : D → St → Prop), seqD st fill = some (dI hs) → hs.length ≤ ns.length → hs.length ≤ 1000 → (∀ a ∈ ns, Big a) → (∀ a ∈ hs, Big a) → Q (.int (c + dot ns hs)) st → S [.tup [.tup (dI ns), .int c], fill] st Q
  o : ∃ S, Γ.fn "opposite" = some S ∧ ∀ (ns : List Int) (c : Int) (st : St) (Q : D → St → Prop), ns.length ≤ 1000 → Q (.tup [.tup (dI (ns.map (0 - ·))), .int (1 - c)]) st → S [.tup [.tup (dI ns), .int c]] st Q
  w : ∃ S, Γ.fn "_law_whole" = some S ∧ ∀ (i : Int) (st : St) (Q : D → St → Prop), Q (.bool true) st → S [.int i] st Q
  s : ∃ S, Γ.fn "_law_is_sum" = some S ∧ ∀ (ns : List Int) (c : Int) (st : St) (Q : D → St → Prop), ns.length ≤ 1000 → Q (.bool true) st → S [.tup [.tup (dI ns), .int c], .int ns.length] st Q
  p : ∃ S, Γ.fn "put_in" = some S ∧ ∀ (ns : List Int) (c : Int) (bx : List (List Int × Int)) (w : Nat) (st : St) (Q : D → St → Prop), WfSt st → ns.length ≤ 1000 → bx.length ≤ 1000 → 0 < bx.length → (∀ b ∈ bx, b.1.length = w) → w ≤ 1000 → (∀ a ∈ ns, Big a) → (∀ b ∈ bx, Big b.2 ∧ ∀ a ∈ b.1, Big a) →
      Q (.tup [.tup (dI (putV w (ns.zip bx))), .int (c + dot ns (bx.map (·.2)))]) st → S [.tup [.tup (dI ns), .int c], .list (bx.map boxD)] st Q
  b1 : Γ.fn "range" = none
  b2 : Γ.fn "tuple" = none
  b3 : Γ.fn "list" = none
  b4 : Γ.fn "sum" = none

noncomputable def mtL (x : Str) : Bool := x == "_law_boxes"

theorem mtL_str (a : String) : mtL (Str.ofString a) = decide (a = "_law_boxes") := ofString_beq a _
theorem rangeN_map (n : Nat) : rangeL 0 (n : Int) = (List.range n).map fun i : Nat => D.int (i : Int) := by simp [rangeL]

set_option maxHeartbeats 4000000 in
theorem law_ok {Γ : Ctx} (F : Fns Γ) (sc : List Int) (st : St) (Q : D → St → Prop) (wf : WfSt st) (hsc : sc.length ≤ 1000) (hQ : Q (.bool true) st) :
    wFn Γ mtL 60 (kdOf PySem.Challenge.pw_uf010033_01 10) ["_law_script"] (bodyOf PySem.Challenge.pw_uf010033_01 10) [.list (dI sc)] st Q := by
  obtain ⟨sa, ha, ha'⟩ := F.a
  obtain ⟨sn, hn, hn'⟩ := F.n
  obtain ⟨sv, hv, hv'⟩ := F.v
  obtain ⟨sl, hl, hl'⟩ := F.l
  obtain ⟨so, ho, ho'⟩ := F.o
  obtain ⟨sw, hw, hw'⟩ := F.w
  obtain ⟨ss, hs, hs'⟩ := F.s
  obtain ⟨sp, hp, hp'⟩ := F.p
  have hlim : lim = 1000000 := rfl
  refine fn_intro rfl ?_
  generalize hkd : kdOf PySem.Challenge.pw_uf010033_01 10 = kd
  obtain ⟨kd0, kd1, kd2, kd3, kd4, kd5, kd6, kd7, kd8, kd9, kd10, kd11, kd12, kd13, kd14, kd15, kd16, kd17, kd18, kd19, kd20, kd21, kd22, kd23, kd24, kd25, kd26, kd27⟩ : kd "_law_others" = some .local ∧ kd "_law_numbers" = some .local ∧ kd "_law_handed" = some .local ∧ kd "_law_held" = some .local ∧ kd "_law_due" = some .local ∧ kd "_law_turned" = some .local ∧ kd "_law_found" = some .local ∧ kd "_law_more" = some .local ∧ kd "_law_script" = some .cell ∧ kd "_law_cell" = some .cell ∧ kd "_law_many" = some .cell ∧ kd "_law_most" = some .cell ∧ kd "_law_k" = some .cell ∧ kd "_law_one" = some .cell ∧ kd "_law_boxes" = some .cell ∧ kd "_law_filling" = some .cell ∧ kd "_law_at" = some .globalImplicit ∧ kd "range" = some .globalImplicit ∧ kd "tuple" = some .globalImplicit ∧ kd "_law_number" = some .globalImplicit ∧ kd "list" = some .globalImplicit ∧ kd "_law_value" = some .globalImplicit ∧ kd "_law_whole" = some .globalImplicit ∧ kd "value" = some .globalImplicit ∧ kd "opposite" = some .globalImplicit ∧ kd "_law_is_sum" = some .globalImplicit ∧ kd "put_in" = some .globalImplicit ∧ kd "sum" = some .globalImplicit := by
    subst hkd; exact ⟨rfl, rfl, rfl, rfl, rfl, rfl, rfl, rfl, rfl, rfl, rfl, rfl, rfl, rfl, rfl, rfl, rfl, rfl, rfl, rfl, rfl, rfl, rfl, rfl, rfl, rfl, rfl, rfl⟩
  clear hkd
  dsimp only [bodyOf, PySem.Challenge.pw_uf010033_01, List.getElem?_cons_succ, List.getElem?_cons_zero]
  rw [wSs_cons]
  simp only [gl_l, gl_c, gl_f, gl_g, own_l, own_c, nm_l, nm_c, nm_f, nm_g, upd_str, lk_str, call_n, call_s, e_none, e_bool, e_int, e_str, e_name, e_boolop, e_bin, e_un, e_cmp, e_call, e_meth0, e_meth1, e_slice, e_itemC, e_itemN, e_itemB, e_itemS, e_tup, e_list, e_comp0, e_comp1, es_nil, es_cons, o_none, o_some, b_one, b_two, c_one, c_two, t_not, t_bool, t_cmp, t_call, a_nil, a_cons, i_zip, i_range, i_enum, i_call, i_name, i_sub, i_list, s_expr, s_asgN, s_asgT, s_asgS, s_if, s_for, s_ret, ss_nil, th_next, th_ret, fin_ret, tg_name, tg_two, x_add, x_sub, x_mul, x_div, x_mod, x_pow, x_addT, x_addL, x_mulL, x_neg, x_not, x_lt, x_le, x_gt, x_ge, x_eq, x_ne, x_eqS, x_neS, tr_bool, mk_f, mk_t, sa_af, sa_at, sa_of, sa_ot, it_list, it_tup, ic_zip_tl, ic_range1, ic_range2, p_int, p_tup, p_list, blt1, blt2, blt3, blt4, blt5, blt6, blt7, me_append, me_extend, me_index, ns_nil, bind_nil, bind_cons, b_len, b_isinstance, b_list, b_tuple, b_sum, ti_ii, ti_ib, ti_tt, hide_false, back_false, wItem_lit, seqD_tup, seqD_list, lstD_list, String.reduceEq, ↓reduceIte, or_self, Option.some.injEq, reduceCtorEq, if_true, if_false, true_and, and_true, exists_eq_left', exists_eq_left, Int.reduceLE, Int.reduceLT, Int.reduceToNat, List.getElem?_cons_succ, List.getElem?_cons_zero, Bool.false_eq_true, noStars, isStarE, List.all, Bool.not_false, Bool.not_true, Bool.and_self, isCallE, isTupE, isSliceE, forall_const, implies_true, Bool.or_self, ite_true, ite_false, List.length_cons, List.length_nil, Nat.reduceLeDiff, Int.reducePow, Nat.zero_add, Nat.reduceAdd, Nat.reduceBEq, decide_true, decide_false, Int.reduceNeg, Int.cast_ofNat_Int, Int.reduceBEq, beq_self_eq_true, dI_len, two_lim, bo_oa, bo_aa, imp_self, false_implies, kd0, kd1, kd2, kd3, kd4, kd5, kd6, kd7, kd8, kd9, kd10, kd11, kd12, kd13, kd14, kd15, kd16, kd17, kd18, kd19, kd20, kd21, kd22, kd23, kd24, kd25, kd26, kd27, mtL_str, lim, Int.reduceAdd, Int.reduceMul, ha]
  refine ha' _ _ _ _ hsc ?_
  obtain ⟨c0, c1⟩ := at_pos sc 0
  generalize hcell : atV sc 0 = cell at c0 c1 ⊢
  obtain ⟨M, hM⟩ : ∃ M : Nat, 1 + cell % 3 = (M : Int) := ⟨(1 + cell % 3).toNat, by omega⟩
  obtain ⟨O, hO⟩ : ∃ O : Nat, 1 + cell / 3 % 3 = (O : Int) := ⟨(1 + cell / 3 % 3).toNat, by omega⟩
  have M1 : 1 ≤ M ∧ M ≤ 3 := by omega
  have O1 : 1 ≤ O ∧ O ≤ 3 := by omega
  rw [wSs_cons]
  simp only [gl_l, gl_c, gl_f, gl_g, own_l, own_c, nm_l, nm_c, nm_f, nm_g, upd_str, lk_str, call_n, call_s, e_none, e_bool, e_int, e_str, e_name, e_boolop, e_bin, e_un, e_cmp, e_call, e_meth0, e_meth1, e_slice, e_itemC, e_itemN, e_itemB, e_itemS, e_tup, e_list, e_comp0, e_comp1, es_nil, es_cons, o_none, o_some, b_one, b_two, c_one, c_two, t_not, t_bool, t_cmp, t_call, a_nil, a_cons, i_zip, i_range, i_enum, i_call, i_name, i_sub, i_list, s_expr, s_asgN, s_asgT, s_asgS, s_if, s_for, s_ret, ss_nil, th_next, th_ret, fin_ret, tg_name, tg_two, x_add, x_sub, x_mul, x_div, x_mod, x_pow, x_addT, x_addL, x_mulL, x_neg, x_not, x_lt, x_le, x_gt, x_ge, x_eq, x_ne, x_eqS, x_neS, tr_bool, mk_f, mk_t, sa_af, sa_at, sa_of, sa_ot, it_list, it_tup, ic_zip_tl, ic_range1, ic_range2, p_int, p_tup, p_list, blt1, blt2, blt3, blt4, blt5, blt6, blt7, me_append, me_extend, me_index, ns_nil, bind_nil, bind_cons, b_len, b_isinstance, b_list, b_tuple, b_sum, ti_ii, ti_ib, ti_tt, hide_false, back_false, wItem_lit, seqD_tup, seqD_list, lstD_list, String.reduceEq, ↓reduceIte, or_self, Option.some.injEq, reduceCtorEq, if_true, if_false, true_and, and_true, exists_eq_left', exists_eq_left, Int.reduceLE, Int.reduceLT, Int.reduceToNat, List.getElem?_cons_succ, List.getElem?_cons_zero, Bool.false_eq_true, noStars, isStarE, List.all, Bool.not_false, Bool.not_true, Bool.and_self, isCallE, isTupE, isSliceE, forall_const, implies_true, Bool.or_self, ite_true, ite_false, List.length_cons, List.length_nil, Nat.reduceLeDiff, Int.reducePow, Nat.zero_add, Nat.reduceAdd, Nat.reduceBEq, decide_true, decide_false, Int.reduceNeg, Int.cast_ofNat_Int, Int.reduceBEq, beq_self_eq_true, dI_len, two_lim, bo_oa, bo_aa, imp_self, false_implies, kd0, kd1, kd2, kd3, kd4, kd5, kd6, kd7, kd8, kd9, kd10, kd11, kd12, kd13, kd14, kd15, kd16, kd17, kd18, kd19, kd20, kd21, kd22, kd23, kd24, kd25, kd26, kd27, mtL_str, lim, Int.reduceAdd, Int.reduceMul, hM]
  rw [wSs_cons]
  simp only [gl_l, gl_c, gl_f, gl_g, own_l, own_c, nm_l, nm_c, nm_f, nm_g, upd_str, lk_str, call_n, call_s, e_none, e_bool, e_int, e_str, e_name, e_boolop, e_bin, e_un, e_cmp, e_call, e_meth0, e_meth1, e_slice, e_itemC, e_itemN, e_itemB, e_itemS, e_tup, e_list, e_comp0, e_comp1, es_nil, es_cons, o_none, o_some, b_one, b_two, c_one, c_two, t_not, t_bool, t_cmp, t_call, a_nil, a_cons, i_zip, i_range, i_enum, i_call, i_name, i_sub, i_list, s_expr, s_asgN, s_asgT, s_asgS, s_if, s_for, s_ret, ss_nil, th_next, th_ret, fin_ret, tg_name, tg_two, x_add, x_sub, x_mul, x_div, x_mod, x_pow, x_addT, x_addL, x_mulL, x_neg, x_not, x_lt, x_le, x_gt, x_ge, x_eq, x_ne, x_eqS, x_neS, tr_bool, mk_f, mk_t, sa_af, sa_at, sa_of, sa_ot, it_list, it_tup, ic_zip_tl, ic_range1, ic_range2, p_int, p_tup, p_list, blt1, blt2, blt3, blt4, blt5, blt6, blt7, me_append, me_extend, me_index, ns_nil, bind_nil, bind_cons, b_len, b_isinstance, b_list, b_tuple, b_sum, ti_ii, ti_ib, ti_tt, hide_false, back_false, wItem_lit, seqD_tup, seqD_list, lstD_list, String.reduceEq, ↓reduceIte, or_self, Option.some.injEq, reduceCtorEq, if_true, if_false, true_and, and_true, exists_eq_left', exists_eq_left, Int.reduceLE, Int.reduceLT, Int.reduceToNat, List.getElem?_cons_succ, List.getElem?_cons_zero, Bool.false_eq_true, noStars, isStarE, List.all, Bool.not_false, Bool.not_true, Bool.and_self, isCallE, isTupE, isSliceE, forall_const, implies_true, Bool.or_self, ite_true, ite_false, List.length_cons, List.length_nil, Nat.reduceLeDiff, Int.reducePow, Nat.zero_add, Nat.reduceAdd, Nat.reduceBEq, decide_true, decide_false, Int.reduceNeg, Int.cast_ofNat_Int, Int.reduceBEq, beq_self_eq_true, dI_len, two_lim, bo_oa, bo_aa, imp_self, false_implies, kd0, kd1, kd2, kd3, kd4, kd5, kd6, kd7, kd8, kd9, kd10, kd11, kd12, kd13, kd14, kd15, kd16, kd17, kd18, kd19, kd20, kd21, kd22, kd23, kd24, kd25, kd26, kd27, mtL_str, lim, Int.reduceAdd, Int.reduceMul, hO]
  obtain ⟨most, hmost, hmi⟩ : ∃ most : Int, (most = 0 ∨ (0 < most ∧ most ≤ 99)) ∧ ∀ st Q, Q (.int most) st → wItem (.list [.int 9, .int 99, .int 0, .int 9]) (.int (cell / 9 % 4)) st Q := by
    have : cell / 9 % 4 = 0 ∨ cell / 9 % 4 = 1 ∨ cell / 9 % 4 = 2 ∨ cell / 9 % 4 = 3 := by omega
    rcases this with e | e | e | e <;> rw [e]
    · exact ⟨9, by omega, fun st Q h => by rw [wItem_lit (by omega) (by omega)]; exact ⟨_, rfl, _, rfl, h⟩⟩
    · exact ⟨99, by omega, fun st Q h => by rw [wItem_lit (by omega) (by omega)]; exact ⟨_, rfl, _, rfl, h⟩⟩
    · exact ⟨0, by omega, fun st Q h => by rw [wItem_lit (by omega) (by omega)]; exact ⟨_, rfl, _, rfl, h⟩⟩
    · exact ⟨9, by omega, fun st Q h => by rw [wItem_lit (by omega) (by omega)]; exact ⟨_, rfl, _, rfl, h⟩⟩
  rw [wSs_cons]
  simp only [gl_l, gl_c, gl_f, gl_g, own_l, own_c, nm_l, nm_c, nm_f, nm_g, upd_str, lk_str, call_n, call_s, e_none, e_bool, e_int, e_str, e_name, e_boolop, e_bin, e_un, e_cmp, e_call, e_meth0, e_meth1, e_slice, e_itemC, e_itemN, e_itemB, e_itemS, e_tup, e_list, e_comp0, e_comp1, es_nil, es_cons, o_none, o_some, b_one, b_two, c_one, c_two, t_not, t_bool, t_cmp, t_call, a_nil, a_cons, i_zip, i_range, i_enum, i_call, i_name, i_sub, i_list, s_expr, s_asgN, s_asgT, s_asgS, s_if, s_for, s_ret, ss_nil, th_next, th_ret, fin_ret, tg_name, tg_two, x_add, x_sub, x_mul, x_div, x_mod, x_pow, x_addT, x_addL, x_mulL, x_neg, x_not, x_lt, x_le, x_gt, x_ge, x_eq, x_ne, x_eqS, x_neS, tr_bool, mk_f, mk_t, sa_af, sa_at, sa_of, sa_ot, it_list, it_tup, ic_zip_tl, ic_range1, ic_range2, p_int, p_tup, p_list, blt1, blt2, blt3, blt4, blt5, blt6, blt7, me_append, me_extend, me_index, ns_nil, bind_nil, bind_cons, b_len, b_isinstance, b_list, b_tuple, b_sum, ti_ii, ti_ib, ti_tt, hide_false, back_false, wItem_lit, seqD_tup, seqD_list, lstD_list, String.reduceEq, ↓reduceIte, or_self, Option.some.injEq, reduceCtorEq, if_true, if_false, true_and, and_true, exists_eq_left', exists_eq_left, Int.reduceLE, Int.reduceLT, Int.reduceToNat, List.getElem?_cons_succ, List.getElem?_cons_zero, Bool.false_eq_true, noStars, isStarE, List.all, Bool.not_false, Bool.not_true, Bool.and_self, isCallE, isTupE, isSliceE, forall_const, implies_true, Bool.or_self, ite_true, ite_false, List.length_cons, List.length_nil, Nat.reduceLeDiff, Int.reducePow, Nat.zero_add, Nat.reduceAdd, Nat.reduceBEq, decide_true, decide_false, Int.reduceNeg, Int.cast_ofNat_Int, Int.reduceBEq, beq_self_eq_true, dI_len, two_lim, bo_oa, bo_aa, imp_self, false_implies, kd0, kd1, kd2, kd3, kd4, kd5, kd6, kd7, kd8, kd9, kd10, kd11, kd12, kd13, kd14, kd15, kd16, kd17, kd18, kd19, kd20, kd21, kd22, kd23, kd24, kd25, kd26, kd27, mtL_str, lim, Int.reduceAdd, Int.reduceMul]
  refine hmi _ _ ?_
  -- the sum
  rw [wSs_cons]
  simp only [gl_l, gl_c, gl_f, gl_g, own_l, own_c, nm_l, nm_c, nm_f, nm_g, upd_str, lk_str, call_n, call_s, e_none, e_bool, e_int, e_str, e_name, e_boolop, e_bin, e_un, e_cmp, e_call, e_meth0, e_meth1, e_slice, e_itemC, e_itemN, e_itemB, e_itemS, e_tup, e_list, e_comp0, e_comp1, es_nil, es_cons, o_none, o_some, b_one, b_two, c_one, c_two, t_not, t_bool, t_cmp, t_call, a_nil, a_cons, i_zip, i_range, i_enum, i_call, i_name, i_sub, i_list, s_expr, s_asgN, s_asgT, s_asgS, s_if, s_for, s_ret, ss_nil, th_next, th_ret, fin_ret, tg_name, tg_two, x_add, x_sub, x_mul, x_div, x_mod, x_pow, x_addT, x_addL, x_mulL, x_neg, x_not, x_lt, x_le, x_gt, x_ge, x_eq, x_ne, x_eqS, x_neS, tr_bool, mk_f, mk_t, sa_af, sa_at, sa_of, sa_ot, it_list, it_tup, ic_zip_tl, ic_range1, ic_range2, p_int, p_tup, p_list, blt1, blt2, blt3, blt4, blt5, blt6, blt7, me_append, me_extend, me_index, ns_nil, bind_nil, bind_cons, b_len, b_isinstance, b_list, b_tuple, b_sum, ti_ii, ti_ib, ti_tt, hide_false, back_false, wItem_lit, seqD_tup, seqD_list, lstD_list, String.reduceEq, ↓reduceIte, or_self, Option.some.injEq, reduceCtorEq, if_true, if_false, true_and, and_true, exists_eq_left', exists_eq_left, Int.reduceLE, Int.reduceLT, Int.reduceToNat, List.getElem?_cons_succ, List.getElem?_cons_zero, Bool.false_eq_true, noStars, isStarE, List.all, Bool.not_false, Bool.not_true, Bool.and_self, isCallE, isTupE, isSliceE, forall_const, implies_true, Bool.or_self, ite_true, ite_false, List.length_cons, List.length_nil, Nat.reduceLeDiff, Int.reducePow, Nat.zero_add, Nat.reduceAdd, Nat.reduceBEq, decide_true, decide_false, Int.reduceNeg, Int.cast_ofNat_Int, Int.reduceBEq, beq_self_eq_true, dI_len, two_lim, bo_oa, bo_aa, imp_self, false_implies, kd0, kd1, kd2, kd3, kd4, kd5, kd6, kd7, kd8, kd9, kd10, kd11, kd12, kd13, kd14, kd15, kd16, kd17, kd18, kd19, kd20, kd21, kd22, kd23, kd24, kd25, kd26, kd27, mtL_str, lim, Int.reduceAdd, Int.reduceMul, F.b1]
  refine ⟨by simp [ScopeOk, ofString_inj, kd0, kd1, kd2, kd3, kd4, kd5, kd6, kd7, kd8, kd9, kd10, kd11, kd12, kd13, kd14, kd15, kd16, kd17, kd18, kd19, kd20, kd21, kd22, kd23, kd24, kd25, kd26, kd27, lk_str], by omega, by omega, ?_⟩
  rw [rangeN_map]
  refine wComp_list (α := Nat) _ (fun k => .int (numV (atV sc (1 + k)) most)) _ [] (fun k hk K hK => ?_) ?_
  · simp only [gl_l, gl_c, gl_f, gl_g, own_l, own_c, nm_l, nm_c, nm_f, nm_g, upd_str, lk_str, call_n, call_s, e_none, e_bool, e_int, e_str, e_name, e_boolop, e_bin, e_un, e_cmp, e_call, e_meth0, e_meth1, e_slice, e_itemC, e_itemN, e_itemB, e_itemS, e_tup, e_list, e_comp0, e_comp1, es_nil, es_cons, o_none, o_some, b_one, b_two, c_one, c_two, t_not, t_bool, t_cmp, t_call, a_nil, a_cons, i_zip, i_range, i_enum, i_call, i_name, i_sub, i_list, s_expr, s_asgN, s_asgT, s_asgS, s_if, s_for, s_ret, ss_nil, th_next, th_ret, fin_ret, tg_name, tg_two, x_add, x_sub, x_mul, x_div, x_mod, x_pow, x_addT, x_addL, x_mulL, x_neg, x_not, x_lt, x_le, x_gt, x_ge, x_eq, x_ne, x_eqS, x_neS, tr_bool, mk_f, mk_t, sa_af, sa_at, sa_of, sa_ot, it_list, it_tup, ic_zip_tl, ic_range1, ic_range2, p_int, p_tup, p_list, blt1, blt2, blt3, blt4, blt5, blt6, blt7, me_append, me_extend, me_index, ns_nil, bind_nil, bind_cons, b_len, b_isinstance, b_list, b_tuple, b_sum, ti_ii, ti_ib, ti_tt, hide_false, back_false, wItem_lit, seqD_tup, seqD_list, lstD_list, String.reduceEq, ↓reduceIte, or_self, Option.some.injEq, reduceCtorEq, if_true, if_false, true_and, and_true, exists_eq_left', exists_eq_left, Int.reduceLE, Int.reduceLT, Int.reduceToNat, List.getElem?_cons_succ, List.getElem?_cons_zero, Bool.false_eq_true, noStars, isStarE, List.all, Bool.not_false, Bool.not_true, Bool.and_self, isCallE, isTupE, isSliceE, forall_const, implies_true, Bool.or_self, ite_true, ite_false, List.length_cons, List.length_nil, Nat.reduceLeDiff, Int.reducePow, Nat.zero_add, Nat.reduceAdd, Nat.reduceBEq, decide_true, decide_false, Int.reduceNeg, Int.cast_ofNat_Int, Int.reduceBEq, beq_self_eq_true, dI_len, two_lim, bo_oa, bo_aa, imp_self, false_implies, kd0, kd1, kd2, kd3, kd4, kd5, kd6, kd7, kd8, kd9, kd10, kd11, kd12, kd13, kd14, kd15, kd16, kd17, kd18, kd19, kd20, kd21, kd22, kd23, kd24, kd25, kd26, kd27, mtL_str, lim, Int.reduceAdd, Int.reduceMul, ha, hn]
    exact ha' _ _ _ _ hsc (hn' _ _ _ _ hmost (at_pos _ _) hK)
  obtain ⟨ns, hns, hnl, hnb⟩ : ∃ ns : List Int, [] ++ (List.range M).map (fun k : Nat => D.int (numV (atV sc (1 + k)) most)) = dI ns ∧ ns.length = M ∧ ∀ a ∈ ns, a.natAbs ≤ 10 ^ 26 :=
    ⟨(List.range M).map fun k : Nat => numV (atV sc (1 + k)) most, by simp [dI], by simp, fun a h => by
      obtain ⟨k, _, rfl⟩ := List.mem_map.mp h
      exact num_big hmost (at_pos _ _)⟩
  rw [hns]
  simp only [gl_l, gl_c, gl_f, gl_g, own_l, own_c, nm_l, nm_c, nm_f, nm_g, upd_str, lk_str, call_n, call_s, e_none, e_bool, e_int, e_str, e_name, e_boolop, e_bin, e_un, e_cmp, e_call, e_meth0, e_meth1, e_slice, e_itemC, e_itemN, e_itemB, e_itemS, e_tup, e_list, e_comp0, e_comp1, es_nil, es_cons, o_none, o_some, b_one, b_two, c_one, c_two, t_not, t_bool, t_cmp, t_call, a_nil, a_cons, i_zip, i_range, i_enum, i_call, i_name, i_sub, i_list, s_expr, s_asgN, s_asgT, s_asgS, s_if, s_for, s_ret, ss_nil, th_next, th_ret, fin_ret, tg_name, tg_two, x_add, x_sub, x_mul, x_div, x_mod, x_pow, x_addT, x_addL, x_mulL, x_neg, x_not, x_lt, x_le, x_gt, x_ge, x_eq, x_ne, x_eqS, x_neS, tr_bool, mk_f, mk_t, sa_af, sa_at, sa_of, sa_ot, it_list, it_tup, ic_zip_tl, ic_range1, ic_range2, p_int, p_tup, p_list, blt1, blt2, blt3, blt4, blt5, blt6, blt7, me_append, me_extend, me_index, ns_nil, bind_nil, bind_cons, b_len, b_isinstance, b_list, b_tuple, b_sum, ti_ii, ti_ib, ti_tt, hide_false, back_false, wItem_lit, seqD_tup, seqD_list, lstD_list, String.reduceEq, ↓reduceIte, or_self, Option.some.injEq, reduceCtorEq, if_true, if_false, true_and, and_true, exists_eq_left', exists_eq_left, Int.reduceLE, Int.reduceLT, Int.reduceToNat, List.getElem?_cons_succ, List.getElem?_cons_zero, Bool.false_eq_true, noStars, isStarE, List.all, Bool.not_false, Bool.not_true, Bool.and_self, isCallE, isTupE, isSliceE, forall_const, implies_true, Bool.or_self, ite_true, ite_false, List.length_cons, List.length_nil, Nat.reduceLeDiff, Int.reducePow, Nat.zero_add, Nat.reduceAdd, Nat.reduceBEq, decide_true, decide_false, Int.reduceNeg, Int.cast_ofNat_Int, Int.reduceBEq, beq_self_eq_true, dI_len, two_lim, bo_oa, bo_aa, imp_self, false_implies, kd0, kd1, kd2, kd3, kd4, kd5, kd6, kd7, kd8, kd9, kd10, kd11, kd12, kd13, kd14, kd15, kd16, kd17, kd18, kd19, kd20, kd21, kd22, kd23, kd24, kd25, kd26, kd27, mtL_str, lim, Int.reduceAdd, Int.reduceMul, hnl]
  refine ⟨by omega, ?_⟩
  -- one
  rw [wSs_cons]
  simp only [gl_l, gl_c, gl_f, gl_g, own_l, own_c, nm_l, nm_c, nm_f, nm_g, upd_str, lk_str, call_n, call_s, e_none, e_bool, e_int, e_str, e_name, e_boolop, e_bin, e_un, e_cmp, e_call, e_meth0, e_meth1, e_slice, e_itemC, e_itemN, e_itemB, e_itemS, e_tup, e_list, e_comp0, e_comp1, es_nil, es_cons, o_none, o_some, b_one, b_two, c_one, c_two, t_not, t_bool, t_cmp, t_call, a_nil, a_cons, i_zip, i_range, i_enum, i_call, i_name, i_sub, i_list, s_expr, s_asgN, s_asgT, s_asgS, s_if, s_for, s_ret, ss_nil, th_next, th_ret, fin_ret, tg_name, tg_two, x_add, x_sub, x_mul, x_div, x_mod, x_pow, x_addT, x_addL, x_mulL, x_neg, x_not, x_lt, x_le, x_gt, x_ge, x_eq, x_ne, x_eqS, x_neS, tr_bool, mk_f, mk_t, sa_af, sa_at, sa_of, sa_ot, it_list, it_tup, ic_zip_tl, ic_range1, ic_range2, p_int, p_tup, p_list, blt1, blt2, blt3, blt4, blt5, blt6, blt7, me_append, me_extend, me_index, ns_nil, bind_nil, bind_cons, b_len, b_isinstance, b_list, b_tuple, b_sum, ti_ii, ti_ib, ti_tt, hide_false, back_false, wItem_lit, seqD_tup, seqD_list, lstD_list, String.reduceEq, ↓reduceIte, or_self, Option.some.injEq, reduceCtorEq, if_true, if_false, true_and, and_true, exists_eq_left', exists_eq_left, Int.reduceLE, Int.reduceLT, Int.reduceToNat, List.getElem?_cons_succ, List.getElem?_cons_zero, Bool.false_eq_true, noStars, isStarE, List.all, Bool.not_false, Bool.not_true, Bool.and_self, isCallE, isTupE, isSliceE, forall_const, implies_true, Bool.or_self, ite_true, ite_false, List.length_cons, List.length_nil, Nat.reduceLeDiff, Int.reducePow, Nat.zero_add, Nat.reduceAdd, Nat.reduceBEq, decide_true, decide_false, Int.reduceNeg, Int.cast_ofNat_Int, Int.reduceBEq, beq_self_eq_true, dI_len, two_lim, bo_oa, bo_aa, imp_self, false_implies, kd0, kd1, kd2, kd3, kd4, kd5, kd6, kd7, kd8, kd9, kd10, kd11, kd12, kd13, kd14, kd15, kd16, kd17, kd18, kd19, kd20, kd21, kd22, kd23, kd24, kd25, kd26, kd27, mtL_str, lim, Int.reduceAdd, Int.reduceMul, F.b2, ha, hn, hnl]
  refine ⟨by omega, ha' _ _ _ _ hsc (hn' _ _ _ _ hmost (at_pos _ _) ?_)⟩
  have hcb := num_big hmost (at_pos sc 4)
  generalize numV (atV sc 4) most = c at hcb ⊢
  -- boxes
  rw [wSs_cons]
  simp only [gl_l, gl_c, gl_f, gl_g, own_l, own_c, nm_l, nm_c, nm_f, nm_g, upd_str, lk_str, call_n, call_s, e_none, e_bool, e_int, e_str, e_name, e_boolop, e_bin, e_un, e_cmp, e_call, e_meth0, e_meth1, e_slice, e_itemC, e_itemN, e_itemB, e_itemS, e_tup, e_list, e_comp0, e_comp1, es_nil, es_cons, o_none, o_some, b_one, b_two, c_one, c_two, t_not, t_bool, t_cmp, t_call, a_nil, a_cons, i_zip, i_range, i_enum, i_call, i_name, i_sub, i_list, s_expr, s_asgN, s_asgT, s_asgS, s_if, s_for, s_ret, ss_nil, th_next, th_ret, fin_ret, tg_name, tg_two, x_add, x_sub, x_mul, x_div, x_mod, x_pow, x_addT, x_addL, x_mulL, x_neg, x_not, x_lt, x_le, x_gt, x_ge, x_eq, x_ne, x_eqS, x_neS, tr_bool, mk_f, mk_t, sa_af, sa_at, sa_of, sa_ot, it_list, it_tup, ic_zip_tl, ic_range1, ic_range2, p_int, p_tup, p_list, blt1, blt2, blt3, blt4, blt5, blt6, blt7, me_append, me_extend, me_index, ns_nil, bind_nil, bind_cons, b_len, b_isinstance, b_list, b_tuple, b_sum, ti_ii, ti_ib, ti_tt, hide_false, back_false, wItem_lit, seqD_tup, seqD_list, lstD_list, String.reduceEq, ↓reduceIte, or_self, Option.some.injEq, reduceCtorEq, if_true, if_false, true_and, and_true, exists_eq_left', exists_eq_left, Int.reduceLE, Int.reduceLT, Int.reduceToNat, List.getElem?_cons_succ, List.getElem?_cons_zero, Bool.false_eq_true, noStars, isStarE, List.all, Bool.not_false, Bool.not_true, Bool.and_self, isCallE, isTupE, isSliceE, forall_const, implies_true, Bool.or_self, ite_true, ite_false, List.length_cons, List.length_nil, Nat.reduceLeDiff, Int.reducePow, Nat.zero_add, Nat.reduceAdd, Nat.reduceBEq, decide_true, decide_false, Int.reduceNeg, Int.cast_ofNat_Int, Int.reduceBEq, beq_self_eq_true, dI_len, two_lim, bo_oa, bo_aa, imp_self, false_implies, kd0, kd1, kd2, kd3, kd4, kd5, kd6, kd7, kd8, kd9, kd10, kd11, kd12, kd13, kd14, kd15, kd16, kd17, kd18, kd19, kd20, kd21, kd22, kd23, kd24, kd25, kd26, kd27, mtL_str, lim, Int.reduceAdd, Int.reduceMul]
  rw [wSs_cons]
  simp only [gl_l, gl_c, gl_f, gl_g, own_l, own_c, nm_l, nm_c, nm_f, nm_g, upd_str, lk_str, call_n, call_s, e_none, e_bool, e_int, e_str, e_name, e_boolop, e_bin, e_un, e_cmp, e_call, e_meth0, e_meth1, e_slice, e_itemC, e_itemN, e_itemB, e_itemS, e_tup, e_list, e_comp0, e_comp1, es_nil, es_cons, o_none, o_some, b_one, b_two, c_one, c_two, t_not, t_bool, t_cmp, t_call, a_nil, a_cons, i_zip, i_range, i_enum, i_call, i_name, i_sub, i_list, s_expr, s_asgN, s_asgT, s_asgS, s_if, s_for, s_ret, ss_nil, th_next, th_ret, fin_ret, tg_name, tg_two, x_add, x_sub, x_mul, x_div, x_mod, x_pow, x_addT, x_addL, x_mulL, x_neg, x_not, x_lt, x_le, x_gt, x_ge, x_eq, x_ne, x_eqS, x_neS, tr_bool, mk_f, mk_t, sa_af, sa_at, sa_of, sa_ot, it_list, it_tup, ic_zip_tl, ic_range1, ic_range2, p_int, p_tup, p_list, blt1, blt2, blt3, blt4, blt5, blt6, blt7, me_append, me_extend, me_index, ns_nil, bind_nil, bind_cons, b_len, b_isinstance, b_list, b_tuple, b_sum, ti_ii, ti_ib, ti_tt, hide_false, back_false, wItem_lit, seqD_tup, seqD_list, lstD_list, String.reduceEq, ↓reduceIte, or_self, Option.some.injEq, reduceCtorEq, if_true, if_false, true_and, and_true, exists_eq_left', exists_eq_left, Int.reduceLE, Int.reduceLT, Int.reduceToNat, List.getElem?_cons_succ, List.getElem?_cons_zero, Bool.false_eq_true, noStars, isStarE, List.all, Bool.not_false, Bool.not_true, Bool.and_self, isCallE, isTupE, isSliceE, forall_const, implies_true, Bool.or_self, ite_true, ite_false, List.length_cons, List.length_nil, Nat.reduceLeDiff, Int.reducePow, Nat.zero_add, Nat.reduceAdd, Nat.reduceBEq, decide_true, decide_false, Int.reduceNeg, Int.cast_ofNat_Int, Int.reduceBEq, beq_self_eq_true, dI_len, two_lim, bo_oa, bo_aa, imp_self, false_implies, kd0, kd1, kd2, kd3, kd4, kd5, kd6, kd7, kd8, kd9, kd10, kd11, kd12, kd13, kd14, kd15, kd16, kd17, kd18, kd19, kd20, kd21, kd22, kd23, kd24, kd25, kd26, kd27, mtL_str, lim, Int.reduceAdd, Int.reduceMul, F.b1]
  refine ⟨by omega, by omega, ?_⟩
  refine wFor_inv (fun i m' st' => ∃ bx : List (List Int × Int), bx.length = i ∧ (∀ b ∈ bx, b.1.length = O ∧ b.2.natAbs ≤ 10 ^ 26 ∧ ∀ a ∈ b.1, a.natAbs ≤ 10 ^ 26) ∧ st' = st.alloc (.list (bx.map boxD)) ∧
    m' "_law_script" = some (.list (dI sc)) ∧ m' "_law_cell" = some (.int cell) ∧ m' "_law_many" = some (.int M) ∧ m' "_law_others" = some (.int O) ∧ m' "_law_most" = some (.int most) ∧ m' "_law_one" = some (.tup [.tup (dI ns), .int c]) ∧ m' "_law_boxes" = some (.loc st.hi)) _ []
    ⟨[], rfl, by simp, rfl, by simp only [gl_l, gl_c, gl_f, gl_g, own_l, own_c, nm_l, nm_c, nm_f, nm_g, upd_str, lk_str, call_n, call_s, e_none, e_bool, e_int, e_str, e_name, e_boolop, e_bin, e_un, e_cmp, e_call, e_meth0, e_meth1, e_slice, e_itemC, e_itemN, e_itemB, e_itemS, e_tup, e_list, e_comp0, e_comp1, es_nil, es_cons, o_none, o_some, b_one, b_two, c_one, c_two, t_not, t_bool, t_cmp, t_call, a_nil, a_cons, i_zip, i_range, i_enum, i_call, i_name, i_sub, i_list, s_expr, s_asgN, s_asgT, s_asgS, s_if, s_for, s_ret, ss_nil, th_next, th_ret, fin_ret, tg_name, tg_two, x_add, x_sub, x_mul, x_div, x_mod, x_pow, x_addT, x_addL, x_mulL, x_neg, x_not, x_lt, x_le, x_gt, x_ge, x_eq, x_ne, x_eqS, x_neS, tr_bool, mk_f, mk_t, sa_af, sa_at, sa_of, sa_ot, it_list, it_tup, ic_zip_tl, ic_range1, ic_range2, p_int, p_tup, p_list, blt1, blt2, blt3, blt4, blt5, blt6, blt7, me_append, me_extend, me_index, ns_nil, bind_nil, bind_cons, b_len, b_isinstance, b_list, b_tuple, b_sum, ti_ii, ti_ib, ti_tt, hide_false, back_false, wItem_lit, seqD_tup, seqD_list, lstD_list, String.reduceEq, ↓reduceIte, or_self, Option.some.injEq, reduceCtorEq, if_true, if_false, true_and, and_true, exists_eq_left', exists_eq_left, Int.reduceLE, Int.reduceLT, Int.reduceToNat, List.getElem?_cons_succ, List.getElem?_cons_zero, Bool.false_eq_true, noStars, isStarE, List.all, Bool.not_false, Bool.not_true, Bool.and_self, isCallE, isTupE, isSliceE, forall_const, implies_true, Bool.or_self, ite_true, ite_false, List.length_cons, List.length_nil, Nat.reduceLeDiff, Int.reducePow, Nat.zero_add, Nat.reduceAdd, Nat.reduceBEq, decide_true, decide_false, Int.reduceNeg, Int.cast_ofNat_Int, Int.reduceBEq, beq_self_eq_true, dI_len, two_lim, bo_oa, bo_aa, imp_self, false_implies, kd0, kd1, kd2, kd3, kd4, kd5, kd6, kd7, kd8, kd9, kd10, kd11, kd12, kd13, kd14, kd15, kd16, kd17, kd18, kd19, kd20, kd21, kd22, kd23, kd24, kd25, kd26, kd27, mtL_str, lim, Int.reduceAdd, Int.reduceMul], by simp only [gl_l, gl_c, gl_f, gl_g, own_l, own_c, nm_l, nm_c, nm_f, nm_g, upd_str, lk_str, call_n, call_s, e_none, e_bool, e_int, e_str, e_name, e_boolop, e_bin, e_un, e_cmp, e_call, e_meth0, e_meth1, e_slice, e_itemC, e_itemN, e_itemB, e_itemS, e_tup, e_list, e_comp0, e_comp1, es_nil, es_cons, o_none, o_some, b_one, b_two, c_one, c_two, t_not, t_bool, t_cmp, t_call, a_nil, a_cons, i_zip, i_range, i_enum, i_call, i_name, i_sub, i_list, s_expr, s_asgN, s_asgT, s_asgS, s_if, s_for, s_ret, ss_nil, th_next, th_ret, fin_ret, tg_name, tg_two, x_add, x_sub, x_mul, x_div, x_mod, x_pow, x_addT, x_addL, x_mulL, x_neg, x_not, x_lt, x_le, x_gt, x_ge, x_eq, x_ne, x_eqS, x_neS, tr_bool, mk_f, mk_t, sa_af, sa_at, sa_of, sa_ot, it_list, it_tup, ic_zip_tl, ic_range1, ic_range2, p_int, p_tup, p_list, blt1, blt2, blt3, blt4, blt5, blt6, blt7, me_append, me_extend, me_index, ns_nil, bind_nil, bind_cons, b_len, b_isinstance, b_list, b_tuple, b_sum, ti_ii, ti_ib, ti_tt, hide_false, back_false, wItem_lit, seqD_tup, seqD_list, lstD_list, String.reduceEq, ↓reduceIte, or_self, Option.some.injEq, reduceCtorEq, if_true, if_false, true_and, and_true, exists_eq_left', exists_eq_left, Int.reduceLE, Int.reduceLT, Int.reduceToNat, List.getElem?_cons_succ, List.getElem?_cons_zero, Bool.false_eq_true, noStars, isStarE, List.all, Bool.not_false, Bool.not_true, Bool.and_self, isCallE, isTupE, isSliceE, forall_const, implies_true, Bool.or_self, ite_true, ite_false, List.length_cons, List.length_nil, Nat.reduceLeDiff, Int.reducePow, Nat.zero_add, Nat.reduceAdd, Nat.reduceBEq, decide_true, decide_false, Int.reduceNeg, Int.cast_ofNat_Int, Int.reduceBEq, beq_self_eq_true, dI_len, two_lim, bo_oa, bo_aa, imp_self, false_implies, kd0, kd1, kd2, kd3, kd4, kd5, kd6, kd7, kd8, kd9, kd10, kd11, kd12, kd13, kd14, kd15, kd16, kd17, kd18, kd19, kd20, kd21, kd22, kd23, kd24, kd25, kd26, kd27, mtL_str, lim, Int.reduceAdd, Int.reduceMul], by simp only [gl_l, gl_c, gl_f, gl_g, own_l, own_c, nm_l, nm_c, nm_f, nm_g, upd_str, lk_str, call_n, call_s, e_none, e_bool, e_int, e_str, e_name, e_boolop, e_bin, e_un, e_cmp, e_call, e_meth0, e_meth1, e_slice, e_itemC, e_itemN, e_itemB, e_itemS, e_tup, e_list, e_comp0, e_comp1, es_nil, es_cons, o_none, o_some, b_one, b_two, c_one, c_two, t_not, t_bool, t_cmp, t_call, a_nil, a_cons, i_zip, i_range, i_enum, i_call, i_name, i_sub, i_list, s_expr, s_asgN, s_asgT, s_asgS, s_if, s_for, s_ret, ss_nil, th_next, th_ret, fin_ret, tg_name, tg_two, x_add, x_sub, x_mul, x_div, x_mod, x_pow, x_addT, x_addL, x_mulL, x_neg, x_not, x_lt, x_le, x_gt, x_ge, x_eq, x_ne, x_eqS, x_neS, tr_bool, mk_f, mk_t, sa_af, sa_at, sa_of, sa_ot, it_list, it_tup, ic_zip_tl, ic_range1, ic_range2, p_int, p_tup, p_list, blt1, blt2, blt3, blt4, blt5, blt6, blt7, me_append, me_extend, me_index, ns_nil, bind_nil, bind_cons, b_len, b_isinstance, b_list, b_tuple, b_sum, ti_ii, ti_ib, ti_tt, hide_false, back_false, wItem_lit, seqD_tup, seqD_list, lstD_list, String.reduceEq, ↓reduceIte, or_self, Option.some.injEq, reduceCtorEq, if_true, if_false, true_and, and_true, exists_eq_left', exists_eq_left, Int.reduceLE, Int.reduceLT, Int.reduceToNat, List.getElem?_cons_succ, List.getElem?_cons_zero, Bool.false_eq_true, noStars, isStarE, List.all, Bool.not_false, Bool.not_true, Bool.and_self, isCallE, isTupE, isSliceE, forall_const, implies_true, Bool.or_self, ite_true, ite_false, List.length_cons, List.length_nil, Nat.reduceLeDiff, Int.reducePow, Nat.zero_add, Nat.reduceAdd, Nat.reduceBEq, decide_true, decide_false, Int.reduceNeg, Int.cast_ofNat_Int, Int.reduceBEq, beq_self_eq_true, dI_len, two_lim, bo_oa, bo_aa, imp_self, false_implies, kd0, kd1, kd2, kd3, kd4, kd5, kd6, kd7, kd8, kd9, kd10, kd11, kd12, kd13, kd14, kd15, kd16, kd17, kd18, kd19, kd20, kd21, kd22, kd23, kd24, kd25, kd26, kd27, mtL_str, lim, Int.reduceAdd, Int.reduceMul], by simp only [gl_l, gl_c, gl_f, gl_g, own_l, own_c, nm_l, nm_c, nm_f, nm_g, upd_str, lk_str, call_n, call_s, e_none, e_bool, e_int, e_str, e_name, e_boolop, e_bin, e_un, e_cmp, e_call, e_meth0, e_meth1, e_slice, e_itemC, e_itemN, e_itemB, e_itemS, e_tup, e_list, e_comp0, e_comp1, es_nil, es_cons, o_none, o_some, b_one, b_two, c_one, c_two, t_not, t_bool, t_cmp, t_call, a_nil, a_cons, i_zip, i_range, i_enum, i_call, i_name, i_sub, i_list, s_expr, s_asgN, s_asgT, s_asgS, s_if, s_for, s_ret, ss_nil, th_next, th_ret, fin_ret, tg_name, tg_two, x_add, x_sub, x_mul, x_div, x_mod, x_pow, x_addT, x_addL, x_mulL, x_neg, x_not, x_lt, x_le, x_gt, x_ge, x_eq, x_ne, x_eqS, x_neS, tr_bool, mk_f, mk_t, sa_af, sa_at, sa_of, sa_ot, it_list, it_tup, ic_zip_tl, ic_range1, ic_range2, p_int, p_tup, p_list, blt1, blt2, blt3, blt4, blt5, blt6, blt7, me_append, me_extend, me_index, ns_nil, bind_nil, bind_cons, b_len, b_isinstance, b_list, b_tuple, b_sum, ti_ii, ti_ib, ti_tt, hide_false, back_false, wItem_lit, seqD_tup, seqD_list, lstD_list, String.reduceEq, ↓reduceIte, or_self, Option.some.injEq, reduceCtorEq, if_true, if_false, true_and, and_true, exists_eq_left', exists_eq_left, Int.reduceLE, Int.reduceLT, Int.reduceToNat, List.getElem?_cons_succ, List.getElem?_cons_zero, Bool.false_eq_true, noStars, isStarE, List.all, Bool.not_false, Bool.not_true, Bool.and_self, isCallE, isTupE, isSliceE, forall_const, implies_true, Bool.or_self, ite_true, ite_false, List.length_cons, List.length_nil, Nat.reduceLeDiff, Int.reducePow, Nat.zero_add, Nat.reduceAdd, Nat.reduceBEq, decide_true, decide_false, Int.reduceNeg, Int.cast_ofNat_Int, Int.reduceBEq, beq_self_eq_true, dI_len, two_lim, bo_oa, bo_aa, imp_self, false_implies, kd0, kd1, kd2, kd3, kd4, kd5, kd6, kd7, kd8, kd9, kd10, kd11, kd12, kd13, kd14, kd15, kd16, kd17, kd18, kd19, kd20, kd21, kd22, kd23, kd24, kd25, kd26, kd27, mtL_str, lim, Int.reduceAdd, Int.reduceMul], by simp only [gl_l, gl_c, gl_f, gl_g, own_l, own_c, nm_l, nm_c, nm_f, nm_g, upd_str, lk_str, call_n, call_s, e_none, e_bool, e_int, e_str, e_name, e_boolop, e_bin, e_un, e_cmp, e_call, e_meth0, e_meth1, e_slice, e_itemC, e_itemN, e_itemB, e_itemS, e_tup, e_list, e_comp0, e_comp1, es_nil, es_cons, o_none, o_some, b_one, b_two, c_one, c_two, t_not, t_bool, t_cmp, t_call, a_nil, a_cons, i_zip, i_range, i_enum, i_call, i_name, i_sub, i_list, s_expr, s_asgN, s_asgT, s_asgS, s_if, s_for, s_ret, ss_nil, th_next, th_ret, fin_ret, tg_name, tg_two, x_add, x_sub, x_mul, x_div, x_mod, x_pow, x_addT, x_addL, x_mulL, x_neg, x_not, x_lt, x_le, x_gt, x_ge, x_eq, x_ne, x_eqS, x_neS, tr_bool, mk_f, mk_t, sa_af, sa_at, sa_of, sa_ot, it_list, it_tup, ic_zip_tl, ic_range1, ic_range2, p_int, p_tup, p_list, blt1, blt2, blt3, blt4, blt5, blt6, blt7, me_append, me_extend, me_index, ns_nil, bind_nil, bind_cons, b_len, b_isinstance, b_list, b_tuple, b_sum, ti_ii, ti_ib, ti_tt, hide_false, back_false, wItem_lit, seqD_tup, seqD_list, lstD_list, String.reduceEq, ↓reduceIte, or_self, Option.some.injEq, reduceCtorEq, if_true, if_false, true_and, and_true, exists_eq_left', exists_eq_left, Int.reduceLE, Int.reduceLT, Int.reduceToNat, List.getElem?_cons_succ, List.getElem?_cons_zero, Bool.false_eq_true, noStars, isStarE, List.all, Bool.not_false, Bool.not_true, Bool.and_self, isCallE, isTupE, isSliceE, forall_const, implies_true, Bool.or_self, ite_true, ite_false, List.length_cons, List.length_nil, Nat.reduceLeDiff, Int.reducePow, Nat.zero_add, Nat.reduceAdd, Nat.reduceBEq, decide_true, decide_false, Int.reduceNeg, Int.cast_ofNat_Int, Int.reduceBEq, beq_self_eq_true, dI_len, two_lim, bo_oa, bo_aa, imp_self, false_implies, kd0, kd1, kd2, kd3, kd4, kd5, kd6, kd7, kd8, kd9, kd10, kd11, kd12, kd13, kd14, kd15, kd16, kd17, kd18, kd19, kd20, kd21, kd22, kd23, kd24, kd25, kd26, kd27, mtL_str, lim, Int.reduceAdd, Int.reduceMul], by simp only [gl_l, gl_c, gl_f, gl_g, own_l, own_c, nm_l, nm_c, nm_f, nm_g, upd_str, lk_str, call_n, call_s, e_none, e_bool, e_int, e_str, e_name, e_boolop, e_bin, e_un, e_cmp, e_call, e_meth0, e_meth1, e_slice, e_itemC, e_itemN, e_itemB, e_itemS, e_tup, e_list, e_comp0, e_comp1, es_nil, es_cons, o_none, o_some, b_one, b_two, c_one, c_two, t_not, t_bool, t_cmp, t_call, a_nil, a_cons, i_zip, i_range, i_enum, i_call, i_name, i_sub, i_list, s_expr, s_asgN, s_asgT, s_asgS, s_if, s_for, s_ret, ss_nil, th_next, th_ret, fin_ret, tg_name, tg_two, x_add, x_sub, x_mul, x_div, x_mod, x_pow, x_addT, x_addL, x_mulL, x_neg, x_not, x_lt, x_le, x_gt, x_ge, x_eq, x_ne, x_eqS, x_neS, tr_bool, mk_f, mk_t, sa_af, sa_at, sa_of, sa_ot, it_list, it_tup, ic_zip_tl, ic_range1, ic_range2, p_int, p_tup, p_list, blt1, blt2, blt3, blt4, blt5, blt6, blt7, me_append, me_extend, me_index, ns_nil, bind_nil, bind_cons, b_len, b_isinstance, b_list, b_tuple, b_sum, ti_ii, ti_ib, ti_tt, hide_false, back_false, wItem_lit, seqD_tup, seqD_list, lstD_list, String.reduceEq, ↓reduceIte, or_self, Option.some.injEq, reduceCtorEq, if_true, if_false, true_and, and_true, exists_eq_left', exists_eq_left, Int.reduceLE, Int.reduceLT, Int.reduceToNat, List.getElem?_cons_succ, List.getElem?_cons_zero, Bool.false_eq_true, noStars, isStarE, List.all, Bool.not_false, Bool.not_true, Bool.and_self, isCallE, isTupE, isSliceE, forall_const, implies_true, Bool.or_self, ite_true, ite_false, List.length_cons, List.length_nil, Nat.reduceLeDiff, Int.reducePow, Nat.zero_add, Nat.reduceAdd, Nat.reduceBEq, decide_true, decide_false, Int.reduceNeg, Int.cast_ofNat_Int, Int.reduceBEq, beq_self_eq_true, dI_len, two_lim, bo_oa, bo_aa, imp_self, false_implies, kd0, kd1, kd2, kd3, kd4, kd5, kd6, kd7, kd8, kd9, kd10, kd11, kd12, kd13, kd14, kd15, kd16, kd17, kd18, kd19, kd20, kd21, kd22, kd23, kd24, kd25, kd26, kd27, mtL_str, lim, Int.reduceAdd, Int.reduceMul], by simp only [gl_l, gl_c, gl_f, gl_g, own_l, own_c, nm_l, nm_c, nm_f, nm_g, upd_str, lk_str, call_n, call_s, e_none, e_bool, e_int, e_str, e_name, e_boolop, e_bin, e_un, e_cmp, e_call, e_meth0, e_meth1, e_slice, e_itemC, e_itemN, e_itemB, e_itemS, e_tup, e_list, e_comp0, e_comp1, es_nil, es_cons, o_none, o_some, b_one, b_two, c_one, c_two, t_not, t_bool, t_cmp, t_call, a_nil, a_cons, i_zip, i_range, i_enum, i_call, i_name, i_sub, i_list, s_expr, s_asgN, s_asgT, s_asgS, s_if, s_for, s_ret, ss_nil, th_next, th_ret, fin_ret, tg_name, tg_two, x_add, x_sub, x_mul, x_div, x_mod, x_pow, x_addT, x_addL, x_mulL, x_neg, x_not, x_lt, x_le, x_gt, x_ge, x_eq, x_ne, x_eqS, x_neS, tr_bool, mk_f, mk_t, sa_af, sa_at, sa_of, sa_ot, it_list, it_tup, ic_zip_tl, ic_range1, ic_range2, p_int, p_tup, p_list, blt1, blt2, blt3, blt4, blt5, blt6, blt7, me_append, me_extend, me_index, ns_nil, bind_nil, bind_cons, b_len, b_isinstance, b_list, b_tuple, b_sum, ti_ii, ti_ib, ti_tt, hide_false, back_false, wItem_lit, seqD_tup, seqD_list, lstD_list, String.reduceEq, ↓reduceIte, or_self, Option.some.injEq, reduceCtorEq, if_true, if_false, true_and, and_true, exists_eq_left', exists_eq_left, Int.reduceLE, Int.reduceLT, Int.reduceToNat, List.getElem?_cons_succ, List.getElem?_cons_zero, Bool.false_eq_true, noStars, isStarE, List.all, Bool.not_false, Bool.not_true, Bool.and_self, isCallE, isTupE, isSliceE, forall_const, implies_true, Bool.or_self, ite_true, ite_false, List.length_cons, List.length_nil, Nat.reduceLeDiff, Int.reducePow, Nat.zero_add, Nat.reduceAdd, Nat.reduceBEq, decide_true, decide_false, Int.reduceNeg, Int.cast_ofNat_Int, Int.reduceBEq, beq_self_eq_true, dI_len, two_lim, bo_oa, bo_aa, imp_self, false_implies, kd0, kd1, kd2, kd3, kd4, kd5, kd6, kd7, kd8, kd9, kd10, kd11, kd12, kd13, kd14, kd15, kd16, kd17, kd18, kd19, kd20, kd21, kd22, kd23, kd24, kd25, kd26, kd27, mtL_str, lim, Int.reduceAdd, Int.reduceMul]⟩ ?_ ?_
  · rintro i d m' st' K hd ⟨bx, hbl, hbb, rfl, f1, f2, f3, f4, f5, f6, f7⟩ hK
    obtain ⟨hi, rfl⟩ := rangeN_get hd
    try simp only [gl_l, gl_c, gl_f, gl_g, own_l, own_c, nm_l, nm_c, nm_f, nm_g, upd_str, lk_str, call_n, call_s, e_none, e_bool, e_int, e_str, e_name, e_boolop, e_bin, e_un, e_cmp, e_call, e_meth0, e_meth1, e_slice, e_itemC, e_itemN, e_itemB, e_itemS, e_tup, e_list, e_comp0, e_comp1, es_nil, es_cons, o_none, o_some, b_one, b_two, c_one, c_two, t_not, t_bool, t_cmp, t_call, a_nil, a_cons, i_zip, i_range, i_enum, i_call, i_name, i_sub, i_list, s_expr, s_asgN, s_asgT, s_asgS, s_if, s_for, s_ret, ss_nil, th_next, th_ret, fin_ret, tg_name, tg_two, x_add, x_sub, x_mul, x_div, x_mod, x_pow, x_addT, x_addL, x_mulL, x_neg, x_not, x_lt, x_le, x_gt, x_ge, x_eq, x_ne, x_eqS, x_neS, tr_bool, mk_f, mk_t, sa_af, sa_at, sa_of, sa_ot, it_list, it_tup, ic_zip_tl, ic_range1, ic_range2, p_int, p_tup, p_list, blt1, blt2, blt3, blt4, blt5, blt6, blt7, me_append, me_extend, me_index, ns_nil, bind_nil, bind_cons, b_len, b_isinstance, b_list, b_tuple, b_sum, ti_ii, ti_ib, ti_tt, hide_false, back_false, wItem_lit, seqD_tup, seqD_list, lstD_list, String.reduceEq, ↓reduceIte, or_self, Option.some.injEq, reduceCtorEq, if_true, if_false, true_and, and_true, exists_eq_left', exists_eq_left, Int.reduceLE, Int.reduceLT, Int.reduceToNat, List.getElem?_cons_succ, List.getElem?_cons_zero, Bool.false_eq_true, noStars, isStarE, List.all, Bool.not_false, Bool.not_true, Bool.and_self, isCallE, isTupE, isSliceE, forall_const, implies_true, Bool.or_self, ite_true, ite_false, List.length_cons, List.length_nil, Nat.reduceLeDiff, Int.reducePow, Nat.zero_add, Nat.reduceAdd, Nat.reduceBEq, decide_true, decide_false, Int.reduceNeg, Int.cast_ofNat_Int, Int.reduceBEq, beq_self_eq_true, dI_len, two_lim, bo_oa, bo_aa, imp_self, false_implies, kd0, kd1, kd2, kd3, kd4, kd5, kd6, kd7, kd8, kd9, kd10, kd11, kd12, kd13, kd14, kd15, kd16, kd17, kd18, kd19, kd20, kd21, kd22, kd23, kd24, kd25, kd26, kd27, mtL_str, lim, Int.reduceAdd, Int.reduceMul]
    rw [wSs_cons]
    simp only [gl_l, gl_c, gl_f, gl_g, own_l, own_c, nm_l, nm_c, nm_f, nm_g, upd_str, lk_str, call_n, call_s, e_none, e_bool, e_int, e_str, e_name, e_boolop, e_bin, e_un, e_cmp, e_call, e_meth0, e_meth1, e_slice, e_itemC, e_itemN, e_itemB, e_itemS, e_tup, e_list, e_comp0, e_comp1, es_nil, es_cons, o_none, o_some, b_one, b_two, c_one, c_two, t_not, t_bool, t_cmp, t_call, a_nil, a_cons, i_zip, i_range, i_enum, i_call, i_name, i_sub, i_list, s_expr, s_asgN, s_asgT, s_asgS, s_if, s_for, s_ret, ss_nil, th_next, th_ret, fin_ret, tg_name, tg_two, x_add, x_sub, x_mul, x_div, x_mod, x_pow, x_addT, x_addL, x_mulL, x_neg, x_not, x_lt, x_le, x_gt, x_ge, x_eq, x_ne, x_eqS, x_neS, tr_bool, mk_f, mk_t, sa_af, sa_at, sa_of, sa_ot, it_list, it_tup, ic_zip_tl, ic_range1, ic_range2, p_int, p_tup, p_list, blt1, blt2, blt3, blt4, blt5, blt6, blt7, me_append, me_extend, me_index, ns_nil, bind_nil, bind_cons, b_len, b_isinstance, b_list, b_tuple, b_sum, ti_ii, ti_ib, ti_tt, hide_false, back_false, wItem_lit, seqD_tup, seqD_list, lstD_list, String.reduceEq, ↓reduceIte, or_self, Option.some.injEq, reduceCtorEq, if_true, if_false, true_and, and_true, exists_eq_left', exists_eq_left, Int.reduceLE, Int.reduceLT, Int.reduceToNat, List.getElem?_cons_succ, List.getElem?_cons_zero, Bool.false_eq_true, noStars, isStarE, List.all, Bool.not_false, Bool.not_true, Bool.and_self, isCallE, isTupE, isSliceE, forall_const, implies_true, Bool.or_self, ite_true, ite_false, List.length_cons, List.length_nil, Nat.reduceLeDiff, Int.reducePow, Nat.zero_add, Nat.reduceAdd, Nat.reduceBEq, decide_true, decide_false, Int.reduceNeg, Int.cast_ofNat_Int, Int.reduceBEq, beq_self_eq_true, dI_len, two_lim, bo_oa, bo_aa, imp_self, false_implies, kd0, kd1, kd2, kd3, kd4, kd5, kd6, kd7, kd8, kd9, kd10, kd11, kd12, kd13, kd14, kd15, kd16, kd17, kd18, kd19, kd20, kd21, kd22, kd23, kd24, kd25, kd26, kd27, mtL_str, lim, Int.reduceAdd, Int.reduceMul, F.b1, f1, f2, f3, f4, f5, f6, f7]
    refine ⟨by simp [ScopeOk, ofString_inj, kd0, kd1, kd2, kd3, kd4, kd5, kd6, kd7, kd8, kd9, kd10, kd11, kd12, kd13, kd14, kd15, kd16, kd17, kd18, kd19, kd20, kd21, kd22, kd23, kd24, kd25, kd26, kd27, lk_str], by omega, by omega, ?_⟩
    rw [rangeN_map]
    refine wComp_list (α := Nat) _ (fun k => .int (numV (atV sc (5 + 4 * i + k)) most)) _ [] (fun k hk K hK => ?_) ?_
    · simp only [gl_l, gl_c, gl_f, gl_g, own_l, own_c, nm_l, nm_c, nm_f, nm_g, upd_str, lk_str, call_n, call_s, e_none, e_bool, e_int, e_str, e_name, e_boolop, e_bin, e_un, e_cmp, e_call, e_meth0, e_meth1, e_slice, e_itemC, e_itemN, e_itemB, e_itemS, e_tup, e_list, e_comp0, e_comp1, es_nil, es_cons, o_none, o_some, b_one, b_two, c_one, c_two, t_not, t_bool, t_cmp, t_call, a_nil, a_cons, i_zip, i_range, i_enum, i_call, i_name, i_sub, i_list, s_expr, s_asgN, s_asgT, s_asgS, s_if, s_for, s_ret, ss_nil, th_next, th_ret, fin_ret, tg_name, tg_two, x_add, x_sub, x_mul, x_div, x_mod, x_pow, x_addT, x_addL, x_mulL, x_neg, x_not, x_lt, x_le, x_gt, x_ge, x_eq, x_ne, x_eqS, x_neS, tr_bool, mk_f, mk_t, sa_af, sa_at, sa_of, sa_ot, it_list, it_tup, ic_zip_tl, ic_range1, ic_range2, p_int, p_tup, p_list, blt1, blt2, blt3, blt4, blt5, blt6, blt7, me_append, me_extend, me_index, ns_nil, bind_nil, bind_cons, b_len, b_isinstance, b_list, b_tuple, b_sum, ti_ii, ti_ib, ti_tt, hide_false, back_false, wItem_lit, seqD_tup, seqD_list, lstD_list, String.reduceEq, ↓reduceIte, or_self, Option.some.injEq, reduceCtorEq, if_true, if_false, true_and, and_true, exists_eq_left', exists_eq_left, Int.reduceLE, Int.reduceLT, Int.reduceToNat, List.getElem?_cons_succ, List.getElem?_cons_zero, Bool.false_eq_true, noStars, isStarE, List.all, Bool.not_false, Bool.not_true, Bool.and_self, isCallE, isTupE, isSliceE, forall_const, implies_true, Bool.or_self, ite_true, ite_false, List.length_cons, List.length_nil, Nat.reduceLeDiff, Int.reducePow, Nat.zero_add, Nat.reduceAdd, Nat.reduceBEq, decide_true, decide_false, Int.reduceNeg, Int.cast_ofNat_Int, Int.reduceBEq, beq_self_eq_true, dI_len, two_lim, bo_oa, bo_aa, imp_self, false_implies, kd0, kd1, kd2, kd3, kd4, kd5, kd6, kd7, kd8, kd9, kd10, kd11, kd12, kd13, kd14, kd15, kd16, kd17, kd18, kd19, kd20, kd21, kd22, kd23, kd24, kd25, kd26, kd27, mtL_str, lim, Int.reduceAdd, Int.reduceMul, ha, hn, f1, f5]
      refine ⟨IntMulOk.of_left (intBits_le_64 (by decide) (by decide)), ?_⟩
      exact ha' _ _ _ _ hsc (hn' _ _ _ _ hmost (at_pos _ _) hK)
    obtain ⟨ms, hms, hml, hmb⟩ : ∃ ns : List Int, [] ++ (List.range O).map (fun k : Nat => D.int (numV (atV sc (5 + 4 * i + k)) most)) = dI ns ∧ ns.length = O ∧ ∀ a ∈ ns, a.natAbs ≤ 10 ^ 26 :=
      ⟨(List.range O).map fun k : Nat => numV (atV sc (5 + 4 * i + k)) most, by simp [dI], by simp, fun a h => by
        obtain ⟨k, _, rfl⟩ := List.mem_map.mp h
        exact num_big hmost (at_pos _ _)⟩
    rw [hms]
    simp only [gl_l, gl_c, gl_f, gl_g, own_l, own_c, nm_l, nm_c, nm_f, nm_g, upd_str, lk_str, call_n, call_s, e_none, e_bool, e_int, e_str, e_name, e_boolop, e_bin, e_un, e_cmp, e_call, e_meth0, e_meth1, e_slice, e_itemC, e_itemN, e_itemB, e_itemS, e_tup, e_list, e_comp0, e_comp1, es_nil, es_cons, o_none, o_some, b_one, b_two, c_one, c_two, t_not, t_bool, t_cmp, t_call, a_nil, a_cons, i_zip, i_range, i_enum, i_call, i_name, i_sub, i_list, s_expr, s_asgN, s_asgT, s_asgS, s_if, s_for, s_ret, ss_nil, th_next, th_ret, fin_ret, tg_name, tg_two, x_add, x_sub, x_mul, x_div, x_mod, x_pow, x_addT, x_addL, x_mulL, x_neg, x_not, x_lt, x_le, x_gt, x_ge, x_eq, x_ne, x_eqS, x_neS, tr_bool, mk_f, mk_t, sa_af, sa_at, sa_of, sa_ot, it_list, it_tup, ic_zip_tl, ic_range1, ic_range2, p_int, p_tup, p_list, blt1, blt2, blt3, blt4, blt5, blt6, blt7, me_append, me_extend, me_index, ns_nil, bind_nil, bind_cons, b_len, b_isinstance, b_list, b_tuple, b_sum, ti_ii, ti_ib, ti_tt, hide_false, back_false, wItem_lit, seqD_tup, seqD_list, lstD_list, String.reduceEq, ↓reduceIte, or_self, Option.some.injEq, reduceCtorEq, if_true, if_false, true_and, and_true, exists_eq_left', exists_eq_left, Int.reduceLE, Int.reduceLT, Int.reduceToNat, List.getElem?_cons_succ, List.getElem?_cons_zero, Bool.false_eq_true, noStars, isStarE, List.all, Bool.not_false, Bool.not_true, Bool.and_self, isCallE, isTupE, isSliceE, forall_const, implies_true, Bool.or_self, ite_true, ite_false, List.length_cons, List.length_nil, Nat.reduceLeDiff, Int.reducePow, Nat.zero_add, Nat.reduceAdd, Nat.reduceBEq, decide_true, decide_false, Int.reduceNeg, Int.cast_ofNat_Int, Int.reduceBEq, beq_self_eq_true, dI_len, two_lim, bo_oa, bo_aa, imp_self, false_implies, kd0, kd1, kd2, kd3, kd4, kd5, kd6, kd7, kd8, kd9, kd10, kd11, kd12, kd13, kd14, kd15, kd16, kd17, kd18, kd19, kd20, kd21, kd22, kd23, kd24, kd25, kd26, kd27, mtL_str, lim, Int.reduceAdd, Int.reduceMul, hml]
    refine ⟨by omega, ?_⟩
    rw [wSs_cons]
    simp only [gl_l, gl_c, gl_f, gl_g, own_l, own_c, nm_l, nm_c, nm_f, nm_g, upd_str, lk_str, call_n, call_s, e_none, e_bool, e_int, e_str, e_name, e_boolop, e_bin, e_un, e_cmp, e_call, e_meth0, e_meth1, e_slice, e_itemC, e_itemN, e_itemB, e_itemS, e_tup, e_list, e_comp0, e_comp1, es_nil, es_cons, o_none, o_some, b_one, b_two, c_one, c_two, t_not, t_bool, t_cmp, t_call, a_nil, a_cons, i_zip, i_range, i_enum, i_call, i_name, i_sub, i_list, s_expr, s_asgN, s_asgT, s_asgS, s_if, s_for, s_ret, ss_nil, th_next, th_ret, fin_ret, tg_name, tg_two, x_add, x_sub, x_mul, x_div, x_mod, x_pow, x_addT, x_addL, x_mulL, x_neg, x_not, x_lt, x_le, x_gt, x_ge, x_eq, x_ne, x_eqS, x_neS, tr_bool, mk_f, mk_t, sa_af, sa_at, sa_of, sa_ot, it_list, it_tup, ic_zip_tl, ic_range1, ic_range2, p_int, p_tup, p_list, blt1, blt2, blt3, blt4, blt5, blt6, blt7, me_append, me_extend, me_index, ns_nil, bind_nil, bind_cons, b_len, b_isinstance, b_list, b_tuple, b_sum, ti_ii, ti_ib, ti_tt, hide_false, back_false, wItem_lit, seqD_tup, seqD_list, lstD_list, String.reduceEq, ↓reduceIte, or_self, Option.some.injEq, reduceCtorEq, if_true, if_false, true_and, and_true, exists_eq_left', exists_eq_left, Int.reduceLE, Int.reduceLT, Int.reduceToNat, List.getElem?_cons_succ, List.getElem?_cons_zero, Bool.false_eq_true, noStars, isStarE, List.all, Bool.not_false, Bool.not_true, Bool.and_self, isCallE, isTupE, isSliceE, forall_const, implies_true, Bool.or_self, ite_true, ite_false, List.length_cons, List.length_nil, Nat.reduceLeDiff, Int.reducePow, Nat.zero_add, Nat.reduceAdd, Nat.reduceBEq, decide_true, decide_false, Int.reduceNeg, Int.cast_ofNat_Int, Int.reduceBEq, beq_self_eq_true, dI_len, two_lim, bo_oa, bo_aa, imp_self, false_implies, kd0, kd1, kd2, kd3, kd4, kd5, kd6, kd7, kd8, kd9, kd10, kd11, kd12, kd13, kd14, kd15, kd16, kd17, kd18, kd19, kd20, kd21, kd22, kd23, kd24, kd25, kd26, kd27, mtL_str, lim, Int.reduceAdd, Int.reduceMul, F.b2, ha, hn, f1, f5, f7, lstD_alloc, Option.isSome_some, hml]
    refine ⟨by omega, IntMulOk.of_left (intBits_le_64 (by decide) (by decide)), ha' _ _ _ _ hsc (hn' _ _ _ _ hmost (at_pos _ _) ?_)⟩
    have heb := num_big hmost (at_pos sc (8 + 4 * i))
    generalize numV (atV sc (8 + 4 * i)) most = e at heb ⊢
    rw [m_append]
    refine ⟨_, alloc_cs _ _, by rw [List.length_map, hbl]; omega, ?_⟩
    rw [alloc_put]
    simp only [wSs]
    refine hK _ _ ⟨bx ++ [(ms, e)], by simp [hbl], fun b hb => ?_, by simp [boxD], ?_, ?_, ?_, ?_, ?_, ?_, ?_⟩
    · rcases List.mem_append.mp hb with hb | hb
      · exact hbb b hb
      · rw [List.mem_singleton.mp hb]; exact ⟨hml, heb, hmb⟩
    · simp only [gl_l, gl_c, gl_f, gl_g, own_l, own_c, nm_l, nm_c, nm_f, nm_g, upd_str, lk_str, call_n, call_s, e_none, e_bool, e_int, e_str, e_name, e_boolop, e_bin, e_un, e_cmp, e_call, e_meth0, e_meth1, e_slice, e_itemC, e_itemN, e_itemB, e_itemS, e_tup, e_list, e_comp0, e_comp1, es_nil, es_cons, o_none, o_some, b_one, b_two, c_one, c_two, t_not, t_bool, t_cmp, t_call, a_nil, a_cons, i_zip, i_range, i_enum, i_call, i_name, i_sub, i_list, s_expr, s_asgN, s_asgT, s_asgS, s_if, s_for, s_ret, ss_nil, th_next, th_ret, fin_ret, tg_name, tg_two, x_add, x_sub, x_mul, x_div, x_mod, x_pow, x_addT, x_addL, x_mulL, x_neg, x_not, x_lt, x_le, x_gt, x_ge, x_eq, x_ne, x_eqS, x_neS, tr_bool, mk_f, mk_t, sa_af, sa_at, sa_of, sa_ot, it_list, it_tup, ic_zip_tl, ic_range1, ic_range2, p_int, p_tup, p_list, blt1, blt2, blt3, blt4, blt5, blt6, blt7, me_append, me_extend, me_index, ns_nil, bind_nil, bind_cons, b_len, b_isinstance, b_list, b_tuple, b_sum, ti_ii, ti_ib, ti_tt, hide_false, back_false, wItem_lit, seqD_tup, seqD_list, lstD_list, String.reduceEq, ↓reduceIte, or_self, Option.some.injEq, reduceCtorEq, if_true, if_false, true_and, and_true, exists_eq_left', exists_eq_left, Int.reduceLE, Int.reduceLT, Int.reduceToNat, List.getElem?_cons_succ, List.getElem?_cons_zero, Bool.false_eq_true, noStars, isStarE, List.all, Bool.not_false, Bool.not_true, Bool.and_self, isCallE, isTupE, isSliceE, forall_const, implies_true, Bool.or_self, ite_true, ite_false, List.length_cons, List.length_nil, Nat.reduceLeDiff, Int.reducePow, Nat.zero_add, Nat.reduceAdd, Nat.reduceBEq, decide_true, decide_false, Int.reduceNeg, Int.cast_ofNat_Int, Int.reduceBEq, beq_self_eq_true, dI_len, two_lim, bo_oa, bo_aa, imp_self, false_implies, kd0, kd1, kd2, kd3, kd4, kd5, kd6, kd7, kd8, kd9, kd10, kd11, kd12, kd13, kd14, kd15, kd16, kd17, kd18, kd19, kd20, kd21, kd22, kd23, kd24, kd25, kd26, kd27, mtL_str, lim, Int.reduceAdd, Int.reduceMul, f1]
    · simp only [gl_l, gl_c, gl_f, gl_g, own_l, own_c, nm_l, nm_c, nm_f, nm_g, upd_str, lk_str, call_n, call_s, e_none, e_bool, e_int, e_str, e_name, e_boolop, e_bin, e_un, e_cmp, e_call, e_meth0, e_meth1, e_slice, e_itemC, e_itemN, e_itemB, e_itemS, e_tup, e_list, e_comp0, e_comp1, es_nil, es_cons, o_none, o_some, b_one, b_two, c_one, c_two, t_not, t_bool, t_cmp, t_call, a_nil, a_cons, i_zip, i_range, i_enum, i_call, i_name, i_sub, i_list, s_expr, s_asgN, s_asgT, s_asgS, s_if, s_for, s_ret, ss_nil, th_next, th_ret, fin_ret, tg_name, tg_two, x_add, x_sub, x_mul, x_div, x_mod, x_pow, x_addT, x_addL, x_mulL, x_neg, x_not, x_lt, x_le, x_gt, x_ge, x_eq, x_ne, x_eqS, x_neS, tr_bool, mk_f, mk_t, sa_af, sa_at, sa_of, sa_ot, it_list, it_tup, ic_zip_tl, ic_range1, ic_range2, p_int, p_tup, p_list, blt1, blt2, blt3, blt4, blt5, blt6, blt7, me_append, me_extend, me_index, ns_nil, bind_nil, bind_cons, b_len, b_isinstance, b_list, b_tuple, b_sum, ti_ii, ti_ib, ti_tt, hide_false, back_false, wItem_lit, seqD_tup, seqD_list, lstD_list, String.reduceEq, ↓reduceIte, or_self, Option.some.injEq, reduceCtorEq, if_true, if_false, true_and, and_true, exists_eq_left', exists_eq_left, Int.reduceLE, Int.reduceLT, Int.reduceToNat, List.getElem?_cons_succ, List.getElem?_cons_zero, Bool.false_eq_true, noStars, isStarE, List.all, Bool.not_false, Bool.not_true, Bool.and_self, isCallE, isTupE, isSliceE, forall_const, implies_true, Bool.or_self, ite_true, ite_false, List.length_cons, List.length_nil, Nat.reduceLeDiff, Int.reducePow, Nat.zero_add, Nat.reduceAdd, Nat.reduceBEq, decide_true, decide_false, Int.reduceNeg, Int.cast_ofNat_Int, Int.reduceBEq, beq_self_eq_true, dI_len, two_lim, bo_oa, bo_aa, imp_self, false_implies, kd0, kd1, kd2, kd3, kd4, kd5, kd6, kd7, kd8, kd9, kd10, kd11, kd12, kd13, kd14, kd15, kd16, kd17, kd18, kd19, kd20, kd21, kd22, kd23, kd24, kd25, kd26, kd27, mtL_str, lim, Int.reduceAdd, Int.reduceMul, f2]
    · simp only [gl_l, gl_c, gl_f, gl_g, own_l, own_c, nm_l, nm_c, nm_f, nm_g, upd_str, lk_str, call_n, call_s, e_none, e_bool, e_int, e_str, e_name, e_boolop, e_bin, e_un, e_cmp, e_call, e_meth0, e_meth1, e_slice, e_itemC, e_itemN, e_itemB, e_itemS, e_tup, e_list, e_comp0, e_comp1, es_nil, es_cons, o_none, o_some, b_one, b_two, c_one, c_two, t_not, t_bool, t_cmp, t_call, a_nil, a_cons, i_zip, i_range, i_enum, i_call, i_name, i_sub, i_list, s_expr, s_asgN, s_asgT, s_asgS, s_if, s_for, s_ret, ss_nil, th_next, th_ret, fin_ret, tg_name, tg_two, x_add, x_sub, x_mul, x_div, x_mod, x_pow, x_addT, x_addL, x_mulL, x_neg, x_not, x_lt, x_le, x_gt, x_ge, x_eq, x_ne, x_eqS, x_neS, tr_bool, mk_f, mk_t, sa_af, sa_at, sa_of, sa_ot, it_list, it_tup, ic_zip_tl, ic_range1, ic_range2, p_int, p_tup, p_list, blt1, blt2, blt3, blt4, blt5, blt6, blt7, me_append, me_extend, me_index, ns_nil, bind_nil, bind_cons, b_len, b_isinstance, b_list, b_tuple, b_sum, ti_ii, ti_ib, ti_tt, hide_false, back_false, wItem_lit, seqD_tup, seqD_list, lstD_list, String.reduceEq, ↓reduceIte, or_self, Option.some.injEq, reduceCtorEq, if_true, if_false, true_and, and_true, exists_eq_left', exists_eq_left, Int.reduceLE, Int.reduceLT, Int.reduceToNat, List.getElem?_cons_succ, List.getElem?_cons_zero, Bool.false_eq_true, noStars, isStarE, List.all, Bool.not_false, Bool.not_true, Bool.and_self, isCallE, isTupE, isSliceE, forall_const, implies_true, Bool.or_self, ite_true, ite_false, List.length_cons, List.length_nil, Nat.reduceLeDiff, Int.reducePow, Nat.zero_add, Nat.reduceAdd, Nat.reduceBEq, decide_true, decide_false, Int.reduceNeg, Int.cast_ofNat_Int, Int.reduceBEq, beq_self_eq_true, dI_len, two_lim, bo_oa, bo_aa, imp_self, false_implies, kd0, kd1, kd2, kd3, kd4, kd5, kd6, kd7, kd8, kd9, kd10, kd11, kd12, kd13, kd14, kd15, kd16, kd17, kd18, kd19, kd20, kd21, kd22, kd23, kd24, kd25, kd26, kd27, mtL_str, lim, Int.reduceAdd, Int.reduceMul, f3]
    · simp only [gl_l, gl_c, gl_f, gl_g, own_l, own_c, nm_l, nm_c, nm_f, nm_g, upd_str, lk_str, call_n, call_s, e_none, e_bool, e_int, e_str, e_name, e_boolop, e_bin, e_un, e_cmp, e_call, e_meth0, e_meth1, e_slice, e_itemC, e_itemN, e_itemB, e_itemS, e_tup, e_list, e_comp0, e_comp1, es_nil, es_cons, o_none, o_some, b_one, b_two, c_one, c_two, t_not, t_bool, t_cmp, t_call, a_nil, a_cons, i_zip, i_range, i_enum, i_call, i_name, i_sub, i_list, s_expr, s_asgN, s_asgT, s_asgS, s_if, s_for, s_ret, ss_nil, th_next, th_ret, fin_ret, tg_name, tg_two, x_add, x_sub, x_mul, x_div, x_mod, x_pow, x_addT, x_addL, x_mulL, x_neg, x_not, x_lt, x_le, x_gt, x_ge, x_eq, x_ne, x_eqS, x_neS, tr_bool, mk_f, mk_t, sa_af, sa_at, sa_of, sa_ot, it_list, it_tup, ic_zip_tl, ic_range1, ic_range2, p_int, p_tup, p_list, blt1, blt2, blt3, blt4, blt5, blt6, blt7, me_append, me_extend, me_index, ns_nil, bind_nil, bind_cons, b_len, b_isinstance, b_list, b_tuple, b_sum, ti_ii, ti_ib, ti_tt, hide_false, back_false, wItem_lit, seqD_tup, seqD_list, lstD_list, String.reduceEq, ↓reduceIte, or_self, Option.some.injEq, reduceCtorEq, if_true, if_false, true_and, and_true, exists_eq_left', exists_eq_left, Int.reduceLE, Int.reduceLT, Int.reduceToNat, List.getElem?_cons_succ, List.getElem?_cons_zero, Bool.false_eq_true, noStars, isStarE, List.all, Bool.not_false, Bool.not_true, Bool.and_self, isCallE, isTupE, isSliceE, forall_const, implies_true, Bool.or_self, ite_true, ite_false, List.length_cons, List.length_nil, Nat.reduceLeDiff, Int.reducePow, Nat.zero_add, Nat.reduceAdd, Nat.reduceBEq, decide_true, decide_false, Int.reduceNeg, Int.cast_ofNat_Int, Int.reduceBEq, beq_self_eq_true, dI_len, two_lim, bo_oa, bo_aa, imp_self, false_implies, kd0, kd1, kd2, kd3, kd4, kd5, kd6, kd7, kd8, kd9, kd10, kd11, kd12, kd13, kd14, kd15, kd16, kd17, kd18, kd19, kd20, kd21, kd22, kd23, kd24, kd25, kd26, kd27, mtL_str, lim, Int.reduceAdd, Int.reduceMul, f4]
    · simp only [gl_l, gl_c, gl_f, gl_g, own_l, own_c, nm_l, nm_c, nm_f, nm_g, upd_str, lk_str, call_n, call_s, e_none, e_bool, e_int, e_str, e_name, e_boolop, e_bin, e_un, e_cmp, e_call, e_meth0, e_meth1, e_slice, e_itemC, e_itemN, e_itemB, e_itemS, e_tup, e_list, e_comp0, e_comp1, es_nil, es_cons, o_none, o_some, b_one, b_two, c_one, c_two, t_not, t_bool, t_cmp, t_call, a_nil, a_cons, i_zip, i_range, i_enum, i_call, i_name, i_sub, i_list, s_expr, s_asgN, s_asgT, s_asgS, s_if, s_for, s_ret, ss_nil, th_next, th_ret, fin_ret, tg_name, tg_two, x_add, x_sub, x_mul, x_div, x_mod, x_pow, x_addT, x_addL, x_mulL, x_neg, x_not, x_lt, x_le, x_gt, x_ge, x_eq, x_ne, x_eqS, x_neS, tr_bool, mk_f, mk_t, sa_af, sa_at, sa_of, sa_ot, it_list, it_tup, ic_zip_tl, ic_range1, ic_range2, p_int, p_tup, p_list, blt1, blt2, blt3, blt4, blt5, blt6, blt7, me_append, me_extend, me_index, ns_nil, bind_nil, bind_cons, b_len, b_isinstance, b_list, b_tuple, b_sum, ti_ii, ti_ib, ti_tt, hide_false, back_false, wItem_lit, seqD_tup, seqD_list, lstD_list, String.reduceEq, ↓reduceIte, or_self, Option.some.injEq, reduceCtorEq, if_true, if_false, true_and, and_true, exists_eq_left', exists_eq_left, Int.reduceLE, Int.reduceLT, Int.reduceToNat, List.getElem?_cons_succ, List.getElem?_cons_zero, Bool.false_eq_true, noStars, isStarE, List.all, Bool.not_false, Bool.not_true, Bool.and_self, isCallE, isTupE, isSliceE, forall_const, implies_true, Bool.or_self, ite_true, ite_false, List.length_cons, List.length_nil, Nat.reduceLeDiff, Int.reducePow, Nat.zero_add, Nat.reduceAdd, Nat.reduceBEq, decide_true, decide_false, Int.reduceNeg, Int.cast_ofNat_Int, Int.reduceBEq, beq_self_eq_true, dI_len, two_lim, bo_oa, bo_aa, imp_self, false_implies, kd0, kd1, kd2, kd3, kd4, kd5, kd6, kd7, kd8, kd9, kd10, kd11, kd12, kd13, kd14, kd15, kd16, kd17, kd18, kd19, kd20, kd21, kd22, kd23, kd24, kd25, kd26, kd27, mtL_str, lim, Int.reduceAdd, Int.reduceMul, f5]
    · simp only [gl_l, gl_c, gl_f, gl_g, own_l, own_c, nm_l, nm_c, nm_f, nm_g, upd_str, lk_str, call_n, call_s, e_none, e_bool, e_int, e_str, e_name, e_boolop, e_bin, e_un, e_cmp, e_call, e_meth0, e_meth1, e_slice, e_itemC, e_itemN, e_itemB, e_itemS, e_tup, e_list, e_comp0, e_comp1, es_nil, es_cons, o_none, o_some, b_one, b_two, c_one, c_two, t_not, t_bool, t_cmp, t_call, a_nil, a_cons, i_zip, i_range, i_enum, i_call, i_name, i_sub, i_list, s_expr, s_asgN, s_asgT, s_asgS, s_if, s_for, s_ret, ss_nil, th_next, th_ret, fin_ret, tg_name, tg_two, x_add, x_sub, x_mul, x_div, x_mod, x_pow, x_addT, x_addL, x_mulL, x_neg, x_not, x_lt, x_le, x_gt, x_ge, x_eq, x_ne, x_eqS, x_neS, tr_bool, mk_f, mk_t, sa_af, sa_at, sa_of, sa_ot, it_list, it_tup, ic_zip_tl, ic_range1, ic_range2, p_int, p_tup, p_list, blt1, blt2, blt3, blt4, blt5, blt6, blt7, me_append, me_extend, me_index, ns_nil, bind_nil, bind_cons, b_len, b_isinstance, b_list, b_tuple, b_sum, ti_ii, ti_ib, ti_tt, hide_false, back_false, wItem_lit, seqD_tup, seqD_list, lstD_list, String.reduceEq, ↓reduceIte, or_self, Option.some.injEq, reduceCtorEq, if_true, if_false, true_and, and_true, exists_eq_left', exists_eq_left, Int.reduceLE, Int.reduceLT, Int.reduceToNat, List.getElem?_cons_succ, List.getElem?_cons_zero, Bool.false_eq_true, noStars, isStarE, List.all, Bool.not_false, Bool.not_true, Bool.and_self, isCallE, isTupE, isSliceE, forall_const, implies_true, Bool.or_self, ite_true, ite_false, List.length_cons, List.length_nil, Nat.reduceLeDiff, Int.reducePow, Nat.zero_add, Nat.reduceAdd, Nat.reduceBEq, decide_true, decide_false, Int.reduceNeg, Int.cast_ofNat_Int, Int.reduceBEq, beq_self_eq_true, dI_len, two_lim, bo_oa, bo_aa, imp_self, false_implies, kd0, kd1, kd2, kd3, kd4, kd5, kd6, kd7, kd8, kd9, kd10, kd11, kd12, kd13, kd14, kd15, kd16, kd17, kd18, kd19, kd20, kd21, kd22, kd23, kd24, kd25, kd26, kd27, mtL_str, lim, Int.reduceAdd, Int.reduceMul, f6]
    · simp only [gl_l, gl_c, gl_f, gl_g, own_l, own_c, nm_l, nm_c, nm_f, nm_g, upd_str, lk_str, call_n, call_s, e_none, e_bool, e_int, e_str, e_name, e_boolop, e_bin, e_un, e_cmp, e_call, e_meth0, e_meth1, e_slice, e_itemC, e_itemN, e_itemB, e_itemS, e_tup, e_list, e_comp0, e_comp1, es_nil, es_cons, o_none, o_some, b_one, b_two, c_one, c_two, t_not, t_bool, t_cmp, t_call, a_nil, a_cons, i_zip, i_range, i_enum, i_call, i_name, i_sub, i_list, s_expr, s_asgN, s_asgT, s_asgS, s_if, s_for, s_ret, ss_nil, th_next, th_ret, fin_ret, tg_name, tg_two, x_add, x_sub, x_mul, x_div, x_mod, x_pow, x_addT, x_addL, x_mulL, x_neg, x_not, x_lt, x_le, x_gt, x_ge, x_eq, x_ne, x_eqS, x_neS, tr_bool, mk_f, mk_t, sa_af, sa_at, sa_of, sa_ot, it_list, it_tup, ic_zip_tl, ic_range1, ic_range2, p_int, p_tup, p_list, blt1, blt2, blt3, blt4, blt5, blt6, blt7, me_append, me_extend, me_index, ns_nil, bind_nil, bind_cons, b_len, b_isinstance, b_list, b_tuple, b_sum, ti_ii, ti_ib, ti_tt, hide_false, back_false, wItem_lit, seqD_tup, seqD_list, lstD_list, String.reduceEq, ↓reduceIte, or_self, Option.some.injEq, reduceCtorEq, if_true, if_false, true_and, and_true, exists_eq_left', exists_eq_left, Int.reduceLE, Int.reduceLT, Int.reduceToNat, List.getElem?_cons_succ, List.getElem?_cons_zero, Bool.false_eq_true, noStars, isStarE, List.all, Bool.not_false, Bool.not_true, Bool.and_self, isCallE, isTupE, isSliceE, forall_const, implies_true, Bool.or_self, ite_true, ite_false, List.length_cons, List.length_nil, Nat.reduceLeDiff, Int.reducePow, Nat.zero_add, Nat.reduceAdd, Nat.reduceBEq, decide_true, decide_false, Int.reduceNeg, Int.cast_ofNat_Int, Int.reduceBEq, beq_self_eq_true, dI_len, two_lim, bo_oa, bo_aa, imp_self, false_implies, kd0, kd1, kd2, kd3, kd4, kd5, kd6, kd7, kd8, kd9, kd10, kd11, kd12, kd13, kd14, kd15, kd16, kd17, kd18, kd19, kd20, kd21, kd22, kd23, kd24, kd25, kd26, kd27, mtL_str, lim, Int.reduceAdd, Int.reduceMul, f7]
  rintro m' st' ⟨bx, hbl, hbb, rfl, f1, f2, f3, f4, f5, f6, f7⟩
  rw [List.nil_append, rangeN_len] at hbl
  obtain ⟨most2, hmost2, hmi2⟩ : ∃ most : Int, (most = 0 ∨ (0 < most ∧ most ≤ 99)) ∧ ∀ st Q, Q (.int most) st → wItem (.list [.int 9, .int 0]) (.int (cell / 36 % 2)) st Q := by
    have : cell / 36 % 2 = 0 ∨ cell / 36 % 2 = 1 := by omega
    rcases this with e | e <;> rw [e]
    · exact ⟨9, by omega, fun st Q h => by rw [wItem_lit (by omega) (by omega)]; exact ⟨_, rfl, _, rfl, h⟩⟩
    · exact ⟨0, by omega, fun st Q h => by rw [wItem_lit (by omega) (by omega)]; exact ⟨_, rfl, _, rfl, h⟩⟩
  rw [th_next, wSs_cons]
  simp only [gl_l, gl_c, gl_f, gl_g, own_l, own_c, nm_l, nm_c, nm_f, nm_g, upd_str, lk_str, call_n, call_s, e_none, e_bool, e_int, e_str, e_name, e_boolop, e_bin, e_un, e_cmp, e_call, e_meth0, e_meth1, e_slice, e_itemC, e_itemN, e_itemB, e_itemS, e_tup, e_list, e_comp0, e_comp1, es_nil, es_cons, o_none, o_some, b_one, b_two, c_one, c_two, t_not, t_bool, t_cmp, t_call, a_nil, a_cons, i_zip, i_range, i_enum, i_call, i_name, i_sub, i_list, s_expr, s_asgN, s_asgT, s_asgS, s_if, s_for, s_ret, ss_nil, th_next, th_ret, fin_ret, tg_name, tg_two, x_add, x_sub, x_mul, x_div, x_mod, x_pow, x_addT, x_addL, x_mulL, x_neg, x_not, x_lt, x_le, x_gt, x_ge, x_eq, x_ne, x_eqS, x_neS, tr_bool, mk_f, mk_t, sa_af, sa_at, sa_of, sa_ot, it_list, it_tup, ic_zip_tl, ic_range1, ic_range2, p_int, p_tup, p_list, blt1, blt2, blt3, blt4, blt5, blt6, blt7, me_append, me_extend, me_index, ns_nil, bind_nil, bind_cons, b_len, b_isinstance, b_list, b_tuple, b_sum, ti_ii, ti_ib, ti_tt, hide_false, back_false, wItem_lit, seqD_tup, seqD_list, lstD_list, String.reduceEq, ↓reduceIte, or_self, Option.some.injEq, reduceCtorEq, if_true, if_false, true_and, and_true, exists_eq_left', exists_eq_left, Int.reduceLE, Int.reduceLT, Int.reduceToNat, List.getElem?_cons_succ, List.getElem?_cons_zero, Bool.false_eq_true, noStars, isStarE, List.all, Bool.not_false, Bool.not_true, Bool.and_self, isCallE, isTupE, isSliceE, forall_const, implies_true, Bool.or_self, ite_true, ite_false, List.length_cons, List.length_nil, Nat.reduceLeDiff, Int.reducePow, Nat.zero_add, Nat.reduceAdd, Nat.reduceBEq, decide_true, decide_false, Int.reduceNeg, Int.cast_ofNat_Int, Int.reduceBEq, beq_self_eq_true, dI_len, two_lim, bo_oa, bo_aa, imp_self, false_implies, kd0, kd1, kd2, kd3, kd4, kd5, kd6, kd7, kd8, kd9, kd10, kd11, kd12, kd13, kd14, kd15, kd16, kd17, kd18, kd19, kd20, kd21, kd22, kd23, kd24, kd25, kd26, kd27, mtL_str, lim, Int.reduceAdd, Int.reduceMul, F.b1, f1, f2, f3, f4, f5, f6, f7]
  refine ⟨by simp [ScopeOk, ofString_inj, kd0, kd1, kd2, kd3, kd4, kd5, kd6, kd7, kd8, kd9, kd10, kd11, kd12, kd13, kd14, kd15, kd16, kd17, kd18, kd19, kd20, kd21, kd22, kd23, kd24, kd25, kd26, kd27, lk_str], by omega, by omega, ?_⟩
  rw [rangeN_map]
  refine wComp_list (α := Nat) _ (fun k => .int (numV (atV sc (20 + k)) most2)) _ [] (fun k hk K hK => ?_) ?_
  · simp only [gl_l, gl_c, gl_f, gl_g, own_l, own_c, nm_l, nm_c, nm_f, nm_g, upd_str, lk_str, call_n, call_s, e_none, e_bool, e_int, e_str, e_name, e_boolop, e_bin, e_un, e_cmp, e_call, e_meth0, e_meth1, e_slice, e_itemC, e_itemN, e_itemB, e_itemS, e_tup, e_list, e_comp0, e_comp1, es_nil, es_cons, o_none, o_some, b_one, b_two, c_one, c_two, t_not, t_bool, t_cmp, t_call, a_nil, a_cons, i_zip, i_range, i_enum, i_call, i_name, i_sub, i_list, s_expr, s_asgN, s_asgT, s_asgS, s_if, s_for, s_ret, ss_nil, th_next, th_ret, fin_ret, tg_name, tg_two, x_add, x_sub, x_mul, x_div, x_mod, x_pow, x_addT, x_addL, x_mulL, x_neg, x_not, x_lt, x_le, x_gt, x_ge, x_eq, x_ne, x_eqS, x_neS, tr_bool, mk_f, mk_t, sa_af, sa_at, sa_of, sa_ot, it_list, it_tup, ic_zip_tl, ic_range1, ic_range2, p_int, p_tup, p_list, blt1, blt2, blt3, blt4, blt5, blt6, blt7, me_append, me_extend, me_index, ns_nil, bind_nil, bind_cons, b_len, b_isinstance, b_list, b_tuple, b_sum, ti_ii, ti_ib, ti_tt, hide_false, back_false, wItem_lit, seqD_tup, seqD_list, lstD_list, String.reduceEq, ↓reduceIte, or_self, Option.some.injEq, reduceCtorEq, if_true, if_false, true_and, and_true, exists_eq_left', exists_eq_left, Int.reduceLE, Int.reduceLT, Int.reduceToNat, List.getElem?_cons_succ, List.getElem?_cons_zero, Bool.false_eq_true, noStars, isStarE, List.all, Bool.not_false, Bool.not_true, Bool.and_self, isCallE, isTupE, isSliceE, forall_const, implies_true, Bool.or_self, ite_true, ite_false, List.length_cons, List.length_nil, Nat.reduceLeDiff, Int.reducePow, Nat.zero_add, Nat.reduceAdd, Nat.reduceBEq, decide_true, decide_false, Int.reduceNeg, Int.cast_ofNat_Int, Int.reduceBEq, beq_self_eq_true, dI_len, two_lim, bo_oa, bo_aa, imp_self, false_implies, kd0, kd1, kd2, kd3, kd4, kd5, kd6, kd7, kd8, kd9, kd10, kd11, kd12, kd13, kd14, kd15, kd16, kd17, kd18, kd19, kd20, kd21, kd22, kd23, kd24, kd25, kd26, kd27, mtL_str, lim, Int.reduceAdd, Int.reduceMul, ha, hn, f1, f2]
    exact ha' _ _ _ _ hsc (hmi2 _ _ (hn' _ _ _ _ hmost2 (at_pos _ _) hK))
  obtain ⟨fl, hfl, hfll, hflb⟩ : ∃ ns : List Int, [] ++ (List.range O).map (fun k : Nat => D.int (numV (atV sc (20 + k)) most2)) = dI ns ∧ ns.length = O ∧ ∀ a ∈ ns, a.natAbs ≤ 10 ^ 26 :=
    ⟨(List.range O).map fun k : Nat => numV (atV sc (20 + k)) most2, by simp [dI], by simp, fun a h => by
      obtain ⟨k, _, rfl⟩ := List.mem_map.mp h
      exact num_big hmost2 (at_pos _ _)⟩
  rw [hfl]
  simp only [gl_l, gl_c, gl_f, gl_g, own_l, own_c, nm_l, nm_c, nm_f, nm_g, upd_str, lk_str, call_n, call_s, e_none, e_bool, e_int, e_str, e_name, e_boolop, e_bin, e_un, e_cmp, e_call, e_meth0, e_meth1, e_slice, e_itemC, e_itemN, e_itemB, e_itemS, e_tup, e_list, e_comp0, e_comp1, es_nil, es_cons, o_none, o_some, b_one, b_two, c_one, c_two, t_not, t_bool, t_cmp, t_call, a_nil, a_cons, i_zip, i_range, i_enum, i_call, i_name, i_sub, i_list, s_expr, s_asgN, s_asgT, s_asgS, s_if, s_for, s_ret, ss_nil, th_next, th_ret, fin_ret, tg_name, tg_two, x_add, x_sub, x_mul, x_div, x_mod, x_pow, x_addT, x_addL, x_mulL, x_neg, x_not, x_lt, x_le, x_gt, x_ge, x_eq, x_ne, x_eqS, x_neS, tr_bool, mk_f, mk_t, sa_af, sa_at, sa_of, sa_ot, it_list, it_tup, ic_zip_tl, ic_range1, ic_range2, p_int, p_tup, p_list, blt1, blt2, blt3, blt4, blt5, blt6, blt7, me_append, me_extend, me_index, ns_nil, bind_nil, bind_cons, b_len, b_isinstance, b_list, b_tuple, b_sum, ti_ii, ti_ib, ti_tt, hide_false, back_false, wItem_lit, seqD_tup, seqD_list, lstD_list, String.reduceEq, ↓reduceIte, or_self, Option.some.injEq, reduceCtorEq, if_true, if_false, true_and, and_true, exists_eq_left', exists_eq_left, Int.reduceLE, Int.reduceLT, Int.reduceToNat, List.getElem?_cons_succ, List.getElem?_cons_zero, Bool.false_eq_true, noStars, isStarE, List.all, Bool.not_false, Bool.not_true, Bool.and_self, isCallE, isTupE, isSliceE, forall_const, implies_true, Bool.or_self, ite_true, ite_false, List.length_cons, List.length_nil, Nat.reduceLeDiff, Int.reducePow, Nat.zero_add, Nat.reduceAdd, Nat.reduceBEq, decide_true, decide_false, Int.reduceNeg, Int.cast_ofNat_Int, Int.reduceBEq, beq_self_eq_true, dI_len, two_lim, bo_oa, bo_aa, imp_self, false_implies, kd0, kd1, kd2, kd3, kd4, kd5, kd6, kd7, kd8, kd9, kd10, kd11, kd12, kd13, kd14, kd15, kd16, kd17, kd18, kd19, kd20, kd21, kd22, kd23, kd24, kd25, kd26, kd27, mtL_str, lim, Int.reduceAdd, Int.reduceMul, hfll]
  refine ⟨by omega, ?_⟩
  -- handed
  rw [wSs_cons]
  simp only [gl_l, gl_c, gl_f, gl_g, own_l, own_c, nm_l, nm_c, nm_f, nm_g, upd_str, lk_str, call_n, call_s, e_none, e_bool, e_int, e_str, e_name, e_boolop, e_bin, e_un, e_cmp, e_call, e_meth0, e_meth1, e_slice, e_itemC, e_itemN, e_itemB, e_itemS, e_tup, e_list, e_comp0, e_comp1, es_nil, es_cons, o_none, o_some, b_one, b_two, c_one, c_two, t_not, t_bool, t_cmp, t_call, a_nil, a_cons, i_zip, i_range, i_enum, i_call, i_name, i_sub, i_list, s_expr, s_asgN, s_asgT, s_asgS, s_if, s_for, s_ret, ss_nil, th_next, th_ret, fin_ret, tg_name, tg_two, x_add, x_sub, x_mul, x_div, x_mod, x_pow, x_addT, x_addL, x_mulL, x_neg, x_not, x_lt, x_le, x_gt, x_ge, x_eq, x_ne, x_eqS, x_neS, tr_bool, mk_f, mk_t, sa_af, sa_at, sa_of, sa_ot, it_list, it_tup, ic_zip_tl, ic_range1, ic_range2, p_int, p_tup, p_list, blt1, blt2, blt3, blt4, blt5, blt6, blt7, me_append, me_extend, me_index, ns_nil, bind_nil, bind_cons, b_len, b_isinstance, b_list, b_tuple, b_sum, ti_ii, ti_ib, ti_tt, hide_false, back_false, wItem_lit, seqD_tup, seqD_list, lstD_list, String.reduceEq, ↓reduceIte, or_self, Option.some.injEq, reduceCtorEq, if_true, if_false, true_and, and_true, exists_eq_left', exists_eq_left, Int.reduceLE, Int.reduceLT, Int.reduceToNat, List.getElem?_cons_succ, List.getElem?_cons_zero, Bool.false_eq_true, noStars, isStarE, List.all, Bool.not_false, Bool.not_true, Bool.and_self, isCallE, isTupE, isSliceE, forall_const, implies_true, Bool.or_self, ite_true, ite_false, List.length_cons, List.length_nil, Nat.reduceLeDiff, Int.reducePow, Nat.zero_add, Nat.reduceAdd, Nat.reduceBEq, decide_true, decide_false, Int.reduceNeg, Int.cast_ofNat_Int, Int.reduceBEq, beq_self_eq_true, dI_len, two_lim, bo_oa, bo_aa, imp_self, false_implies, kd0, kd1, kd2, kd3, kd4, kd5, kd6, kd7, kd8, kd9, kd10, kd11, kd12, kd13, kd14, kd15, kd16, kd17, kd18, kd19, kd20, kd21, kd22, kd23, kd24, kd25, kd26, kd27, mtL_str, lim, Int.reduceAdd, Int.reduceMul, F.b3, f7, seqD_alloc, List.length_map, hbl, hfll]
  refine ⟨by omega, by omega, ?_⟩
  -- held
  rw [wSs_cons]
  simp only [gl_l, gl_c, gl_f, gl_g, own_l, own_c, nm_l, nm_c, nm_f, nm_g, upd_str, lk_str, call_n, call_s, e_none, e_bool, e_int, e_str, e_name, e_boolop, e_bin, e_un, e_cmp, e_call, e_meth0, e_meth1, e_slice, e_itemC, e_itemN, e_itemB, e_itemS, e_tup, e_list, e_comp0, e_comp1, es_nil, es_cons, o_none, o_some, b_one, b_two, c_one, c_two, t_not, t_bool, t_cmp, t_call, a_nil, a_cons, i_zip, i_range, i_enum, i_call, i_name, i_sub, i_list, s_expr, s_asgN, s_asgT, s_asgS, s_if, s_for, s_ret, ss_nil, th_next, th_ret, fin_ret, tg_name, tg_two, x_add, x_sub, x_mul, x_div, x_mod, x_pow, x_addT, x_addL, x_mulL, x_neg, x_not, x_lt, x_le, x_gt, x_ge, x_eq, x_ne, x_eqS, x_neS, tr_bool, mk_f, mk_t, sa_af, sa_at, sa_of, sa_ot, it_list, it_tup, ic_zip_tl, ic_range1, ic_range2, p_int, p_tup, p_list, blt1, blt2, blt3, blt4, blt5, blt6, blt7, me_append, me_extend, me_index, ns_nil, bind_nil, bind_cons, b_len, b_isinstance, b_list, b_tuple, b_sum, ti_ii, ti_ib, ti_tt, hide_false, back_false, wItem_lit, seqD_tup, seqD_list, lstD_list, String.reduceEq, ↓reduceIte, or_self, Option.some.injEq, reduceCtorEq, if_true, if_false, true_and, and_true, exists_eq_left', exists_eq_left, Int.reduceLE, Int.reduceLT, Int.reduceToNat, List.getElem?_cons_succ, List.getElem?_cons_zero, Bool.false_eq_true, noStars, isStarE, List.all, Bool.not_false, Bool.not_true, Bool.and_self, isCallE, isTupE, isSliceE, forall_const, implies_true, Bool.or_self, ite_true, ite_false, List.length_cons, List.length_nil, Nat.reduceLeDiff, Int.reducePow, Nat.zero_add, Nat.reduceAdd, Nat.reduceBEq, decide_true, decide_false, Int.reduceNeg, Int.cast_ofNat_Int, Int.reduceBEq, beq_self_eq_true, dI_len, two_lim, bo_oa, bo_aa, imp_self, false_implies, kd0, kd1, kd2, kd3, kd4, kd5, kd6, kd7, kd8, kd9, kd10, kd11, kd12, kd13, kd14, kd15, kd16, kd17, kd18, kd19, kd20, kd21, kd22, kd23, kd24, kd25, kd26, kd27, mtL_str, lim, Int.reduceAdd, Int.reduceMul, f7, alloc_cs, List.length_map, hbl]
  refine ⟨by simp [ScopeOk, ofString_inj, kd0, kd1, kd2, kd3, kd4, kd5, kd6, kd7, kd8, kd9, kd10, kd11, kd12, kd13, kd14, kd15, kd16, kd17, kd18, kd19, kd20, kd21, kd22, kd23, kd24, kd25, kd26, kd27, lk_str], bx.map boxD, alloc_cs _ _, by rw [List.length_map]; omega, ?_⟩
  have big26 : ∀ {a : Int}, a.natAbs ≤ 10 ^ 26 → Big a := fun h => Big.of h (by decide)
  have hbw : ∀ b ∈ bx, b.1.length = O := fun b hb => (hbb b hb).1
  refine wComp_list (α := List Int × Int) boxD (fun b => .int (b.2 + dot b.1 fl)) _ [] (fun b hb K hK => ?_) ?_
  · simp only [gl_l, gl_c, gl_f, gl_g, own_l, own_c, nm_l, nm_c, nm_f, nm_g, upd_str, lk_str, call_n, call_s, e_none, e_bool, e_int, e_str, e_name, e_boolop, e_bin, e_un, e_cmp, e_call, e_meth0, e_meth1, e_slice, e_itemC, e_itemN, e_itemB, e_itemS, e_tup, e_list, e_comp0, e_comp1, es_nil, es_cons, o_none, o_some, b_one, b_two, c_one, c_two, t_not, t_bool, t_cmp, t_call, a_nil, a_cons, i_zip, i_range, i_enum, i_call, i_name, i_sub, i_list, s_expr, s_asgN, s_asgT, s_asgS, s_if, s_for, s_ret, ss_nil, th_next, th_ret, fin_ret, tg_name, tg_two, x_add, x_sub, x_mul, x_div, x_mod, x_pow, x_addT, x_addL, x_mulL, x_neg, x_not, x_lt, x_le, x_gt, x_ge, x_eq, x_ne, x_eqS, x_neS, tr_bool, mk_f, mk_t, sa_af, sa_at, sa_of, sa_ot, it_list, it_tup, ic_zip_tl, ic_range1, ic_range2, p_int, p_tup, p_list, blt1, blt2, blt3, blt4, blt5, blt6, blt7, me_append, me_extend, me_index, ns_nil, bind_nil, bind_cons, b_len, b_isinstance, b_list, b_tuple, b_sum, ti_ii, ti_ib, ti_tt, hide_false, back_false, wItem_lit, seqD_tup, seqD_list, lstD_list, String.reduceEq, ↓reduceIte, or_self, Option.some.injEq, reduceCtorEq, if_true, if_false, true_and, and_true, exists_eq_left', exists_eq_left, Int.reduceLE, Int.reduceLT, Int.reduceToNat, List.getElem?_cons_succ, List.getElem?_cons_zero, Bool.false_eq_true, noStars, isStarE, List.all, Bool.not_false, Bool.not_true, Bool.and_self, isCallE, isTupE, isSliceE, forall_const, implies_true, Bool.or_self, ite_true, ite_false, List.length_cons, List.length_nil, Nat.reduceLeDiff, Int.reducePow, Nat.zero_add, Nat.reduceAdd, Nat.reduceBEq, decide_true, decide_false, Int.reduceNeg, Int.cast_ofNat_Int, Int.reduceBEq, beq_self_eq_true, dI_len, two_lim, bo_oa, bo_aa, imp_self, false_implies, kd0, kd1, kd2, kd3, kd4, kd5, kd6, kd7, kd8, kd9, kd10, kd11, kd12, kd13, kd14, kd15, kd16, kd17, kd18, kd19, kd20, kd21, kd22, kd23, kd24, kd25, kd26, kd27, mtL_str, lim, Int.reduceAdd, Int.reduceMul, hl]
    have q := hbb b hb
    exact hl' b.1 fl b.2 _ _ _ rfl (by omega) (by omega) (fun a h => big26 (q.2.2 a h)) (fun a h => big26 (hflb a h)) hK
  have hhe : [] ++ bx.map (fun b => D.int (b.2 + dot b.1 fl)) = dI (bx.map fun b => b.2 + dot b.1 fl) := by simp [dI]
  have hhb : ∀ a ∈ bx.map (fun b => b.2 + dot b.1 fl), Big a := fun a h => by
    obtain ⟨b, hb, rfl⟩ := List.mem_map.mp h
    have q := hbb b hb
    have q1 := dot_le b.1 fl q.2.2 hflb
    have q2 := Int.natAbs_add_le b.2 (dot b.1 fl)
    rw [q.1] at q1
    have q3 : O * (10 ^ 26 * 10 ^ 26) ≤ 3 * (10 ^ 26 * 10 ^ 26) := Nat.mul_le_mul_right _ O1.2
    exact Big.of (n := 10 ^ 26 + 3 * (10 ^ 26 * 10 ^ 26)) (by omega) (by decide)
  have hhl : (bx.map fun b => b.2 + dot b.1 fl).length = M := by simp [hbl]
  rw [hhe, hide_back]
  generalize hheld : bx.map (fun b => b.2 + dot b.1 fl) = held at hhb hhl ⊢
  simp only [gl_l, gl_c, gl_f, gl_g, own_l, own_c, nm_l, nm_c, nm_f, nm_g, upd_str, lk_str, call_n, call_s, e_none, e_bool, e_int, e_str, e_name, e_boolop, e_bin, e_un, e_cmp, e_call, e_meth0, e_meth1, e_slice, e_itemC, e_itemN, e_itemB, e_itemS, e_tup, e_list, e_comp0, e_comp1, es_nil, es_cons, o_none, o_some, b_one, b_two, c_one, c_two, t_not, t_bool, t_cmp, t_call, a_nil, a_cons, i_zip, i_range, i_enum, i_call, i_name, i_sub, i_list, s_expr, s_asgN, s_asgT, s_asgS, s_if, s_for, s_ret, ss_nil, th_next, th_ret, fin_ret, tg_name, tg_two, x_add, x_sub, x_mul, x_div, x_mod, x_pow, x_addT, x_addL, x_mulL, x_neg, x_not, x_lt, x_le, x_gt, x_ge, x_eq, x_ne, x_eqS, x_neS, tr_bool, mk_f, mk_t, sa_af, sa_at, sa_of, sa_ot, it_list, it_tup, ic_zip_tl, ic_range1, ic_range2, p_int, p_tup, p_list, blt1, blt2, blt3, blt4, blt5, blt6, blt7, me_append, me_extend, me_index, ns_nil, bind_nil, bind_cons, b_len, b_isinstance, b_list, b_tuple, b_sum, ti_ii, ti_ib, ti_tt, hide_false, back_false, wItem_lit, seqD_tup, seqD_list, lstD_list, String.reduceEq, ↓reduceIte, or_self, Option.some.injEq, reduceCtorEq, if_true, if_false, true_and, and_true, exists_eq_left', exists_eq_left, Int.reduceLE, Int.reduceLT, Int.reduceToNat, List.getElem?_cons_succ, List.getElem?_cons_zero, Bool.false_eq_true, noStars, isStarE, List.all, Bool.not_false, Bool.not_true, Bool.and_self, isCallE, isTupE, isSliceE, forall_const, implies_true, Bool.or_self, ite_true, ite_false, List.length_cons, List.length_nil, Nat.reduceLeDiff, Int.reducePow, Nat.zero_add, Nat.reduceAdd, Nat.reduceBEq, decide_true, decide_false, Int.reduceNeg, Int.cast_ofNat_Int, Int.reduceBEq, beq_self_eq_true, dI_len, two_lim, bo_oa, bo_aa, imp_self, false_implies, kd0, kd1, kd2, kd3, kd4, kd5, kd6, kd7, kd8, kd9, kd10, kd11, kd12, kd13, kd14, kd15, kd16, kd17, kd18, kd19, kd20, kd21, kd22, kd23, kd24, kd25, kd26, kd27, mtL_str, lim, Int.reduceAdd, Int.reduceMul, hhl]
  refine ⟨by omega, ?_⟩
  -- due
  rw [wSs_cons]
  simp only [gl_l, gl_c, gl_f, gl_g, own_l, own_c, nm_l, nm_c, nm_f, nm_g, upd_str, lk_str, call_n, call_s, e_none, e_bool, e_int, e_str, e_name, e_boolop, e_bin, e_un, e_cmp, e_call, e_meth0, e_meth1, e_slice, e_itemC, e_itemN, e_itemB, e_itemS, e_tup, e_list, e_comp0, e_comp1, es_nil, es_cons, o_none, o_some, b_one, b_two, c_one, c_two, t_not, t_bool, t_cmp, t_call, a_nil, a_cons, i_zip, i_range, i_enum, i_call, i_name, i_sub, i_list, s_expr, s_asgN, s_asgT, s_asgS, s_if, s_for, s_ret, ss_nil, th_next, th_ret, fin_ret, tg_name, tg_two, x_add, x_sub, x_mul, x_div, x_mod, x_pow, x_addT, x_addL, x_mulL, x_neg, x_not, x_lt, x_le, x_gt, x_ge, x_eq, x_ne, x_eqS, x_neS, tr_bool, mk_f, mk_t, sa_af, sa_at, sa_of, sa_ot, it_list, it_tup, ic_zip_tl, ic_range1, ic_range2, p_int, p_tup, p_list, blt1, blt2, blt3, blt4, blt5, blt6, blt7, me_append, me_extend, me_index, ns_nil, bind_nil, bind_cons, b_len, b_isinstance, b_list, b_tuple, b_sum, ti_ii, ti_ib, ti_tt, hide_false, back_false, wItem_lit, seqD_tup, seqD_list, lstD_list, String.reduceEq, ↓reduceIte, or_self, Option.some.injEq, reduceCtorEq, if_true, if_false, true_and, and_true, exists_eq_left', exists_eq_left, Int.reduceLE, Int.reduceLT, Int.reduceToNat, List.getElem?_cons_succ, List.getElem?_cons_zero, Bool.false_eq_true, noStars, isStarE, List.all, Bool.not_false, Bool.not_true, Bool.and_self, isCallE, isTupE, isSliceE, forall_const, implies_true, Bool.or_self, ite_true, ite_false, List.length_cons, List.length_nil, Nat.reduceLeDiff, Int.reducePow, Nat.zero_add, Nat.reduceAdd, Nat.reduceBEq, decide_true, decide_false, Int.reduceNeg, Int.cast_ofNat_Int, Int.reduceBEq, beq_self_eq_true, dI_len, two_lim, bo_oa, bo_aa, imp_self, false_implies, kd0, kd1, kd2, kd3, kd4, kd5, kd6, kd7, kd8, kd9, kd10, kd11, kd12, kd13, kd14, kd15, kd16, kd17, kd18, kd19, kd20, kd21, kd22, kd23, kd24, kd25, kd26, kd27, mtL_str, lim, Int.reduceAdd, Int.reduceMul, f6, hl]
  refine hl' ns held c _ _ _ rfl (by omega) (by omega) (fun a h => big26 (hnb a h)) hhb ?_
  -- the first test
  rw [wSs_cons]
  simp only [gl_l, gl_c, gl_f, gl_g, own_l, own_c, nm_l, nm_c, nm_f, nm_g, upd_str, lk_str, call_n, call_s, e_none, e_bool, e_int, e_str, e_name, e_boolop, e_bin, e_un, e_cmp, e_call, e_meth0, e_meth1, e_slice, e_itemC, e_itemN, e_itemB, e_itemS, e_tup, e_list, e_comp0, e_comp1, es_nil, es_cons, o_none, o_some, b_one, b_two, c_one, c_two, t_not, t_bool, t_cmp, t_call, a_nil, a_cons, i_zip, i_range, i_enum, i_call, i_name, i_sub, i_list, s_expr, s_asgN, s_asgT, s_asgS, s_if, s_for, s_ret, ss_nil, th_next, th_ret, fin_ret, tg_name, tg_two, x_add, x_sub, x_mul, x_div, x_mod, x_pow, x_addT, x_addL, x_mulL, x_neg, x_not, x_lt, x_le, x_gt, x_ge, x_eq, x_ne, x_eqS, x_neS, tr_bool, mk_f, mk_t, sa_af, sa_at, sa_of, sa_ot, it_list, it_tup, ic_zip_tl, ic_range1, ic_range2, p_int, p_tup, p_list, blt1, blt2, blt3, blt4, blt5, blt6, blt7, me_append, me_extend, me_index, ns_nil, bind_nil, bind_cons, b_len, b_isinstance, b_list, b_tuple, b_sum, ti_ii, ti_ib, ti_tt, hide_false, back_false, wItem_lit, seqD_tup, seqD_list, lstD_list, String.reduceEq, ↓reduceIte, or_self, Option.some.injEq, reduceCtorEq, if_true, if_false, true_and, and_true, exists_eq_left', exists_eq_left, Int.reduceLE, Int.reduceLT, Int.reduceToNat, List.getElem?_cons_succ, List.getElem?_cons_zero, Bool.false_eq_true, noStars, isStarE, List.all, Bool.not_false, Bool.not_true, Bool.and_self, isCallE, isTupE, isSliceE, forall_const, implies_true, Bool.or_self, ite_true, ite_false, List.length_cons, List.length_nil, Nat.reduceLeDiff, Int.reducePow, Nat.zero_add, Nat.reduceAdd, Nat.reduceBEq, decide_true, decide_false, Int.reduceNeg, Int.cast_ofNat_Int, Int.reduceBEq, beq_self_eq_true, dI_len, two_lim, bo_oa, bo_aa, imp_self, false_implies, kd0, kd1, kd2, kd3, kd4, kd5, kd6, kd7, kd8, kd9, kd10, kd11, kd12, kd13, kd14, kd15, kd16, kd17, kd18, kd19, kd20, kd21, kd22, kd23, kd24, kd25, kd26, kd27, mtL_str, lim, Int.reduceAdd, Int.reduceMul, f6, hv, hw, F.b3, hhl]
  refine ⟨by omega, hv' ns held c _ _ _ rfl (by omega) (by omega) (fun a h => big26 (hnb a h)) hhb (hw' _ _ _ ?_)⟩
  simp only [gl_l, gl_c, gl_f, gl_g, own_l, own_c, nm_l, nm_c, nm_f, nm_g, upd_str, lk_str, call_n, call_s, e_none, e_bool, e_int, e_str, e_name, e_boolop, e_bin, e_un, e_cmp, e_call, e_meth0, e_meth1, e_slice, e_itemC, e_itemN, e_itemB, e_itemS, e_tup, e_list, e_comp0, e_comp1, es_nil, es_cons, o_none, o_some, b_one, b_two, c_one, c_two, t_not, t_bool, t_cmp, t_call, a_nil, a_cons, i_zip, i_range, i_enum, i_call, i_name, i_sub, i_list, s_expr, s_asgN, s_asgT, s_asgS, s_if, s_for, s_ret, ss_nil, th_next, th_ret, fin_ret, tg_name, tg_two, x_add, x_sub, x_mul, x_div, x_mod, x_pow, x_addT, x_addL, x_mulL, x_neg, x_not, x_lt, x_le, x_gt, x_ge, x_eq, x_ne, x_eqS, x_neS, tr_bool, mk_f, mk_t, sa_af, sa_at, sa_of, sa_ot, it_list, it_tup, ic_zip_tl, ic_range1, ic_range2, p_int, p_tup, p_list, blt1, blt2, blt3, blt4, blt5, blt6, blt7, me_append, me_extend, me_index, ns_nil, bind_nil, bind_cons, b_len, b_isinstance, b_list, b_tuple, b_sum, ti_ii, ti_ib, ti_tt, hide_false, back_false, wItem_lit, seqD_tup, seqD_list, lstD_list, String.reduceEq, ↓reduceIte, or_self, Option.some.injEq, reduceCtorEq, if_true, if_false, true_and, and_true, exists_eq_left', exists_eq_left, Int.reduceLE, Int.reduceLT, Int.reduceToNat, List.getElem?_cons_succ, List.getElem?_cons_zero, Bool.false_eq_true, noStars, isStarE, List.all, Bool.not_false, Bool.not_true, Bool.and_self, isCallE, isTupE, isSliceE, forall_const, implies_true, Bool.or_self, ite_true, ite_false, List.length_cons, List.length_nil, Nat.reduceLeDiff, Int.reducePow, Nat.zero_add, Nat.reduceAdd, Nat.reduceBEq, decide_true, decide_false, Int.reduceNeg, Int.cast_ofNat_Int, Int.reduceBEq, beq_self_eq_true, dI_len, two_lim, bo_oa, bo_aa, imp_self, false_implies, kd0, kd1, kd2, kd3, kd4, kd5, kd6, kd7, kd8, kd9, kd10, kd11, kd12, kd13, kd14, kd15, kd16, kd17, kd18, kd19, kd20, kd21, kd22, kd23, kd24, kd25, kd26, kd27, mtL_str, lim, Int.reduceAdd, Int.reduceMul, f6, hv, hw, F.b3, hhl]
  refine ⟨by omega, hv' ns held c _ _ _ rfl (by omega) (by omega) (fun a h => big26 (hnb a h)) hhb ?_⟩
  simp only [gl_l, gl_c, gl_f, gl_g, own_l, own_c, nm_l, nm_c, nm_f, nm_g, upd_str, lk_str, call_n, call_s, e_none, e_bool, e_int, e_str, e_name, e_boolop, e_bin, e_un, e_cmp, e_call, e_meth0, e_meth1, e_slice, e_itemC, e_itemN, e_itemB, e_itemS, e_tup, e_list, e_comp0, e_comp1, es_nil, es_cons, o_none, o_some, b_one, b_two, c_one, c_two, t_not, t_bool, t_cmp, t_call, a_nil, a_cons, i_zip, i_range, i_enum, i_call, i_name, i_sub, i_list, s_expr, s_asgN, s_asgT, s_asgS, s_if, s_for, s_ret, ss_nil, th_next, th_ret, fin_ret, tg_name, tg_two, x_add, x_sub, x_mul, x_div, x_mod, x_pow, x_addT, x_addL, x_mulL, x_neg, x_not, x_lt, x_le, x_gt, x_ge, x_eq, x_ne, x_eqS, x_neS, tr_bool, mk_f, mk_t, sa_af, sa_at, sa_of, sa_ot, it_list, it_tup, ic_zip_tl, ic_range1, ic_range2, p_int, p_tup, p_list, blt1, blt2, blt3, blt4, blt5, blt6, blt7, me_append, me_extend, me_index, ns_nil, bind_nil, bind_cons, b_len, b_isinstance, b_list, b_tuple, b_sum, ti_ii, ti_ib, ti_tt, hide_false, back_false, wItem_lit, seqD_tup, seqD_list, lstD_list, String.reduceEq, ↓reduceIte, or_self, Option.some.injEq, reduceCtorEq, if_true, if_false, true_and, and_true, exists_eq_left', exists_eq_left, Int.reduceLE, Int.reduceLT, Int.reduceToNat, List.getElem?_cons_succ, List.getElem?_cons_zero, Bool.false_eq_true, noStars, isStarE, List.all, Bool.not_false, Bool.not_true, Bool.and_self, isCallE, isTupE, isSliceE, forall_const, implies_true, Bool.or_self, ite_true, ite_false, List.length_cons, List.length_nil, Nat.reduceLeDiff, Int.reducePow, Nat.zero_add, Nat.reduceAdd, Nat.reduceBEq, decide_true, decide_false, Int.reduceNeg, Int.cast_ofNat_Int, Int.reduceBEq, beq_self_eq_true, dI_len, two_lim, bo_oa, bo_aa, imp_self, false_implies, kd0, kd1, kd2, kd3, kd4, kd5, kd6, kd7, kd8, kd9, kd10, kd11, kd12, kd13, kd14, kd15, kd16, kd17, kd18, kd19, kd20, kd21, kd22, kd23, kd24, kd25, kd26, kd27, mtL_str, lim, Int.reduceAdd, Int.reduceMul]
  -- turned
  rw [wSs_cons]
  simp only [gl_l, gl_c, gl_f, gl_g, own_l, own_c, nm_l, nm_c, nm_f, nm_g, upd_str, lk_str, call_n, call_s, e_none, e_bool, e_int, e_str, e_name, e_boolop, e_bin, e_un, e_cmp, e_call, e_meth0, e_meth1, e_slice, e_itemC, e_itemN, e_itemB, e_itemS, e_tup, e_list, e_comp0, e_comp1, es_nil, es_cons, o_none, o_some, b_one, b_two, c_one, c_two, t_not, t_bool, t_cmp, t_call, a_nil, a_cons, i_zip, i_range, i_enum, i_call, i_name, i_sub, i_list, s_expr, s_asgN, s_asgT, s_asgS, s_if, s_for, s_ret, ss_nil, th_next, th_ret, fin_ret, tg_name, tg_two, x_add, x_sub, x_mul, x_div, x_mod, x_pow, x_addT, x_addL, x_mulL, x_neg, x_not, x_lt, x_le, x_gt, x_ge, x_eq, x_ne, x_eqS, x_neS, tr_bool, mk_f, mk_t, sa_af, sa_at, sa_of, sa_ot, it_list, it_tup, ic_zip_tl, ic_range1, ic_range2, p_int, p_tup, p_list, blt1, blt2, blt3, blt4, blt5, blt6, blt7, me_append, me_extend, me_index, ns_nil, bind_nil, bind_cons, b_len, b_isinstance, b_list, b_tuple, b_sum, ti_ii, ti_ib, ti_tt, hide_false, back_false, wItem_lit, seqD_tup, seqD_list, lstD_list, String.reduceEq, ↓reduceIte, or_self, Option.some.injEq, reduceCtorEq, if_true, if_false, true_and, and_true, exists_eq_left', exists_eq_left, Int.reduceLE, Int.reduceLT, Int.reduceToNat, List.getElem?_cons_succ, List.getElem?_cons_zero, Bool.false_eq_true, noStars, isStarE, List.all, Bool.not_false, Bool.not_true, Bool.and_self, isCallE, isTupE, isSliceE, forall_const, implies_true, Bool.or_self, ite_true, ite_false, List.length_cons, List.length_nil, Nat.reduceLeDiff, Int.reducePow, Nat.zero_add, Nat.reduceAdd, Nat.reduceBEq, decide_true, decide_false, Int.reduceNeg, Int.cast_ofNat_Int, Int.reduceBEq, beq_self_eq_true, dI_len, two_lim, bo_oa, bo_aa, imp_self, false_implies, kd0, kd1, kd2, kd3, kd4, kd5, kd6, kd7, kd8, kd9, kd10, kd11, kd12, kd13, kd14, kd15, kd16, kd17, kd18, kd19, kd20, kd21, kd22, kd23, kd24, kd25, kd26, kd27, mtL_str, lim, Int.reduceAdd, Int.reduceMul, f6, ho]
  refine ho' _ _ _ _ (by omega) ?_
  have hs2 := hs' (ns.map (0 - ·)) (1 - c)
  simp only [List.length_map, hnl] at hs2
  rw [wSs_cons]
  simp only [gl_l, gl_c, gl_f, gl_g, own_l, own_c, nm_l, nm_c, nm_f, nm_g, upd_str, lk_str, call_n, call_s, e_none, e_bool, e_int, e_str, e_name, e_boolop, e_bin, e_un, e_cmp, e_call, e_meth0, e_meth1, e_slice, e_itemC, e_itemN, e_itemB, e_itemS, e_tup, e_list, e_comp0, e_comp1, es_nil, es_cons, o_none, o_some, b_one, b_two, c_one, c_two, t_not, t_bool, t_cmp, t_call, a_nil, a_cons, i_zip, i_range, i_enum, i_call, i_name, i_sub, i_list, s_expr, s_asgN, s_asgT, s_asgS, s_if, s_for, s_ret, ss_nil, th_next, th_ret, fin_ret, tg_name, tg_two, x_add, x_sub, x_mul, x_div, x_mod, x_pow, x_addT, x_addL, x_mulL, x_neg, x_not, x_lt, x_le, x_gt, x_ge, x_eq, x_ne, x_eqS, x_neS, tr_bool, mk_f, mk_t, sa_af, sa_at, sa_of, sa_ot, it_list, it_tup, ic_zip_tl, ic_range1, ic_range2, p_int, p_tup, p_list, blt1, blt2, blt3, blt4, blt5, blt6, blt7, me_append, me_extend, me_index, ns_nil, bind_nil, bind_cons, b_len, b_isinstance, b_list, b_tuple, b_sum, ti_ii, ti_ib, ti_tt, hide_false, back_false, wItem_lit, seqD_tup, seqD_list, lstD_list, String.reduceEq, ↓reduceIte, or_self, Option.some.injEq, reduceCtorEq, if_true, if_false, true_and, and_true, exists_eq_left', exists_eq_left, Int.reduceLE, Int.reduceLT, Int.reduceToNat, List.getElem?_cons_succ, List.getElem?_cons_zero, Bool.false_eq_true, noStars, isStarE, List.all, Bool.not_false, Bool.not_true, Bool.and_self, isCallE, isTupE, isSliceE, forall_const, implies_true, Bool.or_self, ite_true, ite_false, List.length_cons, List.length_nil, Nat.reduceLeDiff, Int.reducePow, Nat.zero_add, Nat.reduceAdd, Nat.reduceBEq, decide_true, decide_false, Int.reduceNeg, Int.cast_ofNat_Int, Int.reduceBEq, beq_self_eq_true, dI_len, two_lim, bo_oa, bo_aa, imp_self, false_implies, kd0, kd1, kd2, kd3, kd4, kd5, kd6, kd7, kd8, kd9, kd10, kd11, kd12, kd13, kd14, kd15, kd16, kd17, kd18, kd19, kd20, kd21, kd22, kd23, kd24, kd25, kd26, kd27, mtL_str, lim, Int.reduceAdd, Int.reduceMul, f3, f6, hs]
  refine hs2 _ _ (by omega) ?_
  simp only [gl_l, gl_c, gl_f, gl_g, own_l, own_c, nm_l, nm_c, nm_f, nm_g, upd_str, lk_str, call_n, call_s, e_none, e_bool, e_int, e_str, e_name, e_boolop, e_bin, e_un, e_cmp, e_call, e_meth0, e_meth1, e_slice, e_itemC, e_itemN, e_itemB, e_itemS, e_tup, e_list, e_comp0, e_comp1, es_nil, es_cons, o_none, o_some, b_one, b_two, c_one, c_two, t_not, t_bool, t_cmp, t_call, a_nil, a_cons, i_zip, i_range, i_enum, i_call, i_name, i_sub, i_list, s_expr, s_asgN, s_asgT, s_asgS, s_if, s_for, s_ret, ss_nil, th_next, th_ret, fin_ret, tg_name, tg_two, x_add, x_sub, x_mul, x_div, x_mod, x_pow, x_addT, x_addL, x_mulL, x_neg, x_not, x_lt, x_le, x_gt, x_ge, x_eq, x_ne, x_eqS, x_neS, tr_bool, mk_f, mk_t, sa_af, sa_at, sa_of, sa_ot, it_list, it_tup, ic_zip_tl, ic_range1, ic_range2, p_int, p_tup, p_list, blt1, blt2, blt3, blt4, blt5, blt6, blt7, me_append, me_extend, me_index, ns_nil, bind_nil, bind_cons, b_len, b_isinstance, b_list, b_tuple, b_sum, ti_ii, ti_ib, ti_tt, hide_false, back_false, wItem_lit, seqD_tup, seqD_list, lstD_list, String.reduceEq, ↓reduceIte, or_self, Option.some.injEq, reduceCtorEq, if_true, if_false, true_and, and_true, exists_eq_left', exists_eq_left, Int.reduceLE, Int.reduceLT, Int.reduceToNat, List.getElem?_cons_succ, List.getElem?_cons_zero, Bool.false_eq_true, noStars, isStarE, List.all, Bool.not_false, Bool.not_true, Bool.and_self, isCallE, isTupE, isSliceE, forall_const, implies_true, Bool.or_self, ite_true, ite_false, List.length_cons, List.length_nil, Nat.reduceLeDiff, Int.reducePow, Nat.zero_add, Nat.reduceAdd, Nat.reduceBEq, decide_true, decide_false, Int.reduceNeg, Int.cast_ofNat_Int, Int.reduceBEq, beq_self_eq_true, dI_len, two_lim, bo_oa, bo_aa, imp_self, false_implies, kd0, kd1, kd2, kd3, kd4, kd5, kd6, kd7, kd8, kd9, kd10, kd11, kd12, kd13, kd14, kd15, kd16, kd17, kd18, kd19, kd20, kd21, kd22, kd23, kd24, kd25, kd26, kd27, mtL_str, lim, Int.reduceAdd, Int.reduceMul, f3, f6, F.b2, hnl]
  refine ⟨by simp [ScopeOk, ofString_inj, kd0, kd1, kd2, kd3, kd4, kd5, kd6, kd7, kd8, kd9, kd10, kd11, kd12, kd13, kd14, kd15, kd16, kd17, kd18, kd19, kd20, kd21, kd22, kd23, kd24, kd25, kd26, kd27, lk_str], by omega, ?_⟩
  refine wComp_list (α := Int) .int (fun a => .int (-a)) ns [] (fun a ha K hK => ?_) ?_
  · simp only [gl_l, gl_c, gl_f, gl_g, own_l, own_c, nm_l, nm_c, nm_f, nm_g, upd_str, lk_str, call_n, call_s, e_none, e_bool, e_int, e_str, e_name, e_boolop, e_bin, e_un, e_cmp, e_call, e_meth0, e_meth1, e_slice, e_itemC, e_itemN, e_itemB, e_itemS, e_tup, e_list, e_comp0, e_comp1, es_nil, es_cons, o_none, o_some, b_one, b_two, c_one, c_two, t_not, t_bool, t_cmp, t_call, a_nil, a_cons, i_zip, i_range, i_enum, i_call, i_name, i_sub, i_list, s_expr, s_asgN, s_asgT, s_asgS, s_if, s_for, s_ret, ss_nil, th_next, th_ret, fin_ret, tg_name, tg_two, x_add, x_sub, x_mul, x_div, x_mod, x_pow, x_addT, x_addL, x_mulL, x_neg, x_not, x_lt, x_le, x_gt, x_ge, x_eq, x_ne, x_eqS, x_neS, tr_bool, mk_f, mk_t, sa_af, sa_at, sa_of, sa_ot, it_list, it_tup, ic_zip_tl, ic_range1, ic_range2, p_int, p_tup, p_list, blt1, blt2, blt3, blt4, blt5, blt6, blt7, me_append, me_extend, me_index, ns_nil, bind_nil, bind_cons, b_len, b_isinstance, b_list, b_tuple, b_sum, ti_ii, ti_ib, ti_tt, hide_false, back_false, wItem_lit, seqD_tup, seqD_list, lstD_list, String.reduceEq, ↓reduceIte, or_self, Option.some.injEq, reduceCtorEq, if_true, if_false, true_and, and_true, exists_eq_left', exists_eq_left, Int.reduceLE, Int.reduceLT, Int.reduceToNat, List.getElem?_cons_succ, List.getElem?_cons_zero, Bool.false_eq_true, noStars, isStarE, List.all, Bool.not_false, Bool.not_true, Bool.and_self, isCallE, isTupE, isSliceE, forall_const, implies_true, Bool.or_self, ite_true, ite_false, List.length_cons, List.length_nil, Nat.reduceLeDiff, Int.reducePow, Nat.zero_add, Nat.reduceAdd, Nat.reduceBEq, decide_true, decide_false, Int.reduceNeg, Int.cast_ofNat_Int, Int.reduceBEq, beq_self_eq_true, dI_len, two_lim, bo_oa, bo_aa, imp_self, false_implies, kd0, kd1, kd2, kd3, kd4, kd5, kd6, kd7, kd8, kd9, kd10, kd11, kd12, kd13, kd14, kd15, kd16, kd17, kd18, kd19, kd20, kd21, kd22, kd23, kd24, kd25, kd26, kd27, mtL_str, lim, Int.reduceAdd, Int.reduceMul]; exact hK
  have hneg : [] ++ ns.map (fun a => D.int (-a)) = dI (ns.map (0 - ·)) := by simp [dI, Function.comp_def]
  rw [hneg]
  simp only [gl_l, gl_c, gl_f, gl_g, own_l, own_c, nm_l, nm_c, nm_f, nm_g, upd_str, lk_str, call_n, call_s, e_none, e_bool, e_int, e_str, e_name, e_boolop, e_bin, e_un, e_cmp, e_call, e_meth0, e_meth1, e_slice, e_itemC, e_itemN, e_itemB, e_itemS, e_tup, e_list, e_comp0, e_comp1, es_nil, es_cons, o_none, o_some, b_one, b_two, c_one, c_two, t_not, t_bool, t_cmp, t_call, a_nil, a_cons, i_zip, i_range, i_enum, i_call, i_name, i_sub, i_list, s_expr, s_asgN, s_asgT, s_asgS, s_if, s_for, s_ret, ss_nil, th_next, th_ret, fin_ret, tg_name, tg_two, x_add, x_sub, x_mul, x_div, x_mod, x_pow, x_addT, x_addL, x_mulL, x_neg, x_not, x_lt, x_le, x_gt, x_ge, x_eq, x_ne, x_eqS, x_neS, tr_bool, mk_f, mk_t, sa_af, sa_at, sa_of, sa_ot, it_list, it_tup, ic_zip_tl, ic_range1, ic_range2, p_int, p_tup, p_list, blt1, blt2, blt3, blt4, blt5, blt6, blt7, me_append, me_extend, me_index, ns_nil, bind_nil, bind_cons, b_len, b_isinstance, b_list, b_tuple, b_sum, ti_ii, ti_ib, ti_tt, hide_false, back_false, wItem_lit, seqD_tup, seqD_list, lstD_list, String.reduceEq, ↓reduceIte, or_self, Option.some.injEq, reduceCtorEq, if_true, if_false, true_and, and_true, exists_eq_left', exists_eq_left, Int.reduceLE, Int.reduceLT, Int.reduceToNat, List.getElem?_cons_succ, List.getElem?_cons_zero, Bool.false_eq_true, noStars, isStarE, List.all, Bool.not_false, Bool.not_true, Bool.and_self, isCallE, isTupE, isSliceE, forall_const, implies_true, Bool.or_self, ite_true, ite_false, List.length_cons, List.length_nil, Nat.reduceLeDiff, Int.reducePow, Nat.zero_add, Nat.reduceAdd, Nat.reduceBEq, decide_true, decide_false, Int.reduceNeg, Int.cast_ofNat_Int, Int.reduceBEq, beq_self_eq_true, dI_len, two_lim, bo_oa, bo_aa, imp_self, false_implies, kd0, kd1, kd2, kd3, kd4, kd5, kd6, kd7, kd8, kd9, kd10, kd11, kd12, kd13, kd14, kd15, kd16, kd17, kd18, kd19, kd20, kd21, kd22, kd23, kd24, kd25, kd26, kd27, mtL_str, lim, Int.reduceAdd, Int.reduceMul, List.length_map, hnl]
  refine ⟨by omega, by omega, _, _, pyD_box _ _ _, pyD_box _ _ _, deep_ok (by rw [deep_box]; decide), ?_⟩
  rw [PySem.SeqAt.eqv_refl _ (lay_box _)]
  simp only [gl_l, gl_c, gl_f, gl_g, own_l, own_c, nm_l, nm_c, nm_f, nm_g, upd_str, lk_str, call_n, call_s, e_none, e_bool, e_int, e_str, e_name, e_boolop, e_bin, e_un, e_cmp, e_call, e_meth0, e_meth1, e_slice, e_itemC, e_itemN, e_itemB, e_itemS, e_tup, e_list, e_comp0, e_comp1, es_nil, es_cons, o_none, o_some, b_one, b_two, c_one, c_two, t_not, t_bool, t_cmp, t_call, a_nil, a_cons, i_zip, i_range, i_enum, i_call, i_name, i_sub, i_list, s_expr, s_asgN, s_asgT, s_asgS, s_if, s_for, s_ret, ss_nil, th_next, th_ret, fin_ret, tg_name, tg_two, x_add, x_sub, x_mul, x_div, x_mod, x_pow, x_addT, x_addL, x_mulL, x_neg, x_not, x_lt, x_le, x_gt, x_ge, x_eq, x_ne, x_eqS, x_neS, tr_bool, mk_f, mk_t, sa_af, sa_at, sa_of, sa_ot, it_list, it_tup, ic_zip_tl, ic_range1, ic_range2, p_int, p_tup, p_list, blt1, blt2, blt3, blt4, blt5, blt6, blt7, me_append, me_extend, me_index, ns_nil, bind_nil, bind_cons, b_len, b_isinstance, b_list, b_tuple, b_sum, ti_ii, ti_ib, ti_tt, hide_false, back_false, wItem_lit, seqD_tup, seqD_list, lstD_list, String.reduceEq, ↓reduceIte, or_self, Option.some.injEq, reduceCtorEq, if_true, if_false, true_and, and_true, exists_eq_left', exists_eq_left, Int.reduceLE, Int.reduceLT, Int.reduceToNat, List.getElem?_cons_succ, List.getElem?_cons_zero, Bool.false_eq_true, noStars, isStarE, List.all, Bool.not_false, Bool.not_true, Bool.and_self, isCallE, isTupE, isSliceE, forall_const, implies_true, Bool.or_self, ite_true, ite_false, List.length_cons, List.length_nil, Nat.reduceLeDiff, Int.reducePow, Nat.zero_add, Nat.reduceAdd, Nat.reduceBEq, decide_true, decide_false, Int.reduceNeg, Int.cast_ofNat_Int, Int.reduceBEq, beq_self_eq_true, dI_len, two_lim, bo_oa, bo_aa, imp_self, false_implies, kd0, kd1, kd2, kd3, kd4, kd5, kd6, kd7, kd8, kd9, kd10, kd11, kd12, kd13, kd14, kd15, kd16, kd17, kd18, kd19, kd20, kd21, kd22, kd23, kd24, kd25, kd26, kd27, mtL_str, lim, Int.reduceAdd, Int.reduceMul]
  -- found
  rw [wSs_cons]
  simp only [gl_l, gl_c, gl_f, gl_g, own_l, own_c, nm_l, nm_c, nm_f, nm_g, upd_str, lk_str, call_n, call_s, e_none, e_bool, e_int, e_str, e_name, e_boolop, e_bin, e_un, e_cmp, e_call, e_meth0, e_meth1, e_slice, e_itemC, e_itemN, e_itemB, e_itemS, e_tup, e_list, e_comp0, e_comp1, es_nil, es_cons, o_none, o_some, b_one, b_two, c_one, c_two, t_not, t_bool, t_cmp, t_call, a_nil, a_cons, i_zip, i_range, i_enum, i_call, i_name, i_sub, i_list, s_expr, s_asgN, s_asgT, s_asgS, s_if, s_for, s_ret, ss_nil, th_next, th_ret, fin_ret, tg_name, tg_two, x_add, x_sub, x_mul, x_div, x_mod, x_pow, x_addT, x_addL, x_mulL, x_neg, x_not, x_lt, x_le, x_gt, x_ge, x_eq, x_ne, x_eqS, x_neS, tr_bool, mk_f, mk_t, sa_af, sa_at, sa_of, sa_ot, it_list, it_tup, ic_zip_tl, ic_range1, ic_range2, p_int, p_tup, p_list, blt1, blt2, blt3, blt4, blt5, blt6, blt7, me_append, me_extend, me_index, ns_nil, bind_nil, bind_cons, b_len, b_isinstance, b_list, b_tuple, b_sum, ti_ii, ti_ib, ti_tt, hide_false, back_false, wItem_lit, seqD_tup, seqD_list, lstD_list, String.reduceEq, ↓reduceIte, or_self, Option.some.injEq, reduceCtorEq, if_true, if_false, true_and, and_true, exists_eq_left', exists_eq_left, Int.reduceLE, Int.reduceLT, Int.reduceToNat, List.getElem?_cons_succ, List.getElem?_cons_zero, Bool.false_eq_true, noStars, isStarE, List.all, Bool.not_false, Bool.not_true, Bool.and_self, isCallE, isTupE, isSliceE, forall_const, implies_true, Bool.or_self, ite_true, ite_false, List.length_cons, List.length_nil, Nat.reduceLeDiff, Int.reducePow, Nat.zero_add, Nat.reduceAdd, Nat.reduceBEq, decide_true, decide_false, Int.reduceNeg, Int.cast_ofNat_Int, Int.reduceBEq, beq_self_eq_true, dI_len, two_lim, bo_oa, bo_aa, imp_self, false_implies, kd0, kd1, kd2, kd3, kd4, kd5, kd6, kd7, kd8, kd9, kd10, kd11, kd12, kd13, kd14, kd15, kd16, kd17, kd18, kd19, kd20, kd21, kd22, kd23, kd24, kd25, kd26, kd27, mtL_str, lim, Int.reduceAdd, Int.reduceMul, f6, hp]
  refine hp' ns c bx O _ _ (wf_alloc wf (undr_boxes _ _)) (by omega) (by omega) (by omega) hbw (by omega) (fun a h => big26 (hnb a h)) (fun b hb => ⟨big26 (hbb b hb).2.1, fun a h => big26 ((hbb b hb).2.2 a h)⟩) ?_
  have hpl : (putV O (ns.zip bx)).length = O := putV_len _ _ (by simp) fun p hp => hbw p.2 (List.of_mem_zip hp).2
  have hpb : ∀ a ∈ putV O (ns.zip bx), Big a := fun a h => by
    have := put_big (A := 10 ^ 26) (ns.zip bx) (fun p hp => hbw p.2 (List.of_mem_zip hp).2) (fun p hp => ⟨hnb p.1 (List.of_mem_zip hp).1, (hbb p.2 (List.of_mem_zip hp).2).2.2⟩) a h
    have hz : (ns.zip bx).length = M := by rw [List.length_zip]; omega
    rw [hz] at this
    have q3 : M * (10 ^ 26 * 10 ^ 26) ≤ 3 * (10 ^ 26 * 10 ^ 26) := Nat.mul_le_mul_right _ M1.2
    exact Big.of (Nat.le_trans this q3) (by decide)
  have hlaw := put_law ns c bx fl O hbw
  rw [hheld] at hlaw
  have hplaces := put_places ns bx M O hnl hbl hbw
  have hlast := put_last ns bx M hnl hbl
  generalize hpv : putV O (ns.zip bx) = pv at hpl hpb hlaw hplaces ⊢
  generalize hlv : dot ns (bx.map (·.2)) = lv at hlaw hlast ⊢
  have hs3 := hs' pv (c + lv)
  simp only [hpl] at hs3
  rw [wSs_cons]
  simp only [gl_l, gl_c, gl_f, gl_g, own_l, own_c, nm_l, nm_c, nm_f, nm_g, upd_str, lk_str, call_n, call_s, e_none, e_bool, e_int, e_str, e_name, e_boolop, e_bin, e_un, e_cmp, e_call, e_meth0, e_meth1, e_slice, e_itemC, e_itemN, e_itemB, e_itemS, e_tup, e_list, e_comp0, e_comp1, es_nil, es_cons, o_none, o_some, b_one, b_two, c_one, c_two, t_not, t_bool, t_cmp, t_call, a_nil, a_cons, i_zip, i_range, i_enum, i_call, i_name, i_sub, i_list, s_expr, s_asgN, s_asgT, s_asgS, s_if, s_for, s_ret, ss_nil, th_next, th_ret, fin_ret, tg_name, tg_two, x_add, x_sub, x_mul, x_div, x_mod, x_pow, x_addT, x_addL, x_mulL, x_neg, x_not, x_lt, x_le, x_gt, x_ge, x_eq, x_ne, x_eqS, x_neS, tr_bool, mk_f, mk_t, sa_af, sa_at, sa_of, sa_ot, it_list, it_tup, ic_zip_tl, ic_range1, ic_range2, p_int, p_tup, p_list, blt1, blt2, blt3, blt4, blt5, blt6, blt7, me_append, me_extend, me_index, ns_nil, bind_nil, bind_cons, b_len, b_isinstance, b_list, b_tuple, b_sum, ti_ii, ti_ib, ti_tt, hide_false, back_false, wItem_lit, seqD_tup, seqD_list, lstD_list, String.reduceEq, ↓reduceIte, or_self, Option.some.injEq, reduceCtorEq, if_true, if_false, true_and, and_true, exists_eq_left', exists_eq_left, Int.reduceLE, Int.reduceLT, Int.reduceToNat, List.getElem?_cons_succ, List.getElem?_cons_zero, Bool.false_eq_true, noStars, isStarE, List.all, Bool.not_false, Bool.not_true, Bool.and_self, isCallE, isTupE, isSliceE, forall_const, implies_true, Bool.or_self, ite_true, ite_false, List.length_cons, List.length_nil, Nat.reduceLeDiff, Int.reducePow, Nat.zero_add, Nat.reduceAdd, Nat.reduceBEq, decide_true, decide_false, Int.reduceNeg, Int.cast_ofNat_Int, Int.reduceBEq, beq_self_eq_true, dI_len, two_lim, bo_oa, bo_aa, imp_self, false_implies, kd0, kd1, kd2, kd3, kd4, kd5, kd6, kd7, kd8, kd9, kd10, kd11, kd12, kd13, kd14, kd15, kd16, kd17, kd18, kd19, kd20, kd21, kd22, kd23, kd24, kd25, kd26, kd27, mtL_str, lim, Int.reduceAdd, Int.reduceMul, f4, hs]
  refine hs3 _ _ (by omega) ?_
  simp only [gl_l, gl_c, gl_f, gl_g, own_l, own_c, nm_l, nm_c, nm_f, nm_g, upd_str, lk_str, call_n, call_s, e_none, e_bool, e_int, e_str, e_name, e_boolop, e_bin, e_un, e_cmp, e_call, e_meth0, e_meth1, e_slice, e_itemC, e_itemN, e_itemB, e_itemS, e_tup, e_list, e_comp0, e_comp1, es_nil, es_cons, o_none, o_some, b_one, b_two, c_one, c_two, t_not, t_bool, t_cmp, t_call, a_nil, a_cons, i_zip, i_range, i_enum, i_call, i_name, i_sub, i_list, s_expr, s_asgN, s_asgT, s_asgS, s_if, s_for, s_ret, ss_nil, th_next, th_ret, fin_ret, tg_name, tg_two, x_add, x_sub, x_mul, x_div, x_mod, x_pow, x_addT, x_addL, x_mulL, x_neg, x_not, x_lt, x_le, x_gt, x_ge, x_eq, x_ne, x_eqS, x_neS, tr_bool, mk_f, mk_t, sa_af, sa_at, sa_of, sa_ot, it_list, it_tup, ic_zip_tl, ic_range1, ic_range2, p_int, p_tup, p_list, blt1, blt2, blt3, blt4, blt5, blt6, blt7, me_append, me_extend, me_index, ns_nil, bind_nil, bind_cons, b_len, b_isinstance, b_list, b_tuple, b_sum, ti_ii, ti_ib, ti_tt, hide_false, back_false, wItem_lit, seqD_tup, seqD_list, lstD_list, String.reduceEq, ↓reduceIte, or_self, Option.some.injEq, reduceCtorEq, if_true, if_false, true_and, and_true, exists_eq_left', exists_eq_left, Int.reduceLE, Int.reduceLT, Int.reduceToNat, List.getElem?_cons_succ, List.getElem?_cons_zero, Bool.false_eq_true, noStars, isStarE, List.all, Bool.not_false, Bool.not_true, Bool.and_self, isCallE, isTupE, isSliceE, forall_const, implies_true, Bool.or_self, ite_true, ite_false, List.length_cons, List.length_nil, Nat.reduceLeDiff, Int.reducePow, Nat.zero_add, Nat.reduceAdd, Nat.reduceBEq, decide_true, decide_false, Int.reduceNeg, Int.cast_ofNat_Int, Int.reduceBEq, beq_self_eq_true, dI_len, two_lim, bo_oa, bo_aa, imp_self, false_implies, kd0, kd1, kd2, kd3, kd4, kd5, kd6, kd7, kd8, kd9, kd10, kd11, kd12, kd13, kd14, kd15, kd16, kd17, kd18, kd19, kd20, kd21, kd22, kd23, kd24, kd25, kd26, kd27, mtL_str, lim, Int.reduceAdd, Int.reduceMul, hv]
  refine hv' pv fl (c + lv) _ _ _ rfl (by omega) (by omega) hpb (fun a h => big26 (hflb a h)) ?_
  rw [hlaw]
  simp only [gl_l, gl_c, gl_f, gl_g, own_l, own_c, nm_l, nm_c, nm_f, nm_g, upd_str, lk_str, call_n, call_s, e_none, e_bool, e_int, e_str, e_name, e_boolop, e_bin, e_un, e_cmp, e_call, e_meth0, e_meth1, e_slice, e_itemC, e_itemN, e_itemB, e_itemS, e_tup, e_list, e_comp0, e_comp1, es_nil, es_cons, o_none, o_some, b_one, b_two, c_one, c_two, t_not, t_bool, t_cmp, t_call, a_nil, a_cons, i_zip, i_range, i_enum, i_call, i_name, i_sub, i_list, s_expr, s_asgN, s_asgT, s_asgS, s_if, s_for, s_ret, ss_nil, th_next, th_ret, fin_ret, tg_name, tg_two, x_add, x_sub, x_mul, x_div, x_mod, x_pow, x_addT, x_addL, x_mulL, x_neg, x_not, x_lt, x_le, x_gt, x_ge, x_eq, x_ne, x_eqS, x_neS, tr_bool, mk_f, mk_t, sa_af, sa_at, sa_of, sa_ot, it_list, it_tup, ic_zip_tl, ic_range1, ic_range2, p_int, p_tup, p_list, blt1, blt2, blt3, blt4, blt5, blt6, blt7, me_append, me_extend, me_index, ns_nil, bind_nil, bind_cons, b_len, b_isinstance, b_list, b_tuple, b_sum, ti_ii, ti_ib, ti_tt, hide_false, back_false, wItem_lit, seqD_tup, seqD_list, lstD_list, String.reduceEq, ↓reduceIte, or_self, Option.some.injEq, reduceCtorEq, if_true, if_false, true_and, and_true, exists_eq_left', exists_eq_left, Int.reduceLE, Int.reduceLT, Int.reduceToNat, List.getElem?_cons_succ, List.getElem?_cons_zero, Bool.false_eq_true, noStars, isStarE, List.all, Bool.not_false, Bool.not_true, Bool.and_self, isCallE, isTupE, isSliceE, forall_const, implies_true, Bool.or_self, ite_true, ite_false, List.length_cons, List.length_nil, Nat.reduceLeDiff, Int.reducePow, Nat.zero_add, Nat.reduceAdd, Nat.reduceBEq, decide_true, decide_false, Int.reduceNeg, Int.cast_ofNat_Int, Int.reduceBEq, beq_self_eq_true, dI_len, two_lim, bo_oa, bo_aa, imp_self, false_implies, kd0, kd1, kd2, kd3, kd4, kd5, kd6, kd7, kd8, kd9, kd10, kd11, kd12, kd13, kd14, kd15, kd16, kd17, kd18, kd19, kd20, kd21, kd22, kd23, kd24, kd25, kd26, kd27, mtL_str, lim, Int.reduceAdd, Int.reduceMul]
  -- numbers
  rw [wSs_cons]
  simp only [gl_l, gl_c, gl_f, gl_g, own_l, own_c, nm_l, nm_c, nm_f, nm_g, upd_str, lk_str, call_n, call_s, e_none, e_bool, e_int, e_str, e_name, e_boolop, e_bin, e_un, e_cmp, e_call, e_meth0, e_meth1, e_slice, e_itemC, e_itemN, e_itemB, e_itemS, e_tup, e_list, e_comp0, e_comp1, es_nil, es_cons, o_none, o_some, b_one, b_two, c_one, c_two, t_not, t_bool, t_cmp, t_call, a_nil, a_cons, i_zip, i_range, i_enum, i_call, i_name, i_sub, i_list, s_expr, s_asgN, s_asgT, s_asgS, s_if, s_for, s_ret, ss_nil, th_next, th_ret, fin_ret, tg_name, tg_two, x_add, x_sub, x_mul, x_div, x_mod, x_pow, x_addT, x_addL, x_mulL, x_neg, x_not, x_lt, x_le, x_gt, x_ge, x_eq, x_ne, x_eqS, x_neS, tr_bool, mk_f, mk_t, sa_af, sa_at, sa_of, sa_ot, it_list, it_tup, ic_zip_tl, ic_range1, ic_range2, p_int, p_tup, p_list, blt1, blt2, blt3, blt4, blt5, blt6, blt7, me_append, me_extend, me_index, ns_nil, bind_nil, bind_cons, b_len, b_isinstance, b_list, b_tuple, b_sum, ti_ii, ti_ib, ti_tt, hide_false, back_false, wItem_lit, seqD_tup, seqD_list, lstD_list, String.reduceEq, ↓reduceIte, or_self, Option.some.injEq, reduceCtorEq, if_true, if_false, true_and, and_true, exists_eq_left', exists_eq_left, Int.reduceLE, Int.reduceLT, Int.reduceToNat, List.getElem?_cons_succ, List.getElem?_cons_zero, Bool.false_eq_true, noStars, isStarE, List.all, Bool.not_false, Bool.not_true, Bool.and_self, isCallE, isTupE, isSliceE, forall_const, implies_true, Bool.or_self, ite_true, ite_false, List.length_cons, List.length_nil, Nat.reduceLeDiff, Int.reducePow, Nat.zero_add, Nat.reduceAdd, Nat.reduceBEq, decide_true, decide_false, Int.reduceNeg, Int.cast_ofNat_Int, Int.reduceBEq, beq_self_eq_true, dI_len, two_lim, bo_oa, bo_aa, imp_self, false_implies, kd0, kd1, kd2, kd3, kd4, kd5, kd6, kd7, kd8, kd9, kd10, kd11, kd12, kd13, kd14, kd15, kd16, kd17, kd18, kd19, kd20, kd21, kd22, kd23, kd24, kd25, kd26, kd27, mtL_str, lim, Int.reduceAdd, Int.reduceMul, f4, F.b1]
  refine ⟨by simp [ScopeOk, ofString_inj, kd0, kd1, kd2, kd3, kd4, kd5, kd6, kd7, kd8, kd9, kd10, kd11, kd12, kd13, kd14, kd15, kd16, kd17, kd18, kd19, kd20, kd21, kd22, kd23, kd24, kd25, kd26, kd27, lk_str], by omega, by omega, ?_⟩
  rw [rangeN_map]
  refine wComp_list (α := Nat) _ (fun j => .int ((List.range M).map fun k => ns.getD k 0 * (bx.getD k ([], 0)).1.getD j 0).sum) _ [] (fun j hj K hK => ?_) ?_
  · rw [List.mem_range] at hj
    simp only [gl_l, gl_c, gl_f, gl_g, own_l, own_c, nm_l, nm_c, nm_f, nm_g, upd_str, lk_str, call_n, call_s, e_none, e_bool, e_int, e_str, e_name, e_boolop, e_bin, e_un, e_cmp, e_call, e_meth0, e_meth1, e_slice, e_itemC, e_itemN, e_itemB, e_itemS, e_tup, e_list, e_comp0, e_comp1, es_nil, es_cons, o_none, o_some, b_one, b_two, c_one, c_two, t_not, t_bool, t_cmp, t_call, a_nil, a_cons, i_zip, i_range, i_enum, i_call, i_name, i_sub, i_list, s_expr, s_asgN, s_asgT, s_asgS, s_if, s_for, s_ret, ss_nil, th_next, th_ret, fin_ret, tg_name, tg_two, x_add, x_sub, x_mul, x_div, x_mod, x_pow, x_addT, x_addL, x_mulL, x_neg, x_not, x_lt, x_le, x_gt, x_ge, x_eq, x_ne, x_eqS, x_neS, tr_bool, mk_f, mk_t, sa_af, sa_at, sa_of, sa_ot, it_list, it_tup, ic_zip_tl, ic_range1, ic_range2, p_int, p_tup, p_list, blt1, blt2, blt3, blt4, blt5, blt6, blt7, me_append, me_extend, me_index, ns_nil, bind_nil, bind_cons, b_len, b_isinstance, b_list, b_tuple, b_sum, ti_ii, ti_ib, ti_tt, hide_false, back_false, wItem_lit, seqD_tup, seqD_list, lstD_list, String.reduceEq, ↓reduceIte, or_self, Option.some.injEq, reduceCtorEq, if_true, if_false, true_and, and_true, exists_eq_left', exists_eq_left, Int.reduceLE, Int.reduceLT, Int.reduceToNat, List.getElem?_cons_succ, List.getElem?_cons_zero, Bool.false_eq_true, noStars, isStarE, List.all, Bool.not_false, Bool.not_true, Bool.and_self, isCallE, isTupE, isSliceE, forall_const, implies_true, Bool.or_self, ite_true, ite_false, List.length_cons, List.length_nil, Nat.reduceLeDiff, Int.reducePow, Nat.zero_add, Nat.reduceAdd, Nat.reduceBEq, decide_true, decide_false, Int.reduceNeg, Int.cast_ofNat_Int, Int.reduceBEq, beq_self_eq_true, dI_len, two_lim, bo_oa, bo_aa, imp_self, false_implies, kd0, kd1, kd2, kd3, kd4, kd5, kd6, kd7, kd8, kd9, kd10, kd11, kd12, kd13, kd14, kd15, kd16, kd17, kd18, kd19, kd20, kd21, kd22, kd23, kd24, kd25, kd26, kd27, mtL_str, lim, Int.reduceAdd, Int.reduceMul, F.b1, F.b4, f3, f6, f7]
    refine ⟨by simp [ScopeOk, ofString_inj, kd0, kd1, kd2, kd3, kd4, kd5, kd6, kd7, kd8, kd9, kd10, kd11, kd12, kd13, kd14, kd15, kd16, kd17, kd18, kd19, kd20, kd21, kd22, kd23, kd24, kd25, kd26, kd27, lk_str], by omega, by omega, ?_⟩
    rw [rangeN_map]
    refine wComp_list (α := Nat) _ (fun k => .int (ns.getD k 0 * (bx.getD k ([], 0)).1.getD j 0)) _ [] (fun k hk K hK => ?_) ?_
    · rw [List.mem_range] at hk
      obtain ⟨g1, g2⟩ := int_get (ns := ns) (k := k) (by omega)
      obtain ⟨g3, g4⟩ := box_get (bx := bx) (k := k) (by omega)
      have q := hbb _ g4
      obtain ⟨g5, g6⟩ := int_get (ns := (bx.getD k ([], 0)).1) (k := j) (by omega)
      simp only [gl_l, gl_c, gl_f, gl_g, own_l, own_c, nm_l, nm_c, nm_f, nm_g, upd_str, lk_str, call_n, call_s, e_none, e_bool, e_int, e_str, e_name, e_boolop, e_bin, e_un, e_cmp, e_call, e_meth0, e_meth1, e_slice, e_itemC, e_itemN, e_itemB, e_itemS, e_tup, e_list, e_comp0, e_comp1, es_nil, es_cons, o_none, o_some, b_one, b_two, c_one, c_two, t_not, t_bool, t_cmp, t_call, a_nil, a_cons, i_zip, i_range, i_enum, i_call, i_name, i_sub, i_list, s_expr, s_asgN, s_asgT, s_asgS, s_if, s_for, s_ret, ss_nil, th_next, th_ret, fin_ret, tg_name, tg_two, x_add, x_sub, x_mul, x_div, x_mod, x_pow, x_addT, x_addL, x_mulL, x_neg, x_not, x_lt, x_le, x_gt, x_ge, x_eq, x_ne, x_eqS, x_neS, tr_bool, mk_f, mk_t, sa_af, sa_at, sa_of, sa_ot, it_list, it_tup, ic_zip_tl, ic_range1, ic_range2, p_int, p_tup, p_list, blt1, blt2, blt3, blt4, blt5, blt6, blt7, me_append, me_extend, me_index, ns_nil, bind_nil, bind_cons, b_len, b_isinstance, b_list, b_tuple, b_sum, ti_ii, ti_ib, ti_tt, hide_false, back_false, wItem_lit, seqD_tup, seqD_list, lstD_list, String.reduceEq, ↓reduceIte, or_self, Option.some.injEq, reduceCtorEq, if_true, if_false, true_and, and_true, exists_eq_left', exists_eq_left, Int.reduceLE, Int.reduceLT, Int.reduceToNat, List.getElem?_cons_succ, List.getElem?_cons_zero, Bool.false_eq_true, noStars, isStarE, List.all, Bool.not_false, Bool.not_true, Bool.and_self, isCallE, isTupE, isSliceE, forall_const, implies_true, Bool.or_self, ite_true, ite_false, List.length_cons, List.length_nil, Nat.reduceLeDiff, Int.reducePow, Nat.zero_add, Nat.reduceAdd, Nat.reduceBEq, decide_true, decide_false, Int.reduceNeg, Int.cast_ofNat_Int, Int.reduceBEq, beq_self_eq_true, dI_len, two_lim, bo_oa, bo_aa, imp_self, false_implies, kd0, kd1, kd2, kd3, kd4, kd5, kd6, kd7, kd8, kd9, kd10, kd11, kd12, kd13, kd14, kd15, kd16, kd17, kd18, kd19, kd20, kd21, kd22, kd23, kd24, kd25, kd26, kd27, mtL_str, lim, Int.reduceAdd, Int.reduceMul, f6, f7, seqD_alloc, wItem_nat (i := k) (by omega), wItem_nat (i := j) (by omega), g1, g3, g5, boxD]
      exact ⟨mulOk (big26 (hnb _ g2)) (big26 (q.2.2 _ g6)), hK⟩
    have e : [] ++ (List.range M).map (fun k => D.int (ns.getD k 0 * (bx.getD k ([], 0)).1.getD j 0)) = dI ((List.range M).map fun k => ns.getD k 0 * (bx.getD k ([], 0)).1.getD j 0) := by simp [dI]
    rw [e]
    simp only [gl_l, gl_c, gl_f, gl_g, own_l, own_c, nm_l, nm_c, nm_f, nm_g, upd_str, lk_str, call_n, call_s, e_none, e_bool, e_int, e_str, e_name, e_boolop, e_bin, e_un, e_cmp, e_call, e_meth0, e_meth1, e_slice, e_itemC, e_itemN, e_itemB, e_itemS, e_tup, e_list, e_comp0, e_comp1, es_nil, es_cons, o_none, o_some, b_one, b_two, c_one, c_two, t_not, t_bool, t_cmp, t_call, a_nil, a_cons, i_zip, i_range, i_enum, i_call, i_name, i_sub, i_list, s_expr, s_asgN, s_asgT, s_asgS, s_if, s_for, s_ret, ss_nil, th_next, th_ret, fin_ret, tg_name, tg_two, x_add, x_sub, x_mul, x_div, x_mod, x_pow, x_addT, x_addL, x_mulL, x_neg, x_not, x_lt, x_le, x_gt, x_ge, x_eq, x_ne, x_eqS, x_neS, tr_bool, mk_f, mk_t, sa_af, sa_at, sa_of, sa_ot, it_list, it_tup, ic_zip_tl, ic_range1, ic_range2, p_int, p_tup, p_list, blt1, blt2, blt3, blt4, blt5, blt6, blt7, me_append, me_extend, me_index, ns_nil, bind_nil, bind_cons, b_len, b_isinstance, b_list, b_tuple, b_sum, ti_ii, ti_ib, ti_tt, hide_false, back_false, wItem_lit, seqD_tup, seqD_list, lstD_list, String.reduceEq, ↓reduceIte, or_self, Option.some.injEq, reduceCtorEq, if_true, if_false, true_and, and_true, exists_eq_left', exists_eq_left, Int.reduceLE, Int.reduceLT, Int.reduceToNat, List.getElem?_cons_succ, List.getElem?_cons_zero, Bool.false_eq_true, noStars, isStarE, List.all, Bool.not_false, Bool.not_true, Bool.and_self, isCallE, isTupE, isSliceE, forall_const, implies_true, Bool.or_self, ite_true, ite_false, List.length_cons, List.length_nil, Nat.reduceLeDiff, Int.reducePow, Nat.zero_add, Nat.reduceAdd, Nat.reduceBEq, decide_true, decide_false, Int.reduceNeg, Int.cast_ofNat_Int, Int.reduceBEq, beq_self_eq_true, dI_len, two_lim, bo_oa, bo_aa, imp_self, false_implies, kd0, kd1, kd2, kd3, kd4, kd5, kd6, kd7, kd8, kd9, kd10, kd11, kd12, kd13, kd14, kd15, kd16, kd17, kd18, kd19, kd20, kd21, kd22, kd23, kd24, kd25, kd26, kd27, mtL_str, lim, Int.reduceAdd, Int.reduceMul, ints_dI, List.length_map, List.length_range]
    exact ⟨by omega, hK⟩
  have e : [] ++ (List.range O).map (fun j => D.int ((List.range M).map fun k => ns.getD k 0 * (bx.getD k ([], 0)).1.getD j 0).sum) = dI pv := by rw [← hplaces]; simp [dI]
  rw [e]
  simp only [gl_l, gl_c, gl_f, gl_g, own_l, own_c, nm_l, nm_c, nm_f, nm_g, upd_str, lk_str, call_n, call_s, e_none, e_bool, e_int, e_str, e_name, e_boolop, e_bin, e_un, e_cmp, e_call, e_meth0, e_meth1, e_slice, e_itemC, e_itemN, e_itemB, e_itemS, e_tup, e_list, e_comp0, e_comp1, es_nil, es_cons, o_none, o_some, b_one, b_two, c_one, c_two, t_not, t_bool, t_cmp, t_call, a_nil, a_cons, i_zip, i_range, i_enum, i_call, i_name, i_sub, i_list, s_expr, s_asgN, s_asgT, s_asgS, s_if, s_for, s_ret, ss_nil, th_next, th_ret, fin_ret, tg_name, tg_two, x_add, x_sub, x_mul, x_div, x_mod, x_pow, x_addT, x_addL, x_mulL, x_neg, x_not, x_lt, x_le, x_gt, x_ge, x_eq, x_ne, x_eqS, x_neS, tr_bool, mk_f, mk_t, sa_af, sa_at, sa_of, sa_ot, it_list, it_tup, ic_zip_tl, ic_range1, ic_range2, p_int, p_tup, p_list, blt1, blt2, blt3, blt4, blt5, blt6, blt7, me_append, me_extend, me_index, ns_nil, bind_nil, bind_cons, b_len, b_isinstance, b_list, b_tuple, b_sum, ti_ii, ti_ib, ti_tt, hide_false, back_false, wItem_lit, seqD_tup, seqD_list, lstD_list, String.reduceEq, ↓reduceIte, or_self, Option.some.injEq, reduceCtorEq, if_true, if_false, true_and, and_true, exists_eq_left', exists_eq_left, Int.reduceLE, Int.reduceLT, Int.reduceToNat, List.getElem?_cons_succ, List.getElem?_cons_zero, Bool.false_eq_true, noStars, isStarE, List.all, Bool.not_false, Bool.not_true, Bool.and_self, isCallE, isTupE, isSliceE, forall_const, implies_true, Bool.or_self, ite_true, ite_false, List.length_cons, List.length_nil, Nat.reduceLeDiff, Int.reducePow, Nat.zero_add, Nat.reduceAdd, Nat.reduceBEq, decide_true, decide_false, Int.reduceNeg, Int.cast_ofNat_Int, Int.reduceBEq, beq_self_eq_true, dI_len, two_lim, bo_oa, bo_aa, imp_self, false_implies, kd0, kd1, kd2, kd3, kd4, kd5, kd6, kd7, kd8, kd9, kd10, kd11, kd12, kd13, kd14, kd15, kd16, kd17, kd18, kd19, kd20, kd21, kd22, kd23, kd24, kd25, kd26, kd27, mtL_str, lim, Int.reduceAdd, Int.reduceMul, hpl]
  refine ⟨by omega, ?_⟩
  -- more
  rw [wSs_cons]
  simp only [gl_l, gl_c, gl_f, gl_g, own_l, own_c, nm_l, nm_c, nm_f, nm_g, upd_str, lk_str, call_n, call_s, e_none, e_bool, e_int, e_str, e_name, e_boolop, e_bin, e_un, e_cmp, e_call, e_meth0, e_meth1, e_slice, e_itemC, e_itemN, e_itemB, e_itemS, e_tup, e_list, e_comp0, e_comp1, es_nil, es_cons, o_none, o_some, b_one, b_two, c_one, c_two, t_not, t_bool, t_cmp, t_call, a_nil, a_cons, i_zip, i_range, i_enum, i_call, i_name, i_sub, i_list, s_expr, s_asgN, s_asgT, s_asgS, s_if, s_for, s_ret, ss_nil, th_next, th_ret, fin_ret, tg_name, tg_two, x_add, x_sub, x_mul, x_div, x_mod, x_pow, x_addT, x_addL, x_mulL, x_neg, x_not, x_lt, x_le, x_gt, x_ge, x_eq, x_ne, x_eqS, x_neS, tr_bool, mk_f, mk_t, sa_af, sa_at, sa_of, sa_ot, it_list, it_tup, ic_zip_tl, ic_range1, ic_range2, p_int, p_tup, p_list, blt1, blt2, blt3, blt4, blt5, blt6, blt7, me_append, me_extend, me_index, ns_nil, bind_nil, bind_cons, b_len, b_isinstance, b_list, b_tuple, b_sum, ti_ii, ti_ib, ti_tt, hide_false, back_false, wItem_lit, seqD_tup, seqD_list, lstD_list, String.reduceEq, ↓reduceIte, or_self, Option.some.injEq, reduceCtorEq, if_true, if_false, true_and, and_true, exists_eq_left', exists_eq_left, Int.reduceLE, Int.reduceLT, Int.reduceToNat, List.getElem?_cons_succ, List.getElem?_cons_zero, Bool.false_eq_true, noStars, isStarE, List.all, Bool.not_false, Bool.not_true, Bool.and_self, isCallE, isTupE, isSliceE, forall_const, implies_true, Bool.or_self, ite_true, ite_false, List.length_cons, List.length_nil, Nat.reduceLeDiff, Int.reducePow, Nat.zero_add, Nat.reduceAdd, Nat.reduceBEq, decide_true, decide_false, Int.reduceNeg, Int.cast_ofNat_Int, Int.reduceBEq, beq_self_eq_true, dI_len, two_lim, bo_oa, bo_aa, imp_self, false_implies, kd0, kd1, kd2, kd3, kd4, kd5, kd6, kd7, kd8, kd9, kd10, kd11, kd12, kd13, kd14, kd15, kd16, kd17, kd18, kd19, kd20, kd21, kd22, kd23, kd24, kd25, kd26, kd27, mtL_str, lim, Int.reduceAdd, Int.reduceMul, f3, f6, F.b1, F.b4]
  refine ⟨by simp [ScopeOk, ofString_inj, kd0, kd1, kd2, kd3, kd4, kd5, kd6, kd7, kd8, kd9, kd10, kd11, kd12, kd13, kd14, kd15, kd16, kd17, kd18, kd19, kd20, kd21, kd22, kd23, kd24, kd25, kd26, kd27, lk_str], by omega, by omega, ?_⟩
  rw [rangeN_map]
  refine wComp_list (α := Nat) _ (fun k => .int (ns.getD k 0 * (bx.getD k ([], 0)).2)) _ [] (fun k hk K hK => ?_) ?_
  · rw [List.mem_range] at hk
    obtain ⟨g1, g2⟩ := int_get (ns := ns) (k := k) (by omega)
    obtain ⟨g3, g4⟩ := box_get (bx := bx) (k := k) (by omega)
    have q := hbb _ g4
    simp only [gl_l, gl_c, gl_f, gl_g, own_l, own_c, nm_l, nm_c, nm_f, nm_g, upd_str, lk_str, call_n, call_s, e_none, e_bool, e_int, e_str, e_name, e_boolop, e_bin, e_un, e_cmp, e_call, e_meth0, e_meth1, e_slice, e_itemC, e_itemN, e_itemB, e_itemS, e_tup, e_list, e_comp0, e_comp1, es_nil, es_cons, o_none, o_some, b_one, b_two, c_one, c_two, t_not, t_bool, t_cmp, t_call, a_nil, a_cons, i_zip, i_range, i_enum, i_call, i_name, i_sub, i_list, s_expr, s_asgN, s_asgT, s_asgS, s_if, s_for, s_ret, ss_nil, th_next, th_ret, fin_ret, tg_name, tg_two, x_add, x_sub, x_mul, x_div, x_mod, x_pow, x_addT, x_addL, x_mulL, x_neg, x_not, x_lt, x_le, x_gt, x_ge, x_eq, x_ne, x_eqS, x_neS, tr_bool, mk_f, mk_t, sa_af, sa_at, sa_of, sa_ot, it_list, it_tup, ic_zip_tl, ic_range1, ic_range2, p_int, p_tup, p_list, blt1, blt2, blt3, blt4, blt5, blt6, blt7, me_append, me_extend, me_index, ns_nil, bind_nil, bind_cons, b_len, b_isinstance, b_list, b_tuple, b_sum, ti_ii, ti_ib, ti_tt, hide_false, back_false, wItem_lit, seqD_tup, seqD_list, lstD_list, String.reduceEq, ↓reduceIte, or_self, Option.some.injEq, reduceCtorEq, if_true, if_false, true_and, and_true, exists_eq_left', exists_eq_left, Int.reduceLE, Int.reduceLT, Int.reduceToNat, List.getElem?_cons_succ, List.getElem?_cons_zero, Bool.false_eq_true, noStars, isStarE, List.all, Bool.not_false, Bool.not_true, Bool.and_self, isCallE, isTupE, isSliceE, forall_const, implies_true, Bool.or_self, ite_true, ite_false, List.length_cons, List.length_nil, Nat.reduceLeDiff, Int.reducePow, Nat.zero_add, Nat.reduceAdd, Nat.reduceBEq, decide_true, decide_false, Int.reduceNeg, Int.cast_ofNat_Int, Int.reduceBEq, beq_self_eq_true, dI_len, two_lim, bo_oa, bo_aa, imp_self, false_implies, kd0, kd1, kd2, kd3, kd4, kd5, kd6, kd7, kd8, kd9, kd10, kd11, kd12, kd13, kd14, kd15, kd16, kd17, kd18, kd19, kd20, kd21, kd22, kd23, kd24, kd25, kd26, kd27, mtL_str, lim, Int.reduceAdd, Int.reduceMul, f6, f7, seqD_alloc, wItem_nat (i := k) (by omega), g1, g3, boxD]
    exact ⟨mulOk (big26 (hnb _ g2)) (big26 q.2.1), hK⟩
  have e2 : [] ++ (List.range M).map (fun k => D.int (ns.getD k 0 * (bx.getD k ([], 0)).2)) = dI ((List.range M).map fun k => ns.getD k 0 * (bx.getD k ([], 0)).2) := by simp [dI]
  rw [e2]
  simp only [gl_l, gl_c, gl_f, gl_g, own_l, own_c, nm_l, nm_c, nm_f, nm_g, upd_str, lk_str, call_n, call_s, e_none, e_bool, e_int, e_str, e_name, e_boolop, e_bin, e_un, e_cmp, e_call, e_meth0, e_meth1, e_slice, e_itemC, e_itemN, e_itemB, e_itemS, e_tup, e_list, e_comp0, e_comp1, es_nil, es_cons, o_none, o_some, b_one, b_two, c_one, c_two, t_not, t_bool, t_cmp, t_call, a_nil, a_cons, i_zip, i_range, i_enum, i_call, i_name, i_sub, i_list, s_expr, s_asgN, s_asgT, s_asgS, s_if, s_for, s_ret, ss_nil, th_next, th_ret, fin_ret, tg_name, tg_two, x_add, x_sub, x_mul, x_div, x_mod, x_pow, x_addT, x_addL, x_mulL, x_neg, x_not, x_lt, x_le, x_gt, x_ge, x_eq, x_ne, x_eqS, x_neS, tr_bool, mk_f, mk_t, sa_af, sa_at, sa_of, sa_ot, it_list, it_tup, ic_zip_tl, ic_range1, ic_range2, p_int, p_tup, p_list, blt1, blt2, blt3, blt4, blt5, blt6, blt7, me_append, me_extend, me_index, ns_nil, bind_nil, bind_cons, b_len, b_isinstance, b_list, b_tuple, b_sum, ti_ii, ti_ib, ti_tt, hide_false, back_false, wItem_lit, seqD_tup, seqD_list, lstD_list, String.reduceEq, ↓reduceIte, or_self, Option.some.injEq, reduceCtorEq, if_true, if_false, true_and, and_true, exists_eq_left', exists_eq_left, Int.reduceLE, Int.reduceLT, Int.reduceToNat, List.getElem?_cons_succ, List.getElem?_cons_zero, Bool.false_eq_true, noStars, isStarE, List.all, Bool.not_false, Bool.not_true, Bool.and_self, isCallE, isTupE, isSliceE, forall_const, implies_true, Bool.or_self, ite_true, ite_false, List.length_cons, List.length_nil, Nat.reduceLeDiff, Int.reducePow, Nat.zero_add, Nat.reduceAdd, Nat.reduceBEq, decide_true, decide_false, Int.reduceNeg, Int.cast_ofNat_Int, Int.reduceBEq, beq_self_eq_true, dI_len, two_lim, bo_oa, bo_aa, imp_self, false_implies, kd0, kd1, kd2, kd3, kd4, kd5, kd6, kd7, kd8, kd9, kd10, kd11, kd12, kd13, kd14, kd15, kd16, kd17, kd18, kd19, kd20, kd21, kd22, kd23, kd24, kd25, kd26, kd27, mtL_str, lim, Int.reduceAdd, Int.reduceMul, ints_dI, List.length_map, List.length_range, hlast]
  refine ⟨by omega, ?_⟩
  -- the end
  rw [wSs_cons]
  simp only [gl_l, gl_c, gl_f, gl_g, own_l, own_c, nm_l, nm_c, nm_f, nm_g, upd_str, lk_str, call_n, call_s, e_none, e_bool, e_int, e_str, e_name, e_boolop, e_bin, e_un, e_cmp, e_call, e_meth0, e_meth1, e_slice, e_itemC, e_itemN, e_itemB, e_itemS, e_tup, e_list, e_comp0, e_comp1, es_nil, es_cons, o_none, o_some, b_one, b_two, c_one, c_two, t_not, t_bool, t_cmp, t_call, a_nil, a_cons, i_zip, i_range, i_enum, i_call, i_name, i_sub, i_list, s_expr, s_asgN, s_asgT, s_asgS, s_if, s_for, s_ret, ss_nil, th_next, th_ret, fin_ret, tg_name, tg_two, x_add, x_sub, x_mul, x_div, x_mod, x_pow, x_addT, x_addL, x_mulL, x_neg, x_not, x_lt, x_le, x_gt, x_ge, x_eq, x_ne, x_eqS, x_neS, tr_bool, mk_f, mk_t, sa_af, sa_at, sa_of, sa_ot, it_list, it_tup, ic_zip_tl, ic_range1, ic_range2, p_int, p_tup, p_list, blt1, blt2, blt3, blt4, blt5, blt6, blt7, me_append, me_extend, me_index, ns_nil, bind_nil, bind_cons, b_len, b_isinstance, b_list, b_tuple, b_sum, ti_ii, ti_ib, ti_tt, hide_false, back_false, wItem_lit, seqD_tup, seqD_list, lstD_list, String.reduceEq, ↓reduceIte, or_self, Option.some.injEq, reduceCtorEq, if_true, if_false, true_and, and_true, exists_eq_left', exists_eq_left, Int.reduceLE, Int.reduceLT, Int.reduceToNat, List.getElem?_cons_succ, List.getElem?_cons_zero, Bool.false_eq_true, noStars, isStarE, List.all, Bool.not_false, Bool.not_true, Bool.and_self, isCallE, isTupE, isSliceE, forall_const, implies_true, Bool.or_self, ite_true, ite_false, List.length_cons, List.length_nil, Nat.reduceLeDiff, Int.reducePow, Nat.zero_add, Nat.reduceAdd, Nat.reduceBEq, decide_true, decide_false, Int.reduceNeg, Int.cast_ofNat_Int, Int.reduceBEq, beq_self_eq_true, dI_len, two_lim, bo_oa, bo_aa, imp_self, false_implies, kd0, kd1, kd2, kd3, kd4, kd5, kd6, kd7, kd8, kd9, kd10, kd11, kd12, kd13, kd14, kd15, kd16, kd17, kd18, kd19, kd20, kd21, kd22, kd23, kd24, kd25, kd26, kd27, mtL_str, lim, Int.reduceAdd, Int.reduceMul, F.b2, f7, hpl]
  refine ⟨by omega, _, _, pyD_box _ _ _, pyD_box _ _ _, deep_ok (by rw [deep_box]; decide), ?_⟩
  rw [PySem.SeqAt.eqv_refl _ (lay_box _)]
  simp only [gl_l, gl_c, gl_f, gl_g, own_l, own_c, nm_l, nm_c, nm_f, nm_g, upd_str, lk_str, call_n, call_s, e_none, e_bool, e_int, e_str, e_name, e_boolop, e_bin, e_un, e_cmp, e_call, e_meth0, e_meth1, e_slice, e_itemC, e_itemN, e_itemB, e_itemS, e_tup, e_list, e_comp0, e_comp1, es_nil, es_cons, o_none, o_some, b_one, b_two, c_one, c_two, t_not, t_bool, t_cmp, t_call, a_nil, a_cons, i_zip, i_range, i_enum, i_call, i_name, i_sub, i_list, s_expr, s_asgN, s_asgT, s_asgS, s_if, s_for, s_ret, ss_nil, th_next, th_ret, fin_ret, tg_name, tg_two, x_add, x_sub, x_mul, x_div, x_mod, x_pow, x_addT, x_addL, x_mulL, x_neg, x_not, x_lt, x_le, x_gt, x_ge, x_eq, x_ne, x_eqS, x_neS, tr_bool, mk_f, mk_t, sa_af, sa_at, sa_of, sa_ot, it_list, it_tup, ic_zip_tl, ic_range1, ic_range2, p_int, p_tup, p_list, blt1, blt2, blt3, blt4, blt5, blt6, blt7, me_append, me_extend, me_index, ns_nil, bind_nil, bind_cons, b_len, b_isinstance, b_list, b_tuple, b_sum, ti_ii, ti_ib, ti_tt, hide_false, back_false, wItem_lit, seqD_tup, seqD_list, lstD_list, String.reduceEq, ↓reduceIte, or_self, Option.some.injEq, reduceCtorEq, if_true, if_false, true_and, and_true, exists_eq_left', exists_eq_left, Int.reduceLE, Int.reduceLT, Int.reduceToNat, List.getElem?_cons_succ, List.getElem?_cons_zero, Bool.false_eq_true, noStars, isStarE, List.all, Bool.not_false, Bool.not_true, Bool.and_self, isCallE, isTupE, isSliceE, forall_const, implies_true, Bool.or_self, ite_true, ite_false, List.length_cons, List.length_nil, Nat.reduceLeDiff, Int.reducePow, Nat.zero_add, Nat.reduceAdd, Nat.reduceBEq, decide_true, decide_false, Int.reduceNeg, Int.cast_ofNat_Int, Int.reduceBEq, beq_self_eq_true, dI_len, two_lim, bo_oa, bo_aa, imp_self, false_implies, kd0, kd1, kd2, kd3, kd4, kd5, kd6, kd7, kd8, kd9, kd10, kd11, kd12, kd13, kd14, kd15, kd16, kd17, kd18, kd19, kd20, kd21, kd22, kd23, kd24, kd25, kd26, kd27, mtL_str, lim, Int.reduceAdd, Int.reduceMul]
  have y1 : pyD (st.alloc (.list (bx.map boxD))) 3 (.list [.list (bx.map boxD), .list (dI fl)]) = some (.list [.list (bx.map boxP), .list (fl.map .int)]) := by
    simp only [pyD, D.py, pys, pys_box, pys_dI, Option.map_some]
  have y2 : pyD (st.alloc (.list (bx.map boxD))) 3 (.list [.loc st.hi, .list (dI fl)]) = some (.list [.list (bx.map boxP), .list (fl.map .int)]) := by
    have z1 : pyD (st.alloc (.list (bx.map boxD))) 2 (.loc st.hi) = some (.list (bx.map boxP)) := by
      rw [pyD, alloc_cs]
      show Option.map _ ((bx.map boxD).mapM (pyD _ 1)) = _
      rw [mapM_box _ 0 bx]; rfl
    have z2 : pyD (st.alloc (.list (bx.map boxD))) 2 (.list (dI fl)) = some (.list (fl.map .int)) := by
      have h : D.py (.list (dI fl)) = some (.list (fl.map .int)) := by simp only [D.py, pys_dI, Option.map_some]
      simp only [pyD, h]
    have z3 : D.py (.list [.loc st.hi, .list (dI fl)]) = none := by simp only [D.py, pys, Option.map_none]
    rw [pyD, z3]
    show Option.map _ ([D.loc st.hi, D.list (dI fl)].mapM (pyD _ 2)) = _
    rw [List.mapM_cons, z1, List.mapM_cons, z2, List.mapM_nil]
    rfl
  refine ⟨_, _, y1, y2, deep_ok ?_, ?_⟩
  · have := deep_boxes bx
    simp only [PyData.depth, PyData.depthAll, deep_ints]
    omega
  rw [PySem.SeqAt.eqv_refl _ (by simp [PyData.canLay0, PyData.canLayAll0, lay_boxes, lay_ints])]
  exact fin_cut (d' := .bool true) (by simp [St.alloc]) rfl (by rw [alloc_cut wf]; exact hQ)
end Mine
end

section
set_option autoImplicit false
set_option linter.unusedVariables false
namespace Mine
open PySem PySem.W PySem.Calls PyProof.Rows

noncomputable def recOf (p : Program) (i : Nat) : DefRec := match p.main.body[i]? with
  | some (.FunctionDef name a b _ _ _ sc _ _ pos) => ⟨name, a, b, sc, pos⟩
  | _ => ⟨Str.ofString "", ⟨[], [], none, [], [], none, []⟩, [], { kind := .function, names := [], isGenerator := false, isCoroutine := false }, ⟨0, 0, 0, 0⟩⟩

section
variable {p : Program} {loose : List Str} {mean : ExcName → Option Value} {mg mb : Str → Option Value} {h : Heap}
theorem fnAt_top (T : Top p loose mean mg mb h) {d : DefRec} {j : Nat} (hd : (recsOf p)[j]? = some d) (params : List Str)
    (hb : ∀ (pm code doc : Value) (vs : List Value), vs.length = params.length → bindArgs (docDef d.name d.params d.body d.scope pm code doc) ⟨vs, []⟩ = pure (params.zip vs)) :
    ∃ v, mg d.name = some v ∧ FnAt h v params d.body d.scope := by
  obtain ⟨a, o, pm, code, doc, h1, h2, h3, h4⟩ := T.fn d (List.mem_of_getElem? hd)
  exact ⟨.ref a, h1, ⟨a, o, _, rfl, h2, h3, h4, rfl, rfl, rfl, rfl, rfl, fun vs hv => hb pm code doc vs hv⟩⟩

theorem blt_top (T : Top p loose mean mg mb h) {x : Str} {v : Value} (h0 : x ≠ "__name__") (h1 : x ∉ startupNames) (h2 : x ∉ loose) (h3 : x ∉ (recsOf p).map (·.name)) (h4 : x ∉ (litsOf p).map (·.1)) (h5 : x ∉ (clssOf p loose).map (·.name))
    (hv : bootBuiltins x = some v) : mg x = none ∧ mb x = some v := ⟨T.free x h1 h2 h3 h4 h5, (T.builtins x h0).trans hv⟩
end

noncomputable def glT (x : Str) : Option D := if x = "int" then some (.val (.type "int")) else if x = "bool" then some (.val (.type "bool")) else if x = "tuple" then some (.val (.type "tuple")) else if x = "list" then some (.val (.type "list")) else none
noncomputable def Γ0 : Ctx := ⟨fun _ => none, glT⟩

/-- the builtins a text of this kind reads -/
noncomputable def bltNames : List (Str × Value) := [("len", .builtin "len"), ("isinstance", .builtin "isinstance"), ("list", .type "list"), ("tuple", .type "tuple"), ("min", .builtin "min"), ("max", .builtin "max"), ("sum", .builtin "sum"),
  ("zip", .type "zip"), ("enumerate", .type "enumerate"), ("range", .type "range"), ("int", .type "int"), ("bool", .type "bool")]
theorem ite_mem {α : Type} {c : Prop} [Decidable c] {a v : α} {r : Option α} (h : (if c then some a else r) = some v) : (c ∧ a = v) ∨ r = some v := by
  by_cases q : c
  · rw [if_pos q] at h; exact .inl ⟨q, Option.some.inj h⟩
  · rw [if_neg q] at h; exact .inr h
theorem blt_mem {x : Str} {v : Value} (h : bltV x = some v) : (x, v) ∈ bltNames := by
  rcases ite_mem h with ⟨rfl, rfl⟩ | h
  · exact .head _
  rcases ite_mem h with ⟨rfl, rfl⟩ | h
  · exact .tail _ (.head _)
  rcases ite_mem h with ⟨rfl, rfl⟩ | h
  · exact .tail _ (.tail _ (.head _))
  rcases ite_mem h with ⟨rfl, rfl⟩ | h
  · exact .tail _ (.tail _ (.tail _ (.head _)))
  rcases ite_mem h with ⟨rfl, rfl⟩ | h
  · exact .tail _ (.tail _ (.tail _ (.tail _ (.head _))))
  rcases ite_mem h with ⟨rfl, rfl⟩ | h
  · exact .tail _ (.tail _ (.tail _ (.tail _ (.tail _ (.head _)))))
  rcases ite_mem h with ⟨rfl, rfl⟩ | h
  · exact .tail _ (.tail _ (.tail _ (.tail _ (.tail _ (.tail _ (.head _))))))
  rcases ite_mem h with ⟨rfl, rfl⟩ | h
  · exact .tail _ (.tail _ (.tail _ (.tail _ (.tail _ (.tail _ (.tail _ (.head _)))))))
  rcases ite_mem h with ⟨rfl, rfl⟩ | h
  · exact .tail _ (.tail _ (.tail _ (.tail _ (.tail _ (.tail _ (.tail _ (.tail _ (.head _))))))))
  rcases ite_mem h with ⟨rfl, rfl⟩ | h
  · exact .tail _ (.tail _ (.tail _ (.tail _ (.tail _ (.tail _ (.tail _ (.tail _ (.tail _ (.head _)))))))))
  cases h
theorem gl_mem {x : Str} {d : D} (h : glT x = some d) : ∃ v, d = .val v ∧ (x, v) ∈ bltNames := by
  rcases ite_mem h with ⟨rfl, rfl⟩ | h
  · exact ⟨_, rfl, .tail _ (.tail _ (.tail _ (.tail _ (.tail _ (.tail _ (.tail _ (.tail _ (.tail _ (.tail _ (.head _))))))))))⟩
  rcases ite_mem h with ⟨rfl, rfl⟩ | h
  · exact ⟨_, rfl, .tail _ (.tail _ (.tail _ (.tail _ (.tail _ (.tail _ (.tail _ (.tail _ (.tail _ (.tail _ (.tail _ (.head _)))))))))))⟩
  rcases ite_mem h with ⟨rfl, rfl⟩ | h
  · exact ⟨_, rfl, .tail _ (.tail _ (.tail _ (.head _)))⟩
  rcases ite_mem h with ⟨rfl, rfl⟩ | h
  · exact ⟨_, rfl, .tail _ (.tail _ (.head _))⟩
  cases h

theorem ctx_of {prog : Program} {w : World} {h₀ : Heap} {mg mb : Str → Option Value} {k : Nat} {Γ : Ctx} (h1 : h₀.Ns mainGlobals mg) (h2 : h₀.Ns builtinsNs mb) (hb : ∀ x v, (x, v) ∈ bltNames → mg x = none ∧ mb x = some v) (hgl : Γ.gl = glT)
    (hfn : ∀ x S, Γ.fn x = some S → ∃ v, mg x = some v ∧ CallOK prog w h₀ k S v) : CtxOK prog w h₀ k Γ := by
  refine ⟨mg, mb, h1, h2, fun x d hx => ?_, fun x S hx => ?_, fun x v hf hx => hb x v (blt_mem hx)⟩
  · rw [hgl] at hx
    obtain ⟨v, rfl, hm⟩ := gl_mem hx
    obtain ⟨e1, e2⟩ := hb x v hm
    exact ⟨v, by rw [e1, e2]; rfl, fun R ρ _ => rfl⟩
  · obtain ⟨v, e, hc⟩ := hfn x S hx
    exact ⟨v, by rw [e]; rfl, hc⟩

noncomputable def W₀ (s : Shared) : Wd := ⟨s.heap.get?, fun _ => none, ⟨0, fun _ => none⟩⟩
theorem sim₀ (s : Shared) : Sim s.heap (W₀ s) s := by
  refine ⟨fun _ _ e => e, fun _ _ e => e, ?_, ?_, ?_, ?_⟩
  · intro n c e; cases e
  · intro n a e; cases e
  · intro n k a e; cases e
  · intro n a e; cases e
theorem aok : AOk 100 callerA := ⟨rfl, by decide, by decide⟩

theorem well_ints {P : Params} {h : Heap} : ∀ {vs : List Value} {ns : List Int}, WellAll P h vs (ofPys (ns.map .int)) → ∃ ts : List Tok, vs = (ns.zip ts).map (fun p => .int p.1 p.2) ∧ ts.length = ns.length
  | _, [], w => by
    have w' : WellAll P h _ [] := w
    cases w'; exact ⟨[], rfl, rfl⟩
  | _, n :: ns, w => by
    have w' : WellAll P h _ (.int n :: ofPys (ns.map .int)) := w
    cases w' with
    | cons w1 w2 =>
      cases w1 with
      | int _ t =>
        obtain ⟨ts, rfl, hl⟩ := well_ints w2
        exact ⟨t :: ts, rfl, by simp [hl]⟩
theorem rep_ints {R : Addr → Option Obj} {ρ : Nat → Option Addr} : ∀ (ns : List Int) (ts : List Tok), ts.length = ns.length → RepAll R ρ (ns.map .int) ((ns.zip ts).map fun p => .int p.1 p.2)
  | [], _, _ => rfl
  | n :: ns, t :: ts, h => ⟨_, _, rfl, ⟨t, rfl⟩, rep_ints ns ts (by simpa using h)⟩
  | _ :: _, [], h => by simp at h
theorem rep_script {P : Params} {s : Shared} {v : Value} {ns : List Int} (w : Well P s.heap v (ofPy (.list (ns.map .int)))) : Rep (W₀ s).R (W₀ s).ρ (.list (ns.map .int)) v := by
  have w' : Well P s.heap v (.list (ofPys (ns.map .int))) := w
  cases w' with
  | list hg wa =>
    obtain ⟨ts, rfl, hl⟩ := well_ints wa
    exact ⟨_, _, 0, rfl, hg, rep_ints ns ts hl⟩

theorem good_end {c : ClaimW} {cl : Str → Option Addr} {mean : ExcName → Option Value} {args : List WData} {s₁ s' : Shared} {v : Value} (hn : ∀ cls, c.raises args cls = false) (hp : c.post args (.bool true) args = true) (hg : s₁.gens = #[])
    (f : Fin' s₁.heap noOwn s₁ (W₀ s₁) (VP fun d _ => d = .bool true) v s') : GoodWG c cl mean args s₁ (.ok (.ret v)) s' := by
  obtain ⟨W', x, S, d, rd, rfl⟩ := f
  have e : v = .bool true := rd
  subst e
  refine GoodW.toG ⟨.inl ⟨.bool true, .bool true, [], rfl, hn, .bool true, hp, unshared_nil⟩, fun b o e => x.keep b o e (fun n q => by cases q) (fun q => q.elim), x.rest.2.1, x.rest.1.trans hg⟩
end Mine
end

section
set_option autoImplicit false
set_option Elab.async false
set_option maxRecDepth 100000
set_option maxHeartbeats 8000000
namespace Mine
open PySem PySem.W PySem.Calls PyProof.Rows PySem.Challenge

noncomputable abbrev pw1 := PySem.Challenge.pw_uf010033_01
noncomputable abbrev nof : Str → Bool := fun _ => false
noncomputable abbrev fV := wFn Γ0 nof 40 (kdOf pw1 1) ["one", "filling"] (bodyOf pw1 1)
noncomputable abbrev fO := wFn Γ0 nof 40 (kdOf pw1 2) ["one"] (bodyOf pw1 2)
noncomputable abbrev fP := wFn Γ0 mtN 40 (kdOf pw1 3) ["one", "boxes"] (bodyOf pw1 3)
noncomputable abbrev fA := wFn Γ0 nof 40 (kdOf pw1 5) ["_law_script", "_law_k"] (bodyOf pw1 5)
noncomputable abbrev fW := wFn Γ0 nof 40 (kdOf pw1 6) ["_law_thing"] (bodyOf pw1 6)
noncomputable abbrev fL := wFn Γ0 nof 40 (kdOf pw1 7) ["_law_one", "_law_filling"] (bodyOf pw1 7)
noncomputable abbrev fN := wFn Γ0 nof 40 (kdOf pw1 8) ["_law_cell", "_law_most"] (bodyOf pw1 8)
noncomputable def Γ1 : Ctx := ⟨fun x => if x = "_law_whole" then some fW else none, glT⟩
noncomputable abbrev fS := wFn Γ1 nof 40 (kdOf pw1 9) ["_law_found", "_law_many"] (bodyOf pw1 9)
noncomputable def Γ2 : Ctx := ⟨fun x => if x = "_law_at" then some fA else if x = "_law_number" then some fN else if x = "value" then some fV else if x = "_law_value" then some fL else if x = "opposite" then some fO
  else if x = "_law_whole" then some fW else if x = "_law_is_sum" then some fS else if x = "put_in" then some fP else none, glT⟩

theorem fns2 : Fns Γ2 where
  a := ⟨fA, by simp [Γ2, ofString_inj], fun sc k st Q h1 h2 => at_ok rfl sc k st Q h1 h2⟩
  n := ⟨fN, by simp [Γ2, ofString_inj], fun cell most st Q h1 h2 h3 => number_ok cell most st Q h1 h2 h3⟩
  v := ⟨fV, by simp [Γ2, ofString_inj], fun ns hs c fill st Q h1 h2 h3 h4 h5 h6 => value_ok rfl ns hs c fill st Q h1 h2 h3 h4 h5 h6⟩
  l := ⟨fL, by simp [Γ2, ofString_inj], fun ns hs c fill st Q h1 h2 h3 h4 h5 h6 => lvalue_ok rfl rfl ns hs c fill st Q h1 h2 h3 h4 h5 h6⟩
  o := ⟨fO, by simp [Γ2, ofString_inj], fun ns c st Q h1 h2 => opposite_ok rfl ns c st Q h1 h2⟩
  w := ⟨fW, by simp [Γ2, ofString_inj], fun i st Q h => whole_int rfl (by simp [Γ0, glT]) (by simp [Γ0, glT, ofString_inj]) i st Q h⟩
  s := ⟨fS, by simp [Γ2, ofString_inj], fun ns c st Q h1 h2 => isSum_ok (by simp [Γ1, ofString_inj]) (by simp [Γ1, ofString_inj]) (by simp [Γ1, glT, ofString_inj])
    ⟨fW, by simp [Γ1], fun i st Q h => whole_int rfl (by simp [Γ0, glT]) (by simp [Γ0, glT, ofString_inj]) i st Q h⟩ ns c st Q h1 h2⟩
  p := ⟨fP, by simp [Γ2, ofString_inj], fun ns c bx w st Q h0 h1 h2 h3 h4 h5 h6 h7 h8 => putIn_ok rfl rfl rfl rfl ns c bx w st Q h0 h1 h2 h3 h4 h5 h6 h7 h8⟩
  b1 := by simp [Γ2, ofString_inj]
  b2 := by simp [Γ2, ofString_inj]
  b3 := by simp [Γ2, ofString_inj]
  b4 := by simp [Γ2, ofString_inj]
end Mine
end

section
set_option autoImplicit false
set_option Elab.async false
set_option maxRecDepth 100000
set_option maxHeartbeats 8000000
namespace Mine
open PySem PySem.W PySem.Calls PyProof.Rows PySem.Challenge

theorem kd_rec (p : Program) (i : Nat) : kdOf p i = fun x => (recOf p i).scope.names.lookup x := by
  unfold kdOf recOf
  generalize p.main.body[i]? = o
  cases o with
  | none => rfl
  | some st => cases st <;> rfl
theorem body_rec (p : Program) (i : Nat) : bodyOf p i = (recOf p i).body := by
  unfold bodyOf recOf
  generalize p.main.body[i]? = o
  cases o with
  | none => rfl
  | some st => cases st <;> rfl

theorem call_rec {prog : Program} {w : World} {h₀ : Heap} {Γ : Ctx} {mt : Str → Bool} {k : Nat} {v : Value} {params : List Str} {p : Program} {i : Nat} (n : Nat) (C : CtxOK prog w h₀ k Γ) (hlim : h₀.NoLimit) (f : FnAt h₀ v params (recOf p i).body (recOf p i).scope)
    (sc : ScopeFn (recOf p i).scope params) : CallOK prog w h₀ (k + 1) (wFn Γ mt n (kdOf p i) params (bodyOf p i)) v := by
  rw [kd_rec, body_rec]
  exact fn_sound n C hlim f sc

theorem sc1 : ScopeFn (recOf pw1 1).scope ["one", "filling"] := by unfold ScopeFn; decide +kernel
theorem sc2 : ScopeFn (recOf pw1 2).scope ["one"] := by unfold ScopeFn; decide +kernel
theorem sc3 : ScopeFn (recOf pw1 3).scope ["one", "boxes"] := by unfold ScopeFn; decide +kernel
theorem sc5 : ScopeFn (recOf pw1 5).scope ["_law_script", "_law_k"] := by unfold ScopeFn; decide +kernel
theorem sc6 : ScopeFn (recOf pw1 6).scope ["_law_thing"] := by unfold ScopeFn; decide +kernel
theorem sc7 : ScopeFn (recOf pw1 7).scope ["_law_one", "_law_filling"] := by unfold ScopeFn; decide +kernel
theorem sc8 : ScopeFn (recOf pw1 8).scope ["_law_cell", "_law_most"] := by unfold ScopeFn; decide +kernel
theorem sc9 : ScopeFn (recOf pw1 9).scope ["_law_found", "_law_many"] := by unfold ScopeFn; decide +kernel
theorem sc10 : ScopeFn (recOf pw1 10).scope ["_law_script"] := by unfold ScopeFn; decide +kernel

noncomputable def BindOK (d : DefRec) (params : List Str) : Prop := ∀ (pm code doc : Value) (vs : List Value), vs.length = params.length → bindArgs (docDef d.name d.params d.body d.scope pm code doc) ⟨vs, []⟩ = pure (params.zip vs)
theorem bd1 : BindOK (recOf pw1 1) ["one", "filling"] := fun pm code doc vs h => match vs, h with
  | [_, _], _ => by kernel_rfl
theorem bd2 : BindOK (recOf pw1 2) ["one"] := fun pm code doc vs h => match vs, h with
  | [_], _ => by kernel_rfl
theorem bd3 : BindOK (recOf pw1 3) ["one", "boxes"] := fun pm code doc vs h => match vs, h with
  | [_, _], _ => by kernel_rfl
theorem bd5 : BindOK (recOf pw1 5) ["_law_script", "_law_k"] := fun pm code doc vs h => match vs, h with
  | [_, _], _ => by kernel_rfl
theorem bd6 : BindOK (recOf pw1 6) ["_law_thing"] := fun pm code doc vs h => match vs, h with
  | [_], _ => by kernel_rfl
theorem bd7 : BindOK (recOf pw1 7) ["_law_one", "_law_filling"] := fun pm code doc vs h => match vs, h with
  | [_, _], _ => by kernel_rfl
theorem bd8 : BindOK (recOf pw1 8) ["_law_cell", "_law_most"] := fun pm code doc vs h => match vs, h with
  | [_, _], _ => by kernel_rfl
theorem bd9 : BindOK (recOf pw1 9) ["_law_found", "_law_many"] := fun pm code doc vs h => match vs, h with
  | [_, _], _ => by kernel_rfl
theorem bd10 : BindOK (recOf pw1 10) ["_law_script"] := fun pm code doc vs h => match vs, h with
  | [_], _ => by kernel_rfl

section
variable {p : Program} {loose : List Str} {mean : ExcName → Option Value} {mg mb : Str → Option Value} {s : Shared} {prog : Program} {w : World}

theorem law_call (T : Top p loose mean mg mb s.heap) (hb : ∀ x v, (x, v) ∈ bltNames → mg x = none ∧ mb x = some v)
    (r1 : (recsOf p)[0]? = some (recOf pw1 1)) (r2 : (recsOf p)[1]? = some (recOf pw1 2)) (r3 : (recsOf p)[2]? = some (recOf pw1 3)) (r5 : (recsOf p)[3]? = some (recOf pw1 5)) (r6 : (recsOf p)[4]? = some (recOf pw1 6))
    (r7 : (recsOf p)[5]? = some (recOf pw1 7)) (r8 : (recsOf p)[6]? = some (recOf pw1 8)) (r9 : (recsOf p)[7]? = some (recOf pw1 9)) (r10 : (recsOf p)[8]? = some (recOf pw1 10))
    {v : Value} (hv : mg "law" = some v) (sc : List Int) (hsc : sc.length ≤ 1000) {u : Value} (hu : Rep (W₀ s).R (W₀ s).ρ (.list (sc.map .int)) u) :
    codeAny (model prog w) callerA (.call v ⟨[u], []⟩) (fun r s' => match r with | .ok (.ret u) => Fin' s.heap noOwn s (W₀ s) (VP fun d _ => d = .bool true) u s' | .ok _ => False | .error e => E0 e s') s := by
  obtain ⟨v1, n1, f1⟩ := fnAt_top T r1 _ bd1
  obtain ⟨v2, n2, f2⟩ := fnAt_top T r2 _ bd2
  obtain ⟨v3, n3, f3⟩ := fnAt_top T r3 _ bd3
  obtain ⟨v5, n5, f5⟩ := fnAt_top T r5 _ bd5
  obtain ⟨v6, n6, f6⟩ := fnAt_top T r6 _ bd6
  obtain ⟨v7, n7, f7⟩ := fnAt_top T r7 _ bd7
  obtain ⟨v8, n8, f8⟩ := fnAt_top T r8 _ bd8
  obtain ⟨v9, n9, f9⟩ := fnAt_top T r9 _ bd9
  obtain ⟨v10, n10, f10⟩ := fnAt_top T r10 _ bd10
  have e1 : mg "value" = some v1 := n1
  have e2 : mg "opposite" = some v2 := n2
  have e3 : mg "put_in" = some v3 := n3
  have e5 : mg "_law_at" = some v5 := n5
  have e6 : mg "_law_whole" = some v6 := n6
  have e7 : mg "_law_value" = some v7 := n7
  have e8 : mg "_law_number" = some v8 := n8
  have e9 : mg "_law_is_sum" = some v9 := n9
  have e10 : mg "law" = some v10 := n10
  have C0 : CtxOK prog w s.heap 0 Γ0 := ctx_of T.g T.b hb rfl fun x S h => by cases h
  have C1 : CtxOK prog w s.heap 1 Γ1 := ctx_of T.g T.b hb rfl fun x S h => by
    simp only [Γ1] at h
    split at h
    · rename_i e; subst e; cases h; exact ⟨v6, e6, call_rec 40 C0 T.nolimit f6 sc6⟩
    · cases h
  have C2 : CtxOK prog w s.heap 2 Γ2 := ctx_of T.g T.b hb rfl fun x S h => by
    simp only [Γ2] at h
    repeat' split at h
    · rename_i e; subst e; cases h; exact ⟨v5, e5, (call_rec 40 C0 T.nolimit f5 sc5).up (by decide)⟩
    · rename_i e; subst e; cases h; exact ⟨v8, e8, (call_rec 40 C0 T.nolimit f8 sc8).up (by decide)⟩
    · rename_i e; subst e; cases h; exact ⟨v1, e1, (call_rec 40 C0 T.nolimit f1 sc1).up (by decide)⟩
    · rename_i e; subst e; cases h; exact ⟨v7, e7, (call_rec 40 C0 T.nolimit f7 sc7).up (by decide)⟩
    · rename_i e; subst e; cases h; exact ⟨v2, e2, (call_rec 40 C0 T.nolimit f2 sc2).up (by decide)⟩
    · rename_i e; subst e; cases h; exact ⟨v6, e6, (call_rec 40 C0 T.nolimit f6 sc6).up (by decide)⟩
    · rename_i e; subst e; cases h; exact ⟨v9, e9, call_rec 40 C1 T.nolimit f9 sc9⟩
    · rename_i e; subst e; cases h; exact ⟨v3, e3, (call_rec 40 C0 T.nolimit f3 sc3).up (by decide)⟩
    · cases h
  rw [e10] at hv; cases hv
  refine fn_code (mt := mtL) 60 C2 T.nolimit f10 sc10 callerA (W₀ s) s [.list (sc.map .int)] [u] _ ⟨rfl, by decide, by decide⟩ (sim₀ s) (RepAll.one hu) ?_
  rw [← kd_rec, ← body_rec]
  exact law_ok fns2 sc _ _ ⟨fun _ _ => rfl, fun _ _ e => by cases e⟩ hsc rfl
end
end Mine
end

section
set_option autoImplicit false
set_option Elab.async false
set_option maxRecDepth 100000
set_option maxHeartbeats 8000000
open PySem PySem.W PyProof.Rows

theorem Mine.hbl {p : Program} {loose : List Str} {mean : ExcName → Option Value} {mg mb : Str → Option Value} {h : Heap} (T : Top p loose mean mg mb h)
    (hd : ∀ x : Str, x ∈ Mine.bltNames.map (·.1) → x ≠ "__name__" ∧ x ∉ startupNames ∧ x ∉ loose ∧ x ∉ (recsOf p).map (·.name) ∧ x ∉ (litsOf p).map (·.1) ∧ x ∉ (clssOf p loose).map (·.name))
    (hv : ∀ x v, (x, v) ∈ Mine.bltNames → bootBuiltins x = some v) : ∀ x v, (x, v) ∈ Mine.bltNames → mg x = none ∧ mb x = some v := fun x v hm => by
  obtain ⟨h0, h1, h2, h3, h4, h5⟩ := hd x (List.mem_map.mpr ⟨_, hm, rfl⟩)
  exact Mine.blt_top T h0 h1 h2 h3 h4 h5 (hv x v hm)
theorem Mine.boots : ∀ x v, (x, v) ∈ Mine.bltNames → bootBuiltins x = some v := by
  intro x v h
  simp only [Mine.bltNames, List.mem_cons, Prod.mk.injEq, List.not_mem_nil, or_false] at h
  rcases h with ⟨rfl, rfl⟩ | ⟨rfl, rfl⟩ | ⟨rfl, rfl⟩ | ⟨rfl, rfl⟩ | ⟨rfl, rfl⟩ | ⟨rfl, rfl⟩ | ⟨rfl, rfl⟩ | ⟨rfl, rfl⟩ | ⟨rfl, rfl⟩ | ⟨rfl, rfl⟩ | ⟨rfl, rfl⟩ | ⟨rfl, rfl⟩ <;> kernel_rfl

theorem PySem.Challenge.cw_uf010033_01_holds : PySem.Challenge.rw_uf010033_01.Holds := by
  w_on; o_law; k_head; (case hw => w_witness2)
  intro w s₀ s₁ mg mb G Y fa o pm cd doc dV kV ho hd hcd hD hmg hg args vals as hpre hlay hrd hwl hlo
  refine Ground.open G ?_
  intro T B D TE TW
  try (refine guard_noD D (by decide +kernel) ?_; clear D)
  wrow_args hpre hlay hrd hwl hlo
  all_goals (first | refine callC_kw (enter_call ?_) | refine enter_call ?_)
  clear hd hcd hD
  rename Well _ _ _ _ => wl
  have hb := Mine.hbl T (by decide +kernel) Mine.boots
  refine codeAny_mono (Mine.law_call T hb (by kernel_rfl) (by kernel_rfl) (by kernel_rfl) (by kernel_rfl) (by kernel_rfl) (by kernel_rfl) (by kernel_rfl) (by kernel_rfl) (by kernel_rfl) hmg _ ?_ (Mine.rep_script wl)) (fun r s' h => ?_)
  · rename_i h63 _
    omega
  · cases r with
    | error e => exact h.elim
    | ok f =>
      cases f with
      | ret u => exact Mine.good_end (raisesW_false (by wrow_none_raised)) (by first | rfl | exact postW_of (by wrow_shape) (by wtm_val) (by str_meet; first | done | w_fin)) hg h
      | next => exact h.elim
      | brk => exact h.elim
      | cont => exact h.elim
end
